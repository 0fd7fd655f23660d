-- Printed by a program of this session (wip/tools/mkprint2.py) out of the translation; Lean checks it. -- narrowed
import Derived.Test.YtcmicaheakkgdaaDoorPAllx0
import Derived.Test.YtcmicaheakkgdaaDoorPAllx1
import Derived.Test.YtcmicaheakkgdaaDoorPAllx2
import Derived.Test.YtcmicaheakkgdaaDoorDmb
import Derived.Test.YtcmicaheakkgdaaDoorPAllx3
namespace Go.Proofs.YtcmicaheakkgdaaDoor.PAll
open Go.RowKit Go.Proofs.YtcmicaheakkgdaaDoorW.PrintWords Go.Proofs.YtcmicaheakkgdaaDoorW.PrintLast Go.Proofs.YtcmicaheakkgdaaDoorW.PrintMore
attribute [local go_sem] max2_int min2_int max_two min_two max_three min_three max_four min_four   -- for this text's walks alone
set_option linter.unusedVariables false
set_option linter.unusedSimpArgs false

attribute [local go_sem high] eqA23
set_option maxHeartbeats 8000000 in
set_option maxRecDepth 100000 in
theorem redpencillaw04_known.callsT (k : Nat)  (w : World) (hG : GOK w) (h : redpencillaw04_known.f k  = some true) :
  Calls Tryd.prog 14 #[] w fun e w' => e = .returned (.bool true) ∧ Below w.heap.size w w' := by
 have hu23 := Tryd.underlying23
 have HB := Aside0.mk (Below.refl w.heap.size w)
 have HG := Aside0.mk hG
 clear hG
 have H : ((redpencillaw04_of.f 3 7).bind fun bt142 => ((redpencillaw04_of.f 5 6).bind fun bt144 => ((redpencillaw04_of.f 5 7).bind fun bt146 => ((dot_Compare.f k bt142.1 bt142.2 bt144.1 bt144.2).bind fun t152 => (if t152 = 1 then ((dot_Compare.f k bt142.1 bt142.2 bt146.1 bt146.2).bind fun t153 => (if t153 = (-1) then ((dot_Compare.f k bt142.1 bt142.2 bt142.1 bt142.2).bind fun t154 => (if t154 = 0 then ((redpencillaw04_of.f 1 1).bind fun bt155 => ((dot_Compare.f k 0 0 bt155.1 bt155.2).bind fun t157 => (if t157 = (-1) then ((dot_IsSet.f k (([(⟨bt144.1, bt144.2⟩ : S23), (⟨bt142.1, bt142.2⟩ : S23), (⟨bt146.1, bt146.2⟩ : S23)] : List (S23)))).bind fun t161 => (if t161 = true then ((dot_IsSet.f k (([(⟨bt142.1, bt142.2⟩ : S23), (⟨bt142.1, bt142.2⟩ : S23)] : List (S23)))).bind fun t165 => (if t165 = true then (redpencillaw04_known.j0 k true bt142.1 bt142.2 bt144.1 bt144.2 bt146.1 bt146.2 0 0) else ((dot_IsSet.f k ([] : List (S23))).bind fun t166 => (redpencillaw04_known.j0 k (!t166) bt142.1 bt142.2 bt144.1 bt144.2 bt146.1 bt146.2 0 0)))) else (redpencillaw04_known.j0 k true bt142.1 bt142.2 bt144.1 bt144.2 bt146.1 bt146.2 0 0))) else (redpencillaw04_known.j0 k true bt142.1 bt142.2 bt144.1 bt144.2 bt146.1 bt146.2 0 0)))) else (redpencillaw04_known.j0 k true bt142.1 bt142.2 bt144.1 bt144.2 bt146.1 bt146.2 0 0))) else (redpencillaw04_known.j0 k true bt142.1 bt142.2 bt144.1 bt144.2 bt146.1 bt146.2 0 0))) else (redpencillaw04_known.j0 k true bt142.1 bt142.2 bt144.1 bt144.2 bt146.1 bt146.2 0 0)))))) = some true := h
 clear h
 replace H := Option.bind_eq_some_iff.mp H
 obtain ⟨⟨t142, t143⟩, A10, H⟩ := H
 replace H : ((redpencillaw04_of.f 5 6).bind fun bt144 => ((redpencillaw04_of.f 5 7).bind fun bt146 => ((dot_Compare.f k t142 t143 bt144.1 bt144.2).bind fun t152 => (if t152 = 1 then ((dot_Compare.f k t142 t143 bt146.1 bt146.2).bind fun t153 => (if t153 = (-1) then ((dot_Compare.f k t142 t143 t142 t143).bind fun t154 => (if t154 = 0 then ((redpencillaw04_of.f 1 1).bind fun bt155 => ((dot_Compare.f k 0 0 bt155.1 bt155.2).bind fun t157 => (if t157 = (-1) then ((dot_IsSet.f k (([(⟨bt144.1, bt144.2⟩ : S23), (⟨t142, t143⟩ : S23), (⟨bt146.1, bt146.2⟩ : S23)] : List (S23)))).bind fun t161 => (if t161 = true then ((dot_IsSet.f k (([(⟨t142, t143⟩ : S23), (⟨t142, t143⟩ : S23)] : List (S23)))).bind fun t165 => (if t165 = true then (redpencillaw04_known.j0 k true t142 t143 bt144.1 bt144.2 bt146.1 bt146.2 0 0) else ((dot_IsSet.f k ([] : List (S23))).bind fun t166 => (redpencillaw04_known.j0 k (!t166) t142 t143 bt144.1 bt144.2 bt146.1 bt146.2 0 0)))) else (redpencillaw04_known.j0 k true t142 t143 bt144.1 bt144.2 bt146.1 bt146.2 0 0))) else (redpencillaw04_known.j0 k true t142 t143 bt144.1 bt144.2 bt146.1 bt146.2 0 0)))) else (redpencillaw04_known.j0 k true t142 t143 bt144.1 bt144.2 bt146.1 bt146.2 0 0))) else (redpencillaw04_known.j0 k true t142 t143 bt144.1 bt144.2 bt146.1 bt146.2 0 0))) else (redpencillaw04_known.j0 k true t142 t143 bt144.1 bt144.2 bt146.1 bt146.2 0 0))))) = some true := H
 have A1 := Aside0.mk A10
 clear A10
 replace H := Option.bind_eq_some_iff.mp H
 obtain ⟨⟨t144, t145⟩, A20, H⟩ := H
 replace H : ((redpencillaw04_of.f 5 7).bind fun bt146 => ((dot_Compare.f k t142 t143 t144 t145).bind fun t152 => (if t152 = 1 then ((dot_Compare.f k t142 t143 bt146.1 bt146.2).bind fun t153 => (if t153 = (-1) then ((dot_Compare.f k t142 t143 t142 t143).bind fun t154 => (if t154 = 0 then ((redpencillaw04_of.f 1 1).bind fun bt155 => ((dot_Compare.f k 0 0 bt155.1 bt155.2).bind fun t157 => (if t157 = (-1) then ((dot_IsSet.f k (([(⟨t144, t145⟩ : S23), (⟨t142, t143⟩ : S23), (⟨bt146.1, bt146.2⟩ : S23)] : List (S23)))).bind fun t161 => (if t161 = true then ((dot_IsSet.f k (([(⟨t142, t143⟩ : S23), (⟨t142, t143⟩ : S23)] : List (S23)))).bind fun t165 => (if t165 = true then (redpencillaw04_known.j0 k true t142 t143 t144 t145 bt146.1 bt146.2 0 0) else ((dot_IsSet.f k ([] : List (S23))).bind fun t166 => (redpencillaw04_known.j0 k (!t166) t142 t143 t144 t145 bt146.1 bt146.2 0 0)))) else (redpencillaw04_known.j0 k true t142 t143 t144 t145 bt146.1 bt146.2 0 0))) else (redpencillaw04_known.j0 k true t142 t143 t144 t145 bt146.1 bt146.2 0 0)))) else (redpencillaw04_known.j0 k true t142 t143 t144 t145 bt146.1 bt146.2 0 0))) else (redpencillaw04_known.j0 k true t142 t143 t144 t145 bt146.1 bt146.2 0 0))) else (redpencillaw04_known.j0 k true t142 t143 t144 t145 bt146.1 bt146.2 0 0)))) = some true := H
 have A2 := Aside0.mk A20
 clear A20
 replace H := Option.bind_eq_some_iff.mp H
 obtain ⟨⟨t146, t147⟩, A30, H⟩ := H
 replace H : ((dot_Compare.f k t142 t143 t144 t145).bind fun t152 => (if t152 = 1 then ((dot_Compare.f k t142 t143 t146 t147).bind fun t153 => (if t153 = (-1) then ((dot_Compare.f k t142 t143 t142 t143).bind fun t154 => (if t154 = 0 then ((redpencillaw04_of.f 1 1).bind fun bt155 => ((dot_Compare.f k 0 0 bt155.1 bt155.2).bind fun t157 => (if t157 = (-1) then ((dot_IsSet.f k (([(⟨t144, t145⟩ : S23), (⟨t142, t143⟩ : S23), (⟨t146, t147⟩ : S23)] : List (S23)))).bind fun t161 => (if t161 = true then ((dot_IsSet.f k (([(⟨t142, t143⟩ : S23), (⟨t142, t143⟩ : S23)] : List (S23)))).bind fun t165 => (if t165 = true then (redpencillaw04_known.j0 k true t142 t143 t144 t145 t146 t147 0 0) else ((dot_IsSet.f k ([] : List (S23))).bind fun t166 => (redpencillaw04_known.j0 k (!t166) t142 t143 t144 t145 t146 t147 0 0)))) else (redpencillaw04_known.j0 k true t142 t143 t144 t145 t146 t147 0 0))) else (redpencillaw04_known.j0 k true t142 t143 t144 t145 t146 t147 0 0)))) else (redpencillaw04_known.j0 k true t142 t143 t144 t145 t146 t147 0 0))) else (redpencillaw04_known.j0 k true t142 t143 t144 t145 t146 t147 0 0))) else (redpencillaw04_known.j0 k true t142 t143 t144 t145 t146 t147 0 0))) = some true := H
 have A3 := Aside0.mk A30
 clear A30
 have HC4 := Aside0.mk H
 clear H
 go_enter Tryd.func14, Tryd.ntmps14
 go_upto_region 2 with (first | ((with_reducible refine gate_callee (f := 34) rfl ?_); refine goesL_ (some 8) rfl rfl Tryd.func34 (by kernel_rfl) rfl #[.int .i64 3, .int .i64 7] rfl (by (try simp only [List.map_toArray, List.map_cons, List.map_nil]); first | done | rfl | (simp only [List.length_drop, List.length_take]; rfl)) ?_; (with_reducible refine (redpencillaw04_of.calls 3 7 t142 t143 _ A1.out).mono ?_); rintro e w5 ⟨rfl, hb⟩; refine ⟨_, rfl, ?_⟩; have n0_ := Aside0.mk (below_step (by repeat (first | (with_reducible first | exact HB.out | apply below_alloc | apply pw_below_drewN | apply below_drew1) | exact HB.out)) hb); clear HB; have HB := n0_; clear n0_; (try clear hb); (try clear hb2); (try clear hk); (try clear hi)) | ((with_reducible refine gate_callee (f := 34) rfl ?_); refine goesL_ (some 9) rfl rfl Tryd.func34 (by kernel_rfl) rfl #[.int .i64 5, .int .i64 6] rfl (by (try simp only [List.map_toArray, List.map_cons, List.map_nil]); first | done | rfl | (simp only [List.length_drop, List.length_take]; rfl)) ?_; (with_reducible refine (redpencillaw04_of.calls 5 6 t144 t145 _ A2.out).mono ?_); rintro e w6 ⟨rfl, hb⟩; refine ⟨_, rfl, ?_⟩; have n0_ := Aside0.mk (below_step (by repeat (first | (with_reducible first | exact HB.out | apply below_alloc | apply pw_below_drewN | apply below_drew1) | exact HB.out)) hb); clear HB; have HB := n0_; clear n0_; (try clear hb); (try clear hb2); (try clear hk); (try clear hi)) | ((with_reducible refine gate_callee (f := 34) rfl ?_); refine goesL_ (some 10) rfl rfl Tryd.func34 (by kernel_rfl) rfl #[.int .i64 5, .int .i64 7] rfl (by (try simp only [List.map_toArray, List.map_cons, List.map_nil]); first | done | rfl | (simp only [List.length_drop, List.length_take]; rfl)) ?_; (with_reducible refine (redpencillaw04_of.calls 5 7 t146 t147 _ A3.out).mono ?_); rintro e w7 ⟨rfl, hb⟩; refine ⟨_, rfl, ?_⟩; have n0_ := Aside0.mk (below_step (by repeat (first | (with_reducible first | exact HB.out | apply below_alloc | apply pw_below_drewN | apply below_drew1) | exact HB.out)) hb); clear HB; have HB := n0_; clear n0_; (try clear hb); (try clear hb2); (try clear hk); (try clear hi)) | ((with_reducible refine gate_dst (N := 1) rfl ?_); (try (refine gate_guard (by rfl) ?_; dsimp only)); refine box_event ?hg (N := 1) ?hd (cs := #[.int .i64 0, .int .i64 0]) (t := 23) ?hr ?_; (case hd => rfl); (case hg => rfl); (case hr => first | (go_simp; done) | (go_simp; rfl)); intro gb148 hg w8 hbox hb; have n0_ := Aside0.mk (below_step (by repeat (first | (with_reducible first | exact HB.out | apply below_alloc | apply pw_below_drewN | apply below_drew1) | exact HB.out)) hb); have n1_ := Aside0.mk (hbox); have n2_ := Aside0.mk ((by rw [hg]; exact (below_size (by repeat (first | (with_reducible first | exact HB.out | apply below_alloc | apply pw_below_drewN | apply below_drew1) | exact HB.out))) : w.heap.size ≤ gb148)); have n3_ := Aside0.mk ((by rw [hg]; exact (below_size (by repeat (first | (with_reducible first | exact HB.out | apply below_alloc | apply pw_below_drewN | apply below_drew1) | exact HB.out))) : w.heap.size ≤ gb148)); clear HB; have HB := n0_; have U8 := n1_; have GW148 := n2_; have V8 := n3_; clear n0_ n1_ n2_ n3_; clear hb hbox hg) | ((with_reducible refine gate_dst (N := 2) rfl ?_); (try (refine gate_guard (by rfl) ?_; dsimp only)); refine box_event ?hg (N := 2) ?hd (cs := #[.int .i64 0, .int .i64 0]) (t := 23) ?hr ?_; (case hd => rfl); (case hg => rfl); (case hr => first | (go_simp; done) | (go_simp; rfl)); intro gb149 hg w9 hbox hb; have n0_ := Aside0.mk (blk_below (g := gb148) (o := .cells #[.int .i64 0, .int .i64 0] 23 (0, 0)) (by (with_reducible repeat (first | apply blk_drewN | apply blk_drew | apply blk_alloc)); exact U8.out) hb); have n1_ := Aside0.mk (below_step (by repeat (first | (with_reducible first | exact HB.out | apply below_alloc | apply pw_below_drewN | apply below_drew1 | refine below_set ?_ V8.out) | exact HB.out)) hb); have n2_ := Aside0.mk (hbox); have n3_ := Aside0.mk ((by rw [hg]; exact (below_size (by repeat (first | (with_reducible first | exact HB.out | apply below_alloc | apply pw_below_drewN | apply below_drew1 | refine below_set ?_ V8.out) | exact HB.out))) : w.heap.size ≤ gb149)); have n4_ := Aside0.mk ((by rw [hg]; exact (below_size (by repeat (first | (with_reducible first | exact HB.out | apply below_alloc | apply pw_below_drewN | apply below_drew1 | refine below_set ?_ V8.out) | exact HB.out))) : w.heap.size ≤ gb149)); have n5_ := Aside0.mk ((by rw [hg]; exact Nat.ne_of_lt (blk_lt (g := gb148) (o := .cells #[.int .i64 0, .int .i64 0] 23 (0, 0)) (by (with_reducible repeat (first | apply blk_drewN | apply blk_drew | apply blk_alloc)); exact U8.out)) : gb148 ≠ gb149)); have n6_ := Aside0.mk ((by rw [hg]; exact Nat.ne_of_gt (blk_lt (g := gb148) (o := .cells #[.int .i64 0, .int .i64 0] 23 (0, 0)) (by (with_reducible repeat (first | apply blk_drewN | apply blk_drew | apply blk_alloc)); exact U8.out)) : gb149 ≠ gb148)); clear U8; clear HB; have U8 := n0_; have HB := n1_; have U9 := n2_; have GW149 := n3_; have V9 := n4_; have NB148_149 := n5_; have NB149_148 := n6_; clear n0_ n1_ n2_ n3_ n4_ n5_ n6_; clear hb hbox hg) | ((with_reducible refine gate_dst (N := 3) rfl ?_); (try (refine gate_guard (by rfl) ?_; dsimp only)); refine box_event ?hg (N := 3) ?hd (cs := #[.int .i64 0, .int .i64 0]) (t := 23) ?hr ?_; (case hd => rfl); (case hg => rfl); (case hr => first | (go_simp; done) | (go_simp; rfl)); intro gb150 hg w10 hbox hb; have n0_ := Aside0.mk (blk_below (g := gb148) (o := .cells #[.int .i64 0, .int .i64 0] 23 (0, 0)) (by (with_reducible repeat (first | apply blk_drewN | apply blk_drew | apply blk_alloc)); exact U8.out) hb); have n1_ := Aside0.mk (blk_below (g := gb149) (o := .cells #[.int .i64 0, .int .i64 0] 23 (0, 0)) (by (with_reducible repeat (first | apply blk_drewN | apply blk_drew | apply blk_alloc)); exact U9.out) hb); have n2_ := Aside0.mk (below_step (by repeat (first | (with_reducible first | exact HB.out | apply below_alloc | apply pw_below_drewN | apply below_drew1 | refine below_set ?_ V8.out | refine below_set ?_ V9.out) | exact HB.out)) hb); have n3_ := Aside0.mk (hbox); have n4_ := Aside0.mk ((by rw [hg]; exact (below_size (by repeat (first | (with_reducible first | exact HB.out | apply below_alloc | apply pw_below_drewN | apply below_drew1 | refine below_set ?_ V8.out | refine below_set ?_ V9.out) | exact HB.out))) : w.heap.size ≤ gb150)); have n5_ := Aside0.mk ((by rw [hg]; exact (below_size (by repeat (first | (with_reducible first | exact HB.out | apply below_alloc | apply pw_below_drewN | apply below_drew1 | refine below_set ?_ V8.out | refine below_set ?_ V9.out) | exact HB.out))) : w.heap.size ≤ gb150)); have n6_ := Aside0.mk ((by rw [hg]; exact Nat.ne_of_lt (blk_lt (g := gb148) (o := .cells #[.int .i64 0, .int .i64 0] 23 (0, 0)) (by (with_reducible repeat (first | apply blk_drewN | apply blk_drew | apply blk_alloc)); exact U8.out)) : gb148 ≠ gb150)); have n7_ := Aside0.mk ((by rw [hg]; exact Nat.ne_of_gt (blk_lt (g := gb148) (o := .cells #[.int .i64 0, .int .i64 0] 23 (0, 0)) (by (with_reducible repeat (first | apply blk_drewN | apply blk_drew | apply blk_alloc)); exact U8.out)) : gb150 ≠ gb148)); have n8_ := Aside0.mk ((by rw [hg]; exact Nat.ne_of_lt (blk_lt (g := gb149) (o := .cells #[.int .i64 0, .int .i64 0] 23 (0, 0)) (by (with_reducible repeat (first | apply blk_drewN | apply blk_drew | apply blk_alloc)); exact U9.out)) : gb149 ≠ gb150)); have n9_ := Aside0.mk ((by rw [hg]; exact Nat.ne_of_gt (blk_lt (g := gb149) (o := .cells #[.int .i64 0, .int .i64 0] 23 (0, 0)) (by (with_reducible repeat (first | apply blk_drewN | apply blk_drew | apply blk_alloc)); exact U9.out)) : gb150 ≠ gb149)); clear U8; clear U9; clear HB; have U8 := n0_; have U9 := n1_; have HB := n2_; have U0 := n3_; have GW150 := n4_; have V0 := n5_; have NB148_150 := n6_; have NB150_148 := n7_; have NB149_150 := n8_; have NB150_149 := n9_; clear n0_ n1_ n2_ n3_ n4_ n5_ n6_ n7_ n8_ n9_; clear hb hbox hg) | ((with_reducible refine gate_dst (N := 4) rfl ?_); (try (refine gate_guard (by rfl) ?_; dsimp only)); refine box_event ?hg (N := 4) ?hd (cs := #[.int .i64 0, .int .i64 0]) (t := 23) ?hr ?_; (case hd => rfl); (case hg => rfl); (case hr => first | (go_simp; done) | (go_simp; rfl)); intro gb151 hg w11 hbox hb; have n0_ := Aside0.mk (blk_below (g := gb148) (o := .cells #[.int .i64 0, .int .i64 0] 23 (0, 0)) (by (with_reducible repeat (first | apply blk_drewN | apply blk_drew | apply blk_alloc)); exact U8.out) hb); have n1_ := Aside0.mk (blk_below (g := gb149) (o := .cells #[.int .i64 0, .int .i64 0] 23 (0, 0)) (by (with_reducible repeat (first | apply blk_drewN | apply blk_drew | apply blk_alloc)); exact U9.out) hb); have n2_ := Aside0.mk (blk_below (g := gb150) (o := .cells #[.int .i64 0, .int .i64 0] 23 (0, 0)) (by (with_reducible repeat (first | apply blk_drewN | apply blk_drew | apply blk_alloc)); exact U0.out) hb); have n3_ := Aside0.mk (below_step (by repeat (first | (with_reducible first | exact HB.out | apply below_alloc | apply pw_below_drewN | apply below_drew1 | refine below_set ?_ V8.out | refine below_set ?_ V9.out | refine below_set ?_ V0.out) | exact HB.out)) hb); have n4_ := Aside0.mk (hbox); have n5_ := Aside0.mk ((by rw [hg]; exact (below_size (by repeat (first | (with_reducible first | exact HB.out | apply below_alloc | apply pw_below_drewN | apply below_drew1 | refine below_set ?_ V8.out | refine below_set ?_ V9.out | refine below_set ?_ V0.out) | exact HB.out))) : w.heap.size ≤ gb151)); have n6_ := Aside0.mk ((by rw [hg]; exact (below_size (by repeat (first | (with_reducible first | exact HB.out | apply below_alloc | apply pw_below_drewN | apply below_drew1 | refine below_set ?_ V8.out | refine below_set ?_ V9.out | refine below_set ?_ V0.out) | exact HB.out))) : w.heap.size ≤ gb151)); have n7_ := Aside0.mk ((by rw [hg]; exact Nat.ne_of_lt (blk_lt (g := gb148) (o := .cells #[.int .i64 0, .int .i64 0] 23 (0, 0)) (by (with_reducible repeat (first | apply blk_drewN | apply blk_drew | apply blk_alloc)); exact U8.out)) : gb148 ≠ gb151)); have n8_ := Aside0.mk ((by rw [hg]; exact Nat.ne_of_gt (blk_lt (g := gb148) (o := .cells #[.int .i64 0, .int .i64 0] 23 (0, 0)) (by (with_reducible repeat (first | apply blk_drewN | apply blk_drew | apply blk_alloc)); exact U8.out)) : gb151 ≠ gb148)); have n9_ := Aside0.mk ((by rw [hg]; exact Nat.ne_of_lt (blk_lt (g := gb149) (o := .cells #[.int .i64 0, .int .i64 0] 23 (0, 0)) (by (with_reducible repeat (first | apply blk_drewN | apply blk_drew | apply blk_alloc)); exact U9.out)) : gb149 ≠ gb151)); have n10_ := Aside0.mk ((by rw [hg]; exact Nat.ne_of_gt (blk_lt (g := gb149) (o := .cells #[.int .i64 0, .int .i64 0] 23 (0, 0)) (by (with_reducible repeat (first | apply blk_drewN | apply blk_drew | apply blk_alloc)); exact U9.out)) : gb151 ≠ gb149)); have n11_ := Aside0.mk ((by rw [hg]; exact Nat.ne_of_lt (blk_lt (g := gb150) (o := .cells #[.int .i64 0, .int .i64 0] 23 (0, 0)) (by (with_reducible repeat (first | apply blk_drewN | apply blk_drew | apply blk_alloc)); exact U0.out)) : gb150 ≠ gb151)); have n12_ := Aside0.mk ((by rw [hg]; exact Nat.ne_of_gt (blk_lt (g := gb150) (o := .cells #[.int .i64 0, .int .i64 0] 23 (0, 0)) (by (with_reducible repeat (first | apply blk_drewN | apply blk_drew | apply blk_alloc)); exact U0.out)) : gb151 ≠ gb150)); clear U8; clear U9; clear U0; clear HB; have U8 := n0_; have U9 := n1_; have U0 := n2_; have HB := n3_; have U1 := n4_; have GW151 := n5_; have V1 := n6_; have NB148_151 := n7_; have NB151_148 := n8_; have NB149_151 := n9_; have NB151_149 := n10_; have NB150_151 := n11_; have NB151_150 := n12_; clear n0_ n1_ n2_ n3_ n4_ n5_ n6_ n7_ n8_ n9_ n10_ n11_ n12_; clear hb hbox hg; have hnb12 := NB148_149.out; have hnc12 := NB149_148.out; have hnb13 := NB148_150.out; have hnc13 := NB150_148.out; have hnb14 := NB148_151.out; have hnc14 := NB151_148.out; have hcz15_0 : w11.cell? ⟨gb148, 0, none⟩ = some (.int .i64 0) := (blk_cell U8.out 0).trans rfl; have hcz15_1 : w11.cell? ⟨gb148, 1, none⟩ = some (.int .i64 0) := (blk_cell U8.out 1).trans rfl; have hfz15_0 := blk_frozen U8.out 0; have hfz15_1 := blk_frozen U8.out 1; have hnb16 := NB149_150.out; have hnc16 := NB150_149.out; have hnb17 := NB149_151.out; have hnc17 := NB151_149.out; have hcz18_0 : w11.cell? ⟨gb149, 0, none⟩ = some (.int .i64 0) := (blk_cell U9.out 0).trans rfl; have hcz18_1 : w11.cell? ⟨gb149, 1, none⟩ = some (.int .i64 0) := (blk_cell U9.out 1).trans rfl; have hfz18_0 := blk_frozen U9.out 0; have hfz18_1 := blk_frozen U9.out 1; have hnb19 := NB150_151.out; have hnc19 := NB151_150.out; have hcz20_0 : w11.cell? ⟨gb150, 0, none⟩ = some (.int .i64 0) := (blk_cell U0.out 0).trans rfl; have hcz20_1 : w11.cell? ⟨gb150, 1, none⟩ = some (.int .i64 0) := (blk_cell U0.out 1).trans rfl; have hfz20_0 := blk_frozen U0.out 0; have hfz20_1 := blk_frozen U0.out 1; have hcz21_0 : w11.cell? ⟨gb151, 0, none⟩ = some (.int .i64 0) := (blk_cell U1.out 0).trans rfl; have hcz21_1 : w11.cell? ⟨gb151, 1, none⟩ = some (.int .i64 0) := (blk_cell U1.out 1).trans rfl; have hfz21_0 := blk_frozen U1.out 0; have hfz21_1 := blk_frozen U1.out 1))
 (try simp only [Act.put, List.setIfInBounds_toArray, List.set_cons_zero, List.set_cons_succ])
 go_cut [51] (fun v51 wc => ∃ (kq : Nat) (x51_3 : Bool), v51 = .bool x51_3 ∧ Aside0 (redpencillaw04_known.j0 kq x51_3 t142 t143 t144 t145 t146 t147 0 0 = some true) ∧ Aside0 (kq ≤ k) ∧ Aside0 (wc.heap[gb148]? = some (.cells #[.int .i64 t142, .int .i64 t143] 23 (0, 0))) ∧ Aside0 (wc.heap[gb149]? = some (.cells #[.int .i64 t144, .int .i64 t145] 23 (0, 0))) ∧ Aside0 (wc.heap[gb150]? = some (.cells #[.int .i64 t146, .int .i64 t147] 23 (0, 0))) ∧ Aside0 (wc.heap[gb151]? = some (.cells #[.int .i64 0, .int .i64 0] 23 (0, 0))) ∧ Aside0 (Below w.heap.size w wc))
 case first =>
  have H := HC4.out
  clear HC4
  replace H := Option.bind_eq_some_iff.mp H
  obtain ⟨t152, A220, H⟩ := H
  replace H : (if t152 = 1 then ((dot_Compare.f k t142 t143 t146 t147).bind fun t153 => (if t153 = (-1) then ((dot_Compare.f k t142 t143 t142 t143).bind fun t154 => (if t154 = 0 then ((redpencillaw04_of.f 1 1).bind fun bt155 => ((dot_Compare.f k 0 0 bt155.1 bt155.2).bind fun t157 => (if t157 = (-1) then ((dot_IsSet.f k (([(⟨t144, t145⟩ : S23), (⟨t142, t143⟩ : S23), (⟨t146, t147⟩ : S23)] : List (S23)))).bind fun t161 => (if t161 = true then ((dot_IsSet.f k (([(⟨t142, t143⟩ : S23), (⟨t142, t143⟩ : S23)] : List (S23)))).bind fun t165 => (if t165 = true then (redpencillaw04_known.j0 k true t142 t143 t144 t145 t146 t147 0 0) else ((dot_IsSet.f k ([] : List (S23))).bind fun t166 => (redpencillaw04_known.j0 k (!t166) t142 t143 t144 t145 t146 t147 0 0)))) else (redpencillaw04_known.j0 k true t142 t143 t144 t145 t146 t147 0 0))) else (redpencillaw04_known.j0 k true t142 t143 t144 t145 t146 t147 0 0)))) else (redpencillaw04_known.j0 k true t142 t143 t144 t145 t146 t147 0 0))) else (redpencillaw04_known.j0 k true t142 t143 t144 t145 t146 t147 0 0))) else (redpencillaw04_known.j0 k true t142 t143 t144 t145 t146 t147 0 0)) = some true := H
  have A22 := Aside0.mk A220
  clear A220
  by_cases c23 : t152 = 1
  ·
   rw [if_pos c23] at H
   have c23b0 : (t152 == 1) = true := beq_iff_eq.mpr c23
   have c23b1 : (t152 != 1) = false := bne_eq_false_iff_eq.mpr c23
   clear c23
   (first | rw [c23b0] | (simp only [i64_w, i32_w]; rw [c23b0]) | skip)
   replace H := Option.bind_eq_some_iff.mp H
   obtain ⟨t153, A240, H⟩ := H
   replace H : (if t153 = (-1) then ((dot_Compare.f k t142 t143 t142 t143).bind fun t154 => (if t154 = 0 then ((redpencillaw04_of.f 1 1).bind fun bt155 => ((dot_Compare.f k 0 0 bt155.1 bt155.2).bind fun t157 => (if t157 = (-1) then ((dot_IsSet.f k (([(⟨t144, t145⟩ : S23), (⟨t142, t143⟩ : S23), (⟨t146, t147⟩ : S23)] : List (S23)))).bind fun t161 => (if t161 = true then ((dot_IsSet.f k (([(⟨t142, t143⟩ : S23), (⟨t142, t143⟩ : S23)] : List (S23)))).bind fun t165 => (if t165 = true then (redpencillaw04_known.j0 k true t142 t143 t144 t145 t146 t147 0 0) else ((dot_IsSet.f k ([] : List (S23))).bind fun t166 => (redpencillaw04_known.j0 k (!t166) t142 t143 t144 t145 t146 t147 0 0)))) else (redpencillaw04_known.j0 k true t142 t143 t144 t145 t146 t147 0 0))) else (redpencillaw04_known.j0 k true t142 t143 t144 t145 t146 t147 0 0)))) else (redpencillaw04_known.j0 k true t142 t143 t144 t145 t146 t147 0 0))) else (redpencillaw04_known.j0 k true t142 t143 t144 t145 t146 t147 0 0)) = some true := H
   have A24 := Aside0.mk A240
   clear A240
   by_cases c25 : t153 = (-1)
   ·
    rw [if_pos c25] at H
    have c25b0 : (t153 == (-1)) = true := beq_iff_eq.mpr c25
    have c25b1 : (t153 != (-1)) = false := bne_eq_false_iff_eq.mpr c25
    clear c25
    replace H := Option.bind_eq_some_iff.mp H
    obtain ⟨t154, A260, H⟩ := H
    replace H : (if t154 = 0 then ((redpencillaw04_of.f 1 1).bind fun bt155 => ((dot_Compare.f k 0 0 bt155.1 bt155.2).bind fun t157 => (if t157 = (-1) then ((dot_IsSet.f k (([(⟨t144, t145⟩ : S23), (⟨t142, t143⟩ : S23), (⟨t146, t147⟩ : S23)] : List (S23)))).bind fun t161 => (if t161 = true then ((dot_IsSet.f k (([(⟨t142, t143⟩ : S23), (⟨t142, t143⟩ : S23)] : List (S23)))).bind fun t165 => (if t165 = true then (redpencillaw04_known.j0 k true t142 t143 t144 t145 t146 t147 0 0) else ((dot_IsSet.f k ([] : List (S23))).bind fun t166 => (redpencillaw04_known.j0 k (!t166) t142 t143 t144 t145 t146 t147 0 0)))) else (redpencillaw04_known.j0 k true t142 t143 t144 t145 t146 t147 0 0))) else (redpencillaw04_known.j0 k true t142 t143 t144 t145 t146 t147 0 0)))) else (redpencillaw04_known.j0 k true t142 t143 t144 t145 t146 t147 0 0)) = some true := H
    have A26 := Aside0.mk A260
    clear A260
    by_cases c27 : t154 = 0
    ·
     rw [if_pos c27] at H
     have c27b0 : (t154 == 0) = true := beq_iff_eq.mpr c27
     have c27b1 : (t154 != 0) = false := bne_eq_false_iff_eq.mpr c27
     clear c27
     replace H := Option.bind_eq_some_iff.mp H
     obtain ⟨⟨t155, t156⟩, A280, H⟩ := H
     replace H : ((dot_Compare.f k 0 0 t155 t156).bind fun t157 => (if t157 = (-1) then ((dot_IsSet.f k (([(⟨t144, t145⟩ : S23), (⟨t142, t143⟩ : S23), (⟨t146, t147⟩ : S23)] : List (S23)))).bind fun t161 => (if t161 = true then ((dot_IsSet.f k (([(⟨t142, t143⟩ : S23), (⟨t142, t143⟩ : S23)] : List (S23)))).bind fun t165 => (if t165 = true then (redpencillaw04_known.j0 k true t142 t143 t144 t145 t146 t147 0 0) else ((dot_IsSet.f k ([] : List (S23))).bind fun t166 => (redpencillaw04_known.j0 k (!t166) t142 t143 t144 t145 t146 t147 0 0)))) else (redpencillaw04_known.j0 k true t142 t143 t144 t145 t146 t147 0 0))) else (redpencillaw04_known.j0 k true t142 t143 t144 t145 t146 t147 0 0))) = some true := H
     have A28 := Aside0.mk A280
     clear A280
     replace H := Option.bind_eq_some_iff.mp H
     obtain ⟨t157, A290, H⟩ := H
     replace H : (if t157 = (-1) then ((dot_IsSet.f k (([(⟨t144, t145⟩ : S23), (⟨t142, t143⟩ : S23), (⟨t146, t147⟩ : S23)] : List (S23)))).bind fun t161 => (if t161 = true then ((dot_IsSet.f k (([(⟨t142, t143⟩ : S23), (⟨t142, t143⟩ : S23)] : List (S23)))).bind fun t165 => (if t165 = true then (redpencillaw04_known.j0 k true t142 t143 t144 t145 t146 t147 0 0) else ((dot_IsSet.f k ([] : List (S23))).bind fun t166 => (redpencillaw04_known.j0 k (!t166) t142 t143 t144 t145 t146 t147 0 0)))) else (redpencillaw04_known.j0 k true t142 t143 t144 t145 t146 t147 0 0))) else (redpencillaw04_known.j0 k true t142 t143 t144 t145 t146 t147 0 0)) = some true := H
     have A29 := Aside0.mk A290
     clear A290
     by_cases c30 : t157 = (-1)
     ·
      rw [if_pos c30] at H
      have c30b0 : (t157 == (-1)) = true := beq_iff_eq.mpr c30
      have c30b1 : (t157 != (-1)) = false := bne_eq_false_iff_eq.mpr c30
      clear c30
      obtain ⟨y158, hy158⟩ : ∃ y_ : List (S23), y_ = (([(⟨t144, t145⟩ : S23), (⟨t142, t143⟩ : S23), (⟨t146, t147⟩ : S23)] : List (S23))) := ⟨_, rfl⟩
      replace H : ((dot_IsSet.f k y158).bind fun t161 => (if t161 = true then ((dot_IsSet.f k (([(⟨t142, t143⟩ : S23), (⟨t142, t143⟩ : S23)] : List (S23)))).bind fun t165 => (if t165 = true then (redpencillaw04_known.j0 k true t142 t143 t144 t145 t146 t147 0 0) else ((dot_IsSet.f k ([] : List (S23))).bind fun t166 => (redpencillaw04_known.j0 k (!t166) t142 t143 t144 t145 t146 t147 0 0)))) else (redpencillaw04_known.j0 k true t142 t143 t144 t145 t146 t147 0 0))) = some true := by first | (rw [hy158]; with_reducible exact H) | (have H2_ := (Option.bind_some _ _).symm.trans H; rw [hy158]; with_reducible exact H2_) | (have H2_ := (Option.bind_some _ _).symm.trans H; with_reducible exact H2_) | with_reducible exact H | (rw [hy158]; exact H) | exact H
      have Ny158 := Aside0.mk hy158
      clear hy158
      replace H := Option.bind_eq_some_iff.mp H
      obtain ⟨t161, A310, H⟩ := H
      replace H : (if t161 = true then ((dot_IsSet.f k (([(⟨t142, t143⟩ : S23), (⟨t142, t143⟩ : S23)] : List (S23)))).bind fun t165 => (if t165 = true then (redpencillaw04_known.j0 k true t142 t143 t144 t145 t146 t147 0 0) else ((dot_IsSet.f k ([] : List (S23))).bind fun t166 => (redpencillaw04_known.j0 k (!t166) t142 t143 t144 t145 t146 t147 0 0)))) else (redpencillaw04_known.j0 k true t142 t143 t144 t145 t146 t147 0 0)) = some true := H
      have A31 := Aside0.mk A310
      clear A310
      by_cases c32 : t161 = true
      ·
       subst c32
       have H1 : ((dot_IsSet.f k (([(⟨t142, t143⟩ : S23), (⟨t142, t143⟩ : S23)] : List (S23)))).bind fun t165 => (if t165 = true then (redpencillaw04_known.j0 k true t142 t143 t144 t145 t146 t147 0 0) else ((dot_IsSet.f k ([] : List (S23))).bind fun t166 => (redpencillaw04_known.j0 k (!t166) t142 t143 t144 t145 t146 t147 0 0)))) = some true := by rw [if_pos rfl] at H; exact H
       clear H
       have H := H1
       clear H1
       obtain ⟨y162, hy162⟩ : ∃ y_ : List (S23), y_ = (([(⟨t142, t143⟩ : S23), (⟨t142, t143⟩ : S23)] : List (S23))) := ⟨_, rfl⟩
       replace H : ((dot_IsSet.f k y162).bind fun t165 => (if t165 = true then (redpencillaw04_known.j0 k true t142 t143 t144 t145 t146 t147 0 0) else ((dot_IsSet.f k ([] : List (S23))).bind fun t166 => (redpencillaw04_known.j0 k (!t166) t142 t143 t144 t145 t146 t147 0 0)))) = some true := by first | (rw [hy162]; with_reducible exact H) | (have H2_ := (Option.bind_some _ _).symm.trans H; rw [hy162]; with_reducible exact H2_) | (have H2_ := (Option.bind_some _ _).symm.trans H; with_reducible exact H2_) | with_reducible exact H | (rw [hy162]; exact H) | exact H
       have Ny162 := Aside0.mk hy162
       clear hy162
       replace H := Option.bind_eq_some_iff.mp H
       obtain ⟨t165, A330, H⟩ := H
       replace H : (if t165 = true then (redpencillaw04_known.j0 k true t142 t143 t144 t145 t146 t147 0 0) else ((dot_IsSet.f k ([] : List (S23))).bind fun t166 => (redpencillaw04_known.j0 k (!t166) t142 t143 t144 t145 t146 t147 0 0))) = some true := H
       have A33 := Aside0.mk A330
       clear A330
       by_cases c34 : t165 = true
       ·
        subst c34
        have H1 : (redpencillaw04_known.j0 k true t142 t143 t144 t145 t146 t147 0 0) = some true := by rw [if_pos rfl] at H; exact H
        exact absurd H1 (redpencillaw04_known.j0_no _ _ _ _ _ _ _ _ _)
       ·
        replace c34 := Bool.eq_false_iff.mpr c34
        subst c34
        have H1 : ((dot_IsSet.f k ([] : List (S23))).bind fun t166 => (redpencillaw04_known.j0 k (!t166) t142 t143 t144 t145 t146 t147 0 0)) = some true := by rw [if_neg (show ¬ (false = true) by decide)] at H; exact H
        clear H
        have H := H1
        clear H1
        replace H := Option.bind_eq_some_iff.mp H
        obtain ⟨t166, A500, H⟩ := H
        replace H : (redpencillaw04_known.j0 k (!t166) t142 t143 t144 t145 t146 t147 0 0) = some true := H
        have A50 := Aside0.mk A500
        clear A500
        have H' := Aside0.mk H
        clear H
        try go_wp2
        have n0_ : Aside0 (((((((((w11.setCell ⟨gb148, 0, none⟩ (.int .i64 t142)).setCell ⟨gb148, 1, none⟩ (.int .i64 t143)).setCell ⟨gb149, 0, none⟩ (.int .i64 t144)).setCell ⟨gb149, 1, none⟩ (.int .i64 t145)).setCell ⟨gb150, 0, none⟩ (.int .i64 t146)).setCell ⟨gb150, 1, none⟩ (.int .i64 t147)).setCell ⟨gb151, 0, none⟩ (.int .i64 0)).setCell ⟨gb151, 1, none⟩ (.int .i64 0)).heap[gb148]? = some (.cells #[.int .i64 t142, .int .i64 t143] 23 (0, 0))) := ⟨by (with_reducible repeat (first | apply blk_drewN | apply blk_drew | apply blk_alloc)); refine blk_far ?_ NB148_151.out _; (with_reducible repeat (first | apply blk_drewN | apply blk_drew | apply blk_alloc)); refine blk_far ?_ NB148_151.out _; (with_reducible repeat (first | apply blk_drewN | apply blk_drew | apply blk_alloc)); refine blk_far ?_ NB148_150.out _; (with_reducible repeat (first | apply blk_drewN | apply blk_drew | apply blk_alloc)); refine blk_far ?_ NB148_150.out _; (with_reducible repeat (first | apply blk_drewN | apply blk_drew | apply blk_alloc)); refine blk_far ?_ NB148_149.out _; (with_reducible repeat (first | apply blk_drewN | apply blk_drew | apply blk_alloc)); refine blk_far ?_ NB148_149.out _; (with_reducible repeat (first | apply blk_drewN | apply blk_drew | apply blk_alloc)); refine blk_put (cs := #[.int .i64 t142, .int .i64 0]) ?_ 1 _ rfl; (with_reducible repeat (first | apply blk_drewN | apply blk_drew | apply blk_alloc)); refine blk_put (cs := #[.int .i64 0, .int .i64 0]) ?_ 0 _ rfl; (with_reducible repeat (first | apply blk_drewN | apply blk_drew | apply blk_alloc)); exact U8.out⟩
        have n1_ : Aside0 (((((((((w11.setCell ⟨gb148, 0, none⟩ (.int .i64 t142)).setCell ⟨gb148, 1, none⟩ (.int .i64 t143)).setCell ⟨gb149, 0, none⟩ (.int .i64 t144)).setCell ⟨gb149, 1, none⟩ (.int .i64 t145)).setCell ⟨gb150, 0, none⟩ (.int .i64 t146)).setCell ⟨gb150, 1, none⟩ (.int .i64 t147)).setCell ⟨gb151, 0, none⟩ (.int .i64 0)).setCell ⟨gb151, 1, none⟩ (.int .i64 0)).heap[gb149]? = some (.cells #[.int .i64 t144, .int .i64 t145] 23 (0, 0))) := ⟨by (with_reducible repeat (first | apply blk_drewN | apply blk_drew | apply blk_alloc)); refine blk_far ?_ NB149_151.out _; (with_reducible repeat (first | apply blk_drewN | apply blk_drew | apply blk_alloc)); refine blk_far ?_ NB149_151.out _; (with_reducible repeat (first | apply blk_drewN | apply blk_drew | apply blk_alloc)); refine blk_far ?_ NB149_150.out _; (with_reducible repeat (first | apply blk_drewN | apply blk_drew | apply blk_alloc)); refine blk_far ?_ NB149_150.out _; (with_reducible repeat (first | apply blk_drewN | apply blk_drew | apply blk_alloc)); refine blk_put (cs := #[.int .i64 t144, .int .i64 0]) ?_ 1 _ rfl; (with_reducible repeat (first | apply blk_drewN | apply blk_drew | apply blk_alloc)); refine blk_put (cs := #[.int .i64 0, .int .i64 0]) ?_ 0 _ rfl; (with_reducible repeat (first | apply blk_drewN | apply blk_drew | apply blk_alloc)); refine blk_far ?_ NB149_148.out _; (with_reducible repeat (first | apply blk_drewN | apply blk_drew | apply blk_alloc)); refine blk_far ?_ NB149_148.out _; (with_reducible repeat (first | apply blk_drewN | apply blk_drew | apply blk_alloc)); exact U9.out⟩
        have n2_ : Aside0 (((((((((w11.setCell ⟨gb148, 0, none⟩ (.int .i64 t142)).setCell ⟨gb148, 1, none⟩ (.int .i64 t143)).setCell ⟨gb149, 0, none⟩ (.int .i64 t144)).setCell ⟨gb149, 1, none⟩ (.int .i64 t145)).setCell ⟨gb150, 0, none⟩ (.int .i64 t146)).setCell ⟨gb150, 1, none⟩ (.int .i64 t147)).setCell ⟨gb151, 0, none⟩ (.int .i64 0)).setCell ⟨gb151, 1, none⟩ (.int .i64 0)).heap[gb150]? = some (.cells #[.int .i64 t146, .int .i64 t147] 23 (0, 0))) := ⟨by (with_reducible repeat (first | apply blk_drewN | apply blk_drew | apply blk_alloc)); refine blk_far ?_ NB150_151.out _; (with_reducible repeat (first | apply blk_drewN | apply blk_drew | apply blk_alloc)); refine blk_far ?_ NB150_151.out _; (with_reducible repeat (first | apply blk_drewN | apply blk_drew | apply blk_alloc)); refine blk_put (cs := #[.int .i64 t146, .int .i64 0]) ?_ 1 _ rfl; (with_reducible repeat (first | apply blk_drewN | apply blk_drew | apply blk_alloc)); refine blk_put (cs := #[.int .i64 0, .int .i64 0]) ?_ 0 _ rfl; (with_reducible repeat (first | apply blk_drewN | apply blk_drew | apply blk_alloc)); refine blk_far ?_ NB150_149.out _; (with_reducible repeat (first | apply blk_drewN | apply blk_drew | apply blk_alloc)); refine blk_far ?_ NB150_149.out _; (with_reducible repeat (first | apply blk_drewN | apply blk_drew | apply blk_alloc)); refine blk_far ?_ NB150_148.out _; (with_reducible repeat (first | apply blk_drewN | apply blk_drew | apply blk_alloc)); refine blk_far ?_ NB150_148.out _; (with_reducible repeat (first | apply blk_drewN | apply blk_drew | apply blk_alloc)); exact U0.out⟩
        have n3_ : Aside0 (((((((((w11.setCell ⟨gb148, 0, none⟩ (.int .i64 t142)).setCell ⟨gb148, 1, none⟩ (.int .i64 t143)).setCell ⟨gb149, 0, none⟩ (.int .i64 t144)).setCell ⟨gb149, 1, none⟩ (.int .i64 t145)).setCell ⟨gb150, 0, none⟩ (.int .i64 t146)).setCell ⟨gb150, 1, none⟩ (.int .i64 t147)).setCell ⟨gb151, 0, none⟩ (.int .i64 0)).setCell ⟨gb151, 1, none⟩ (.int .i64 0)).heap[gb151]? = some (.cells #[.int .i64 0, .int .i64 0] 23 (0, 0))) := ⟨by (with_reducible repeat (first | apply blk_drewN | apply blk_drew | apply blk_alloc)); refine blk_put (cs := #[.int .i64 0, .int .i64 0]) ?_ 1 _ rfl; (with_reducible repeat (first | apply blk_drewN | apply blk_drew | apply blk_alloc)); refine blk_put (cs := #[.int .i64 0, .int .i64 0]) ?_ 0 _ rfl; (with_reducible repeat (first | apply blk_drewN | apply blk_drew | apply blk_alloc)); refine blk_far ?_ NB151_150.out _; (with_reducible repeat (first | apply blk_drewN | apply blk_drew | apply blk_alloc)); refine blk_far ?_ NB151_150.out _; (with_reducible repeat (first | apply blk_drewN | apply blk_drew | apply blk_alloc)); refine blk_far ?_ NB151_149.out _; (with_reducible repeat (first | apply blk_drewN | apply blk_drew | apply blk_alloc)); refine blk_far ?_ NB151_149.out _; (with_reducible repeat (first | apply blk_drewN | apply blk_drew | apply blk_alloc)); refine blk_far ?_ NB151_148.out _; (with_reducible repeat (first | apply blk_drewN | apply blk_drew | apply blk_alloc)); refine blk_far ?_ NB151_148.out _; (with_reducible repeat (first | apply blk_drewN | apply blk_drew | apply blk_alloc)); exact U1.out⟩
        have n4_ : Aside0 (Below w.heap.size w ((((((((w11.setCell ⟨gb148, 0, none⟩ (.int .i64 t142)).setCell ⟨gb148, 1, none⟩ (.int .i64 t143)).setCell ⟨gb149, 0, none⟩ (.int .i64 t144)).setCell ⟨gb149, 1, none⟩ (.int .i64 t145)).setCell ⟨gb150, 0, none⟩ (.int .i64 t146)).setCell ⟨gb150, 1, none⟩ (.int .i64 t147)).setCell ⟨gb151, 0, none⟩ (.int .i64 0)).setCell ⟨gb151, 1, none⟩ (.int .i64 0))) := ⟨by repeat (first | (with_reducible first | exact HB.out | apply below_alloc | apply pw_below_drewN | apply below_drew1 | refine below_set ?_ V8.out | refine below_set ?_ V9.out | refine below_set ?_ V0.out | refine below_set ?_ V1.out) | exact HB.out)⟩
        (try clear U8)
        (try clear U9)
        (try clear U0)
        (try clear U1)
        (try clear HB)
        generalize ((((((((w11.setCell ⟨gb148, 0, none⟩ (.int .i64 t142)).setCell ⟨gb148, 1, none⟩ (.int .i64 t143)).setCell ⟨gb149, 0, none⟩ (.int .i64 t144)).setCell ⟨gb149, 1, none⟩ (.int .i64 t145)).setCell ⟨gb150, 0, none⟩ (.int .i64 t146)).setCell ⟨gb150, 1, none⟩ (.int .i64 t147)).setCell ⟨gb151, 0, none⟩ (.int .i64 0)).setCell ⟨gb151, 1, none⟩ (.int .i64 0)) = w51 at n0_ n1_ n2_ n3_ n4_ ⊢
        have U8 := n0_
        have U9 := n1_
        have U0 := n2_
        have U1 := n3_
        have HB := n4_
        clear n0_ n1_ n2_ n3_ n4_
        have n0_ := Aside0.mk (blk_drew U8.out)
        have n1_ := Aside0.mk (blk_drew U9.out)
        have n2_ := Aside0.mk (blk_drew U0.out)
        have n3_ := Aside0.mk (blk_drew U1.out)
        have n4_ := Aside0.mk (below_drew1 HB.out)
        clear U8
        clear U9
        clear U0
        clear U1
        clear HB
        have U8 := n0_
        have U9 := n1_
        have U0 := n2_
        have U1 := n3_
        have HB := n4_
        clear n0_ n1_ n2_ n3_ n4_
        refine start_ (n := 40) (S := fun w' => w'.cell? ⟨gb148, 0, none⟩ = some (.int .i64 t142) ∧ w'.cell? ⟨gb148, 1, none⟩ = some (.int .i64 t143) ∧ w'.cell? ⟨gb149, 0, none⟩ = some (.int .i64 t144) ∧ w'.cell? ⟨gb149, 1, none⟩ = some (.int .i64 t145) ∧ w'.cell? ⟨gb150, 0, none⟩ = some (.int .i64 t146) ∧ w'.cell? ⟨gb150, 1, none⟩ = some (.int .i64 t147) ∧ w'.cell? ⟨gb151, 0, none⟩ = some (.int .i64 0) ∧ w'.cell? ⟨gb151, 1, none⟩ = some (.int .i64 0)) (ds := []) #[false, false, false, false, false, false, false, false, false, false, false, false, false, false, false, false, false, false, false, false, false, false, false, false, false, false, false, false, false, false, false, false, false, false, false, false, false, false, false, false] (by kernel_rfl) rfl rfl ⟨(blk_cell U8.out 0).trans rfl, (blk_cell U8.out 1).trans rfl, (blk_cell U9.out 0).trans rfl, (blk_cell U9.out 1).trans rfl, (blk_cell U0.out 0).trans rfl, (blk_cell U0.out 1).trans rfl, (blk_cell U1.out 0).trans rfl, (blk_cell U1.out 1).trans rfl⟩ (fun hHeld => ?_); refine with_tabW redpencillaw04_known.tab2 redpencillaw04_known.bits2 (fun HT_ HW_ => ?_)
        generalize w51.drew = w52 at U8 U9 U0 U1 HB hHeld ⊢
        refine take_ (i := 0) (N := some 12) (v := ?_) (a' := ?_) #[true, false, false, false, false, false, false, false, false, false, false, false, false, false, false, false, false, false, false, false, false, false, false, false, false, false, false, false, false, false, false, false, false, false, false, false, false, false, false, false] rfl rfl (take_ofW HT_.out HW_.out (by kernel_rfl)) (fun _ _ _ h => h) (Or.inl ⟨by rfl, ?_⟩) hHeld ?_ ?_
        rotate_left
        ·
         rintro w' ⟨s0, s1, s2, s3, s4, s5, s6, s7⟩
         go_simp
         with_reducible rfl
        rotate_left
        ·
         simp only [Act.put, List.setIfInBounds_toArray, List.set_cons_zero, List.set_cons_succ, i64_w, i32_w]
         rfl
        refine take_ (i := 1) (N := some 13) (v := ?_) (a' := ?_) #[true, true, false, false, false, false, false, false, false, false, false, false, false, false, false, false, false, false, false, false, false, false, false, false, false, false, false, false, false, false, false, false, false, false, false, false, false, false, false, false] rfl rfl (take_ofW HT_.out HW_.out (by kernel_rfl)) (fun _ _ _ h => h) (Or.inl ⟨by rfl, ?_⟩) hHeld ?_ ?_
        rotate_left
        ·
         rintro w' ⟨s0, s1, s2, s3, s4, s5, s6, s7⟩
         go_simp
         with_reducible rfl
        rotate_left
        ·
         simp only [Act.put, List.setIfInBounds_toArray, List.set_cons_zero, List.set_cons_succ, i64_w, i32_w]
         rfl
        refine one_ (i := 2) (N := some 14) #[true, true, true, false, false, false, false, false, false, false, false, false, false, false, false, false, false, false, false, false, false, false, false, false, false, false, false, false, false, false, false, false, false, false, false, false, false, false, false, false] rfl rfl (one_of HT_.out (by kernel_rfl)) (by decide) (fun K hK => ?_)
        refine goes_ Tryd.func12 (by kernel_rfl) rfl #[.agg #[.int .i64 t142, .int .i64 t143], .agg #[.int .i64 t144, .int .i64 t145]] (by rfl) rfl rfl (by (try simp only [List.map_toArray, List.map_cons, List.map_nil]); first | done | rfl | (simp only [List.length_drop, List.length_take]; rfl)) ?_
        with_reducible refine (dot_Compare.calls k t142 t143 t144 t145 t152 _ A22.out).mono ?_
        rintro e w53 ⟨rfl, hb⟩
        refine ⟨_, rfl, ?_⟩
        have n0_ := Aside0.mk (blk_below (g := gb148) (o := .cells #[.int .i64 t142, .int .i64 t143] 23 (0, 0)) (by (with_reducible repeat (first | apply blk_drewN | apply blk_drew | apply blk_alloc)); exact U8.out) hb)
        have n1_ := Aside0.mk (blk_below (g := gb149) (o := .cells #[.int .i64 t144, .int .i64 t145] 23 (0, 0)) (by (with_reducible repeat (first | apply blk_drewN | apply blk_drew | apply blk_alloc)); exact U9.out) hb)
        have n2_ := Aside0.mk (blk_below (g := gb150) (o := .cells #[.int .i64 t146, .int .i64 t147] 23 (0, 0)) (by (with_reducible repeat (first | apply blk_drewN | apply blk_drew | apply blk_alloc)); exact U0.out) hb)
        have n3_ := Aside0.mk (blk_below (g := gb151) (o := .cells #[.int .i64 0, .int .i64 0] 23 (0, 0)) (by (with_reducible repeat (first | apply blk_drewN | apply blk_drew | apply blk_alloc)); exact U1.out) hb)
        have n4_ := Aside0.mk (below_step (by repeat (first | (with_reducible first | exact HB.out | apply below_alloc | apply pw_below_drewN | apply below_drew1 | refine below_set ?_ V8.out | refine below_set ?_ V9.out | refine below_set ?_ V0.out | refine below_set ?_ V1.out) | exact HB.out)) hb)
        clear U8
        clear U9
        clear U0
        clear U1
        clear HB
        have U8 := n0_
        have U9 := n1_
        have U0 := n2_
        have U1 := n3_
        have HB := n4_
        clear n0_ n1_ n2_ n3_ n4_
        (try clear hb)
        (try clear hb2)
        (try clear hk)
        (try clear hi)
        refine hK.out _ _ ⟨(blk_cell U8.out 0).trans rfl, (blk_cell U8.out 1).trans rfl, (blk_cell U9.out 0).trans rfl, (blk_cell U9.out 1).trans rfl, (blk_cell U0.out 0).trans rfl, (blk_cell U0.out 1).trans rfl, (blk_cell U1.out 0).trans rfl, (blk_cell U1.out 1).trans rfl⟩ (fun hHeld => ?_)
        clear hK K
        refine norm_ (a' := ?_) ?_ ?_
        rotate_left
        ·
         show Act.put _ (some 14) _ = _
         simp only [Act.put, List.setIfInBounds_toArray, List.set_cons_zero, List.set_cons_succ, i64_w, i32_w]
         rfl
        refine pure_ (i := 3) (N := some 15) (v := ?_) (a' := ?_) #[true, true, true, true, false, false, false, false, false, false, false, false, false, false, false, false, false, false, false, false, false, false, false, false, false, false, false, false, false, false, false, false, false, false, false, false, false, false, false, false] rfl rfl (any_of HT_.out (by kernel_rfl)) (fun _ _ _ h => h) (Or.inl ⟨by rfl, ?_⟩) ?_ ?_
        rotate_left
        ·
         intro w'
         go_simp
         with_reducible rfl
        rotate_left
        ·
         simp only [Act.put, List.setIfInBounds_toArray, List.set_cons_zero, List.set_cons_succ, i64_w, i32_w]
         rfl
        refine pure_ (i := 4) (N := some 16) (v := ?_) (a' := ?_) #[true, true, true, true, true, false, false, false, false, false, false, false, false, false, false, false, false, false, false, false, false, false, false, false, false, false, false, false, false, false, false, false, false, false, false, false, false, false, false, false] rfl rfl (any_of HT_.out (by kernel_rfl)) (fun _ _ _ h => h) (Or.inl ⟨by rfl, ?_⟩) ?_ ?_
        rotate_left
        ·
         intro w'
         go_simp
         with_reducible rfl
        rotate_left
        ·
         simp only [Act.put, List.setIfInBounds_toArray, List.set_cons_zero, List.set_cons_succ, i64_w, i32_w]
         rfl
        refine take_ (i := 5) (N := some 17) (v := ?_) (a' := ?_) #[true, true, true, true, true, true, false, false, false, false, false, false, false, false, false, false, false, false, false, false, false, false, false, false, false, false, false, false, false, false, false, false, false, false, false, false, false, false, false, false] rfl rfl (take_ofW HT_.out HW_.out (by kernel_rfl)) (fun _ _ _ h => h) (Or.inl ⟨by rfl, ?_⟩) hHeld ?_ ?_
        rotate_left
        ·
         rintro w' ⟨s0, s1, s2, s3, s4, s5, s6, s7⟩
         go_simp
         with_reducible rfl
        rotate_left
        ·
         simp only [Act.put, List.setIfInBounds_toArray, List.set_cons_zero, List.set_cons_succ, i64_w, i32_w]
         rfl
        refine take_ (i := 6) (N := some 18) (v := ?_) (a' := ?_) #[true, true, true, true, true, true, true, false, false, false, false, false, false, false, false, false, false, false, false, false, false, false, false, false, false, false, false, false, false, false, false, false, false, false, false, false, false, false, false, false] rfl rfl (take_ofW HT_.out HW_.out (by kernel_rfl)) (fun _ _ _ h => h) (Or.inl ⟨by rfl, ?_⟩) hHeld ?_ ?_
        rotate_left
        ·
         rintro w' ⟨s0, s1, s2, s3, s4, s5, s6, s7⟩
         go_simp
         with_reducible rfl
        rotate_left
        ·
         simp only [Act.put, List.setIfInBounds_toArray, List.set_cons_zero, List.set_cons_succ, i64_w, i32_w]
         rfl
        refine one_ (i := 7) (N := some 19) #[true, true, true, true, true, true, true, true, false, false, false, false, false, false, false, false, false, false, false, false, false, false, false, false, false, false, false, false, false, false, false, false, false, false, false, false, false, false, false, false] rfl rfl (one_of HT_.out (by kernel_rfl)) (by decide) (fun K hK => ?_)
        refine goes_ Tryd.func12 (by kernel_rfl) rfl #[.agg #[.int .i64 t142, .int .i64 t143], .agg #[.int .i64 t146, .int .i64 t147]] (by rfl) rfl rfl (by (try simp only [List.map_toArray, List.map_cons, List.map_nil]); first | done | rfl | (simp only [List.length_drop, List.length_take]; rfl)) ?_
        with_reducible refine (dot_Compare.calls k t142 t143 t146 t147 t153 _ A24.out).mono ?_
        rintro e w54 ⟨rfl, hb⟩
        refine ⟨_, rfl, ?_⟩
        have n0_ := Aside0.mk (blk_below (g := gb148) (o := .cells #[.int .i64 t142, .int .i64 t143] 23 (0, 0)) (by (with_reducible repeat (first | apply blk_drewN | apply blk_drew | apply blk_alloc)); exact U8.out) hb)
        have n1_ := Aside0.mk (blk_below (g := gb149) (o := .cells #[.int .i64 t144, .int .i64 t145] 23 (0, 0)) (by (with_reducible repeat (first | apply blk_drewN | apply blk_drew | apply blk_alloc)); exact U9.out) hb)
        have n2_ := Aside0.mk (blk_below (g := gb150) (o := .cells #[.int .i64 t146, .int .i64 t147] 23 (0, 0)) (by (with_reducible repeat (first | apply blk_drewN | apply blk_drew | apply blk_alloc)); exact U0.out) hb)
        have n3_ := Aside0.mk (blk_below (g := gb151) (o := .cells #[.int .i64 0, .int .i64 0] 23 (0, 0)) (by (with_reducible repeat (first | apply blk_drewN | apply blk_drew | apply blk_alloc)); exact U1.out) hb)
        have n4_ := Aside0.mk (below_step (by repeat (first | (with_reducible first | exact HB.out | apply below_alloc | apply pw_below_drewN | apply below_drew1 | refine below_set ?_ V8.out | refine below_set ?_ V9.out | refine below_set ?_ V0.out | refine below_set ?_ V1.out) | exact HB.out)) hb)
        clear U8
        clear U9
        clear U0
        clear U1
        clear HB
        have U8 := n0_
        have U9 := n1_
        have U0 := n2_
        have U1 := n3_
        have HB := n4_
        clear n0_ n1_ n2_ n3_ n4_
        (try clear hb)
        (try clear hb2)
        (try clear hk)
        (try clear hi)
        refine hK.out _ _ ⟨(blk_cell U8.out 0).trans rfl, (blk_cell U8.out 1).trans rfl, (blk_cell U9.out 0).trans rfl, (blk_cell U9.out 1).trans rfl, (blk_cell U0.out 0).trans rfl, (blk_cell U0.out 1).trans rfl, (blk_cell U1.out 0).trans rfl, (blk_cell U1.out 1).trans rfl⟩ (fun hHeld => ?_)
        clear hK K
        refine norm_ (a' := ?_) ?_ ?_
        rotate_left
        ·
         show Act.put _ (some 19) _ = _
         simp only [Act.put, List.setIfInBounds_toArray, List.set_cons_zero, List.set_cons_succ, i64_w, i32_w]
         rfl
        refine pure_ (i := 8) (N := some 20) (v := ?_) (a' := ?_) #[true, true, true, true, true, true, true, true, true, false, false, false, false, false, false, false, false, false, false, false, false, false, false, false, false, false, false, false, false, false, false, false, false, false, false, false, false, false, false, false] rfl rfl (any_of HT_.out (by kernel_rfl)) (fun _ _ _ h => h) (Or.inl ⟨by rfl, ?_⟩) ?_ ?_
        rotate_left
        ·
         intro w'
         go_simp
         with_reducible rfl
        rotate_left
        ·
         simp only [Act.put, List.setIfInBounds_toArray, List.set_cons_zero, List.set_cons_succ, i64_w, i32_w]
         rfl
        refine pure_ (i := 9) (N := some 21) (v := ?_) (a' := ?_) #[true, true, true, true, true, true, true, true, true, true, false, false, false, false, false, false, false, false, false, false, false, false, false, false, false, false, false, false, false, false, false, false, false, false, false, false, false, false, false, false] rfl rfl (any_of HT_.out (by kernel_rfl)) (fun _ _ _ h => h) (Or.inl ⟨by rfl, ?_⟩) ?_ ?_
        rotate_left
        ·
         intro w'
         go_simp
         with_reducible rfl
        rotate_left
        ·
         simp only [Act.put, List.setIfInBounds_toArray, List.set_cons_zero, List.set_cons_succ, i64_w, i32_w]
         rfl
        refine pure_ (i := 10) (N := some 22) (v := ?_) (a' := ?_) #[true, true, true, true, true, true, true, true, true, true, true, false, false, false, false, false, false, false, false, false, false, false, false, false, false, false, false, false, false, false, false, false, false, false, false, false, false, false, false, false] rfl rfl (any_of HT_.out (by kernel_rfl)) (fun _ _ _ h => h) (Or.inl ⟨by rfl, ?_⟩) ?_ ?_
        rotate_left
        ·
         intro w'
         go_simp
         with_reducible rfl
        rotate_left
        ·
         simp only [Act.put, List.setIfInBounds_toArray, List.set_cons_zero, List.set_cons_succ, i64_w, i32_w]
         rfl
        refine take_ (i := 11) (N := some 23) (v := ?_) (a' := ?_) #[true, true, true, true, true, true, true, true, true, true, true, true, false, false, false, false, false, false, false, false, false, false, false, false, false, false, false, false, false, false, false, false, false, false, false, false, false, false, false, false] rfl rfl (take_ofW HT_.out HW_.out (by kernel_rfl)) (fun _ _ _ h => h) (Or.inl ⟨by rfl, ?_⟩) hHeld ?_ ?_
        rotate_left
        ·
         rintro w' ⟨s0, s1, s2, s3, s4, s5, s6, s7⟩
         go_simp
         with_reducible rfl
        rotate_left
        ·
         simp only [Act.put, List.setIfInBounds_toArray, List.set_cons_zero, List.set_cons_succ, i64_w, i32_w]
         rfl
        refine take_ (i := 12) (N := some 24) (v := ?_) (a' := ?_) #[true, true, true, true, true, true, true, true, true, true, true, true, true, false, false, false, false, false, false, false, false, false, false, false, false, false, false, false, false, false, false, false, false, false, false, false, false, false, false, false] rfl rfl (take_ofW HT_.out HW_.out (by kernel_rfl)) (fun _ _ _ h => h) (Or.inl ⟨by rfl, ?_⟩) hHeld ?_ ?_
        rotate_left
        ·
         rintro w' ⟨s0, s1, s2, s3, s4, s5, s6, s7⟩
         go_simp
         with_reducible rfl
        rotate_left
        ·
         simp only [Act.put, List.setIfInBounds_toArray, List.set_cons_zero, List.set_cons_succ, i64_w, i32_w]
         rfl
        refine one_ (i := 13) (N := some 25) #[true, true, true, true, true, true, true, true, true, true, true, true, true, true, false, false, false, false, false, false, false, false, false, false, false, false, false, false, false, false, false, false, false, false, false, false, false, false, false, false] rfl rfl (one_of HT_.out (by kernel_rfl)) (by decide) (fun K hK => ?_)
        refine goes_ Tryd.func12 (by kernel_rfl) rfl #[.agg #[.int .i64 t142, .int .i64 t143], .agg #[.int .i64 t142, .int .i64 t143]] (by rfl) rfl rfl (by (try simp only [List.map_toArray, List.map_cons, List.map_nil]); first | done | rfl | (simp only [List.length_drop, List.length_take]; rfl)) ?_
        with_reducible refine (dot_Compare.calls k t142 t143 t142 t143 t154 _ A26.out).mono ?_
        rintro e w55 ⟨rfl, hb⟩
        refine ⟨_, rfl, ?_⟩
        have n0_ := Aside0.mk (blk_below (g := gb148) (o := .cells #[.int .i64 t142, .int .i64 t143] 23 (0, 0)) (by (with_reducible repeat (first | apply blk_drewN | apply blk_drew | apply blk_alloc)); exact U8.out) hb)
        have n1_ := Aside0.mk (blk_below (g := gb149) (o := .cells #[.int .i64 t144, .int .i64 t145] 23 (0, 0)) (by (with_reducible repeat (first | apply blk_drewN | apply blk_drew | apply blk_alloc)); exact U9.out) hb)
        have n2_ := Aside0.mk (blk_below (g := gb150) (o := .cells #[.int .i64 t146, .int .i64 t147] 23 (0, 0)) (by (with_reducible repeat (first | apply blk_drewN | apply blk_drew | apply blk_alloc)); exact U0.out) hb)
        have n3_ := Aside0.mk (blk_below (g := gb151) (o := .cells #[.int .i64 0, .int .i64 0] 23 (0, 0)) (by (with_reducible repeat (first | apply blk_drewN | apply blk_drew | apply blk_alloc)); exact U1.out) hb)
        have n4_ := Aside0.mk (below_step (by repeat (first | (with_reducible first | exact HB.out | apply below_alloc | apply pw_below_drewN | apply below_drew1 | refine below_set ?_ V8.out | refine below_set ?_ V9.out | refine below_set ?_ V0.out | refine below_set ?_ V1.out) | exact HB.out)) hb)
        clear U8
        clear U9
        clear U0
        clear U1
        clear HB
        have U8 := n0_
        have U9 := n1_
        have U0 := n2_
        have U1 := n3_
        have HB := n4_
        clear n0_ n1_ n2_ n3_ n4_
        (try clear hb)
        (try clear hb2)
        (try clear hk)
        (try clear hi)
        refine hK.out _ _ ⟨(blk_cell U8.out 0).trans rfl, (blk_cell U8.out 1).trans rfl, (blk_cell U9.out 0).trans rfl, (blk_cell U9.out 1).trans rfl, (blk_cell U0.out 0).trans rfl, (blk_cell U0.out 1).trans rfl, (blk_cell U1.out 0).trans rfl, (blk_cell U1.out 1).trans rfl⟩ (fun hHeld => ?_)
        clear hK K
        refine norm_ (a' := ?_) ?_ ?_
        rotate_left
        ·
         show Act.put _ (some 25) _ = _
         simp only [Act.put, List.setIfInBounds_toArray, List.set_cons_zero, List.set_cons_succ, i64_w, i32_w]
         rfl
        refine pure_ (i := 14) (N := some 26) (v := ?_) (a' := ?_) #[true, true, true, true, true, true, true, true, true, true, true, true, true, true, true, false, false, false, false, false, false, false, false, false, false, false, false, false, false, false, false, false, false, false, false, false, false, false, false, false] rfl rfl (any_of HT_.out (by kernel_rfl)) (fun _ _ _ h => h) (Or.inl ⟨by rfl, ?_⟩) ?_ ?_
        rotate_left
        ·
         intro w'
         go_simp
         with_reducible rfl
        rotate_left
        ·
         simp only [Act.put, List.setIfInBounds_toArray, List.set_cons_zero, List.set_cons_succ, i64_w, i32_w]
         rfl
        refine pure_ (i := 15) (N := some 27) (v := ?_) (a' := ?_) #[true, true, true, true, true, true, true, true, true, true, true, true, true, true, true, true, false, false, false, false, false, false, false, false, false, false, false, false, false, false, false, false, false, false, false, false, false, false, false, false] rfl rfl (any_of HT_.out (by kernel_rfl)) (fun _ _ _ h => h) (Or.inl ⟨by rfl, ?_⟩) ?_ ?_
        rotate_left
        ·
         intro w'
         go_simp
         with_reducible rfl
        rotate_left
        ·
         simp only [Act.put, List.setIfInBounds_toArray, List.set_cons_zero, List.set_cons_succ, i64_w, i32_w]
         rfl
        refine pure_ (i := 16) (N := some 28) (v := ?_) (a' := ?_) #[true, true, true, true, true, true, true, true, true, true, true, true, true, true, true, true, true, false, false, false, false, false, false, false, false, false, false, false, false, false, false, false, false, false, false, false, false, false, false, false] rfl rfl (any_of HT_.out (by kernel_rfl)) (fun _ _ _ h => h) (Or.inl ⟨by rfl, ?_⟩) ?_ ?_
        rotate_left
        ·
         intro w'
         go_simp
         with_reducible rfl
        rotate_left
        ·
         simp only [Act.put, List.setIfInBounds_toArray, List.set_cons_zero, List.set_cons_succ, i64_w, i32_w]
         rfl
        refine take_ (i := 17) (N := some 29) (v := ?_) (a' := ?_) #[true, true, true, true, true, true, true, true, true, true, true, true, true, true, true, true, true, true, false, false, false, false, false, false, false, false, false, false, false, false, false, false, false, false, false, false, false, false, false, false] rfl rfl (take_ofW HT_.out HW_.out (by kernel_rfl)) (fun _ _ _ h => h) (Or.inl ⟨by rfl, ?_⟩) hHeld ?_ ?_
        rotate_left
        ·
         rintro w' ⟨s0, s1, s2, s3, s4, s5, s6, s7⟩
         go_simp
         with_reducible rfl
        rotate_left
        ·
         simp only [Act.put, List.setIfInBounds_toArray, List.set_cons_zero, List.set_cons_succ, i64_w, i32_w]
         rfl
        refine one_ (i := 18) (N := some 30) #[true, true, true, true, true, true, true, true, true, true, true, true, true, true, true, true, true, true, true, false, false, false, false, false, false, false, false, false, false, false, false, false, false, false, false, false, false, false, false, false] rfl rfl (one_of HT_.out (by kernel_rfl)) (by decide) (fun K hK => ?_)
        refine goes_ Tryd.func34 (by kernel_rfl) rfl #[.int .i64 1, .int .i64 1] (by rfl) rfl rfl (by (try simp only [List.map_toArray, List.map_cons, List.map_nil]); first | done | rfl | (simp only [List.length_drop, List.length_take]; rfl)) ?_
        with_reducible refine (redpencillaw04_of.calls 1 1 t155 t156 _ A28.out).mono ?_
        rintro e w56 ⟨rfl, hb⟩
        refine ⟨_, rfl, ?_⟩
        have n0_ := Aside0.mk (blk_below (g := gb148) (o := .cells #[.int .i64 t142, .int .i64 t143] 23 (0, 0)) (by (with_reducible repeat (first | apply blk_drewN | apply blk_drew | apply blk_alloc)); exact U8.out) hb)
        have n1_ := Aside0.mk (blk_below (g := gb149) (o := .cells #[.int .i64 t144, .int .i64 t145] 23 (0, 0)) (by (with_reducible repeat (first | apply blk_drewN | apply blk_drew | apply blk_alloc)); exact U9.out) hb)
        have n2_ := Aside0.mk (blk_below (g := gb150) (o := .cells #[.int .i64 t146, .int .i64 t147] 23 (0, 0)) (by (with_reducible repeat (first | apply blk_drewN | apply blk_drew | apply blk_alloc)); exact U0.out) hb)
        have n3_ := Aside0.mk (blk_below (g := gb151) (o := .cells #[.int .i64 0, .int .i64 0] 23 (0, 0)) (by (with_reducible repeat (first | apply blk_drewN | apply blk_drew | apply blk_alloc)); exact U1.out) hb)
        have n4_ := Aside0.mk (below_step (by repeat (first | (with_reducible first | exact HB.out | apply below_alloc | apply pw_below_drewN | apply below_drew1 | refine below_set ?_ V8.out | refine below_set ?_ V9.out | refine below_set ?_ V0.out | refine below_set ?_ V1.out) | exact HB.out)) hb)
        clear U8
        clear U9
        clear U0
        clear U1
        clear HB
        have U8 := n0_
        have U9 := n1_
        have U0 := n2_
        have U1 := n3_
        have HB := n4_
        clear n0_ n1_ n2_ n3_ n4_
        (try clear hb)
        (try clear hb2)
        (try clear hk)
        (try clear hi)
        refine hK.out _ _ ⟨(blk_cell U8.out 0).trans rfl, (blk_cell U8.out 1).trans rfl, (blk_cell U9.out 0).trans rfl, (blk_cell U9.out 1).trans rfl, (blk_cell U0.out 0).trans rfl, (blk_cell U0.out 1).trans rfl, (blk_cell U1.out 0).trans rfl, (blk_cell U1.out 1).trans rfl⟩ (fun hHeld => ?_)
        clear hK K
        refine norm_ (a' := ?_) ?_ ?_
        rotate_left
        ·
         show Act.put _ (some 30) _ = _
         simp only [Act.put, List.setIfInBounds_toArray, List.set_cons_zero, List.set_cons_succ, i64_w, i32_w]
         rfl
        refine one_ (i := 19) (N := some 31) #[true, true, true, true, true, true, true, true, true, true, true, true, true, true, true, true, true, true, true, true, false, false, false, false, false, false, false, false, false, false, false, false, false, false, false, false, false, false, false, false] rfl rfl (one_of HT_.out (by kernel_rfl)) (by decide) (fun K hK => ?_)
        refine goes_ Tryd.func12 (by kernel_rfl) rfl #[.agg #[.int .i64 0, .int .i64 0], .agg #[.int .i64 t155, .int .i64 t156]] (by rfl) rfl rfl (by (try simp only [List.map_toArray, List.map_cons, List.map_nil]); first | done | rfl | (simp only [List.length_drop, List.length_take]; rfl)) ?_
        with_reducible refine (dot_Compare.calls k 0 0 t155 t156 t157 _ A29.out).mono ?_
        rintro e w57 ⟨rfl, hb⟩
        refine ⟨_, rfl, ?_⟩
        have n0_ := Aside0.mk (blk_below (g := gb148) (o := .cells #[.int .i64 t142, .int .i64 t143] 23 (0, 0)) (by (with_reducible repeat (first | apply blk_drewN | apply blk_drew | apply blk_alloc)); exact U8.out) hb)
        have n1_ := Aside0.mk (blk_below (g := gb149) (o := .cells #[.int .i64 t144, .int .i64 t145] 23 (0, 0)) (by (with_reducible repeat (first | apply blk_drewN | apply blk_drew | apply blk_alloc)); exact U9.out) hb)
        have n2_ := Aside0.mk (blk_below (g := gb150) (o := .cells #[.int .i64 t146, .int .i64 t147] 23 (0, 0)) (by (with_reducible repeat (first | apply blk_drewN | apply blk_drew | apply blk_alloc)); exact U0.out) hb)
        have n3_ := Aside0.mk (blk_below (g := gb151) (o := .cells #[.int .i64 0, .int .i64 0] 23 (0, 0)) (by (with_reducible repeat (first | apply blk_drewN | apply blk_drew | apply blk_alloc)); exact U1.out) hb)
        have n4_ := Aside0.mk (below_step (by repeat (first | (with_reducible first | exact HB.out | apply below_alloc | apply pw_below_drewN | apply below_drew1 | refine below_set ?_ V8.out | refine below_set ?_ V9.out | refine below_set ?_ V0.out | refine below_set ?_ V1.out) | exact HB.out)) hb)
        clear U8
        clear U9
        clear U0
        clear U1
        clear HB
        have U8 := n0_
        have U9 := n1_
        have U0 := n2_
        have U1 := n3_
        have HB := n4_
        clear n0_ n1_ n2_ n3_ n4_
        (try clear hb)
        (try clear hb2)
        (try clear hk)
        (try clear hi)
        refine hK.out _ _ ⟨(blk_cell U8.out 0).trans rfl, (blk_cell U8.out 1).trans rfl, (blk_cell U9.out 0).trans rfl, (blk_cell U9.out 1).trans rfl, (blk_cell U0.out 0).trans rfl, (blk_cell U0.out 1).trans rfl, (blk_cell U1.out 0).trans rfl, (blk_cell U1.out 1).trans rfl⟩ (fun hHeld => ?_)
        clear hK K
        refine norm_ (a' := ?_) ?_ ?_
        rotate_left
        ·
         show Act.put _ (some 31) _ = _
         simp only [Act.put, List.setIfInBounds_toArray, List.set_cons_zero, List.set_cons_succ, i64_w, i32_w]
         rfl
        refine pure_ (i := 20) (N := some 32) (v := ?_) (a' := ?_) #[true, true, true, true, true, true, true, true, true, true, true, true, true, true, true, true, true, true, true, true, true, false, false, false, false, false, false, false, false, false, false, false, false, false, false, false, false, false, false, false] rfl rfl (any_of HT_.out (by kernel_rfl)) (fun _ _ _ h => h) (Or.inl ⟨by rfl, ?_⟩) ?_ ?_
        rotate_left
        ·
         intro w'
         go_simp
         with_reducible rfl
        rotate_left
        ·
         simp only [Act.put, List.setIfInBounds_toArray, List.set_cons_zero, List.set_cons_succ, i64_w, i32_w]
         rfl
        refine pure_ (i := 21) (N := some 33) (v := ?_) (a' := ?_) #[true, true, true, true, true, true, true, true, true, true, true, true, true, true, true, true, true, true, true, true, true, true, false, false, false, false, false, false, false, false, false, false, false, false, false, false, false, false, false, false] rfl rfl (any_of HT_.out (by kernel_rfl)) (fun _ _ _ h => h) (Or.inl ⟨by rfl, ?_⟩) ?_ ?_
        rotate_left
        ·
         intro w'
         go_simp
         with_reducible rfl
        rotate_left
        ·
         simp only [Act.put, List.setIfInBounds_toArray, List.set_cons_zero, List.set_cons_succ, i64_w, i32_w]
         rfl
        refine pure_ (i := 22) (N := some 34) (v := ?_) (a' := ?_) #[true, true, true, true, true, true, true, true, true, true, true, true, true, true, true, true, true, true, true, true, true, true, true, false, false, false, false, false, false, false, false, false, false, false, false, false, false, false, false, false] rfl rfl (any_of HT_.out (by kernel_rfl)) (fun _ _ _ h => h) (Or.inl ⟨by rfl, ?_⟩) ?_ ?_
        rotate_left
        ·
         intro w'
         go_simp
         with_reducible rfl
        rotate_left
        ·
         simp only [Act.put, List.setIfInBounds_toArray, List.set_cons_zero, List.set_cons_succ, i64_w, i32_w]
         rfl
        refine take_ (i := 23) (N := some 35) (v := ?_) (a' := ?_) #[true, true, true, true, true, true, true, true, true, true, true, true, true, true, true, true, true, true, true, true, true, true, true, true, false, false, false, false, false, false, false, false, false, false, false, false, false, false, false, false] rfl rfl (take_ofW HT_.out HW_.out (by kernel_rfl)) (fun _ _ _ h => h) (Or.inl ⟨by rfl, ?_⟩) hHeld ?_ ?_
        rotate_left
        ·
         rintro w' ⟨s0, s1, s2, s3, s4, s5, s6, s7⟩
         go_simp
         with_reducible rfl
        rotate_left
        ·
         simp only [Act.put, List.setIfInBounds_toArray, List.set_cons_zero, List.set_cons_succ, i64_w, i32_w]
         rfl
        refine take_ (i := 24) (N := some 36) (v := ?_) (a' := ?_) #[true, true, true, true, true, true, true, true, true, true, true, true, true, true, true, true, true, true, true, true, true, true, true, true, true, false, false, false, false, false, false, false, false, false, false, false, false, false, false, false] rfl rfl (take_ofW HT_.out HW_.out (by kernel_rfl)) (fun _ _ _ h => h) (Or.inl ⟨by rfl, ?_⟩) hHeld ?_ ?_
        rotate_left
        ·
         rintro w' ⟨s0, s1, s2, s3, s4, s5, s6, s7⟩
         go_simp
         with_reducible rfl
        rotate_left
        ·
         simp only [Act.put, List.setIfInBounds_toArray, List.set_cons_zero, List.set_cons_succ, i64_w, i32_w]
         rfl
        refine take_ (i := 25) (N := some 37) (v := ?_) (a' := ?_) #[true, true, true, true, true, true, true, true, true, true, true, true, true, true, true, true, true, true, true, true, true, true, true, true, true, true, false, false, false, false, false, false, false, false, false, false, false, false, false, false] rfl rfl (take_ofW HT_.out HW_.out (by kernel_rfl)) (fun _ _ _ h => h) (Or.inl ⟨by rfl, ?_⟩) hHeld ?_ ?_
        rotate_left
        ·
         rintro w' ⟨s0, s1, s2, s3, s4, s5, s6, s7⟩
         go_simp
         with_reducible rfl
        rotate_left
        ·
         simp only [Act.put, List.setIfInBounds_toArray, List.set_cons_zero, List.set_cons_succ, i64_w, i32_w]
         rfl
        refine one_ (i := 26) (N := some 38) #[true, true, true, true, true, true, true, true, true, true, true, true, true, true, true, true, true, true, true, true, true, true, true, true, true, true, true, false, false, false, false, false, false, false, false, false, false, false, false, false] rfl rfl (one_of HT_.out (by kernel_rfl)) (by decide) (fun K hK => ?_)
        refine Kd.R_lit_step k23 _ 23 ?hg (N := 38) ?hd (xs := ([(⟨t144, t145⟩ : S23), (⟨t142, t143⟩ : S23), (⟨t146, t147⟩ : S23)] : List (S23))) (inner := [.int .i64 t144, .int .i64 t145, .int .i64 t142, .int .i64 t143, .int .i64 t146, .int .i64 t147]) (ok := fun _ => True) (okp := fun _ => True) ?hr ?hp (fun _ hk => hk) trivial (Below.refl _ _) (Nat.le_refl _) (by simp) ?_; (case hd => rfl); (case hg => rfl); (case hr => first | (go_simp; done) | (go_simp; rfl)); (case hp => exact (Reps.c2 (show Kd.M k23 _ _ _ (⟨t144, t145⟩ : S23) [.int .i64 t144, .int .i64 t145] from (k23_mkM _ _ _ (⟨t144, t145⟩ : S23) )) (Reps.c2 (show Kd.M k23 _ _ _ (⟨t142, t143⟩ : S23) [.int .i64 t142, .int .i64 t143] from (k23_mkM _ _ _ (⟨t142, t143⟩ : S23) )) (Reps.c2 (show Kd.M k23 _ _ _ (⟨t146, t147⟩ : S23) [.int .i64 t146, .int .i64 t147] from (k23_mkM _ _ _ (⟨t146, t147⟩ : S23) )) (Reps.none _ _)))))
        intro v159 w58 ho59 hb hg_ hnew_
        clear hg_ hnew_
        (first | rw [← Ny158.out] at ho59 | (simp only [Int.reduceToNat] at ho59; rw [← Ny158.out] at ho59))
        have n0_ := Aside0.mk (Kd.R_lower (Kd.R_newB (Kd.R_newB (Kd.R_newB (Kd.R_newB ho59 (g := gb148) (o := .cells #[.int .i64 t142, .int .i64 t143] 23 (0, 0)) (by (with_reducible repeat (first | apply blk_drewN | apply blk_drew | apply blk_alloc)); exact U8.out)) (g := gb149) (o := .cells #[.int .i64 t144, .int .i64 t145] 23 (0, 0)) (by (with_reducible repeat (first | apply blk_drewN | apply blk_drew | apply blk_alloc)); exact U9.out)) (g := gb150) (o := .cells #[.int .i64 t146, .int .i64 t147] 23 (0, 0)) (by (with_reducible repeat (first | apply blk_drewN | apply blk_drew | apply blk_alloc)); exact U0.out)) (g := gb151) (o := .cells #[.int .i64 0, .int .i64 0] 23 (0, 0)) (by (with_reducible repeat (first | apply blk_drewN | apply blk_drew | apply blk_alloc)); exact U1.out)) (below_size (by repeat (first | (with_reducible first | exact HB.out | apply below_alloc | apply pw_below_drewN | apply below_drew1 | refine below_set ?_ V8.out | refine below_set ?_ V9.out | refine below_set ?_ V0.out | refine below_set ?_ V1.out) | exact HB.out))))
        have n1_ := Aside0.mk (blk_below (g := gb148) (o := .cells #[.int .i64 t142, .int .i64 t143] 23 (0, 0)) (by (with_reducible repeat (first | apply blk_drewN | apply blk_drew | apply blk_alloc)); exact U8.out) hb)
        have n2_ := Aside0.mk (blk_below (g := gb149) (o := .cells #[.int .i64 t144, .int .i64 t145] 23 (0, 0)) (by (with_reducible repeat (first | apply blk_drewN | apply blk_drew | apply blk_alloc)); exact U9.out) hb)
        have n3_ := Aside0.mk (blk_below (g := gb150) (o := .cells #[.int .i64 t146, .int .i64 t147] 23 (0, 0)) (by (with_reducible repeat (first | apply blk_drewN | apply blk_drew | apply blk_alloc)); exact U0.out) hb)
        have n4_ := Aside0.mk (blk_below (g := gb151) (o := .cells #[.int .i64 0, .int .i64 0] 23 (0, 0)) (by (with_reducible repeat (first | apply blk_drewN | apply blk_drew | apply blk_alloc)); exact U1.out) hb)
        have n5_ := Aside0.mk (below_step (by repeat (first | (with_reducible first | exact HB.out | apply below_alloc | apply pw_below_drewN | apply below_drew1 | refine below_set ?_ V8.out | refine below_set ?_ V9.out | refine below_set ?_ V0.out | refine below_set ?_ V1.out) | exact HB.out)) hb)
        clear U8
        clear U9
        clear U0
        clear U1
        clear HB
        have HO160 := n0_
        have U8 := n1_
        have U9 := n2_
        have U0 := n3_
        have U1 := n4_
        have HB := n5_
        clear n0_ n1_ n2_ n3_ n4_ n5_
        clear hb ho59
        obtain ⟨Ao60, co60, eo60⟩ := Kd.R_slice HO160.out
        (first | subst eo60 | (injection eo60 with f1_ f2_ f3_; have f4_ := f1_.symm; have f5_ := f3_.symm; clear f1_ f2_ f3_; subst f4_; subst f5_))
        refine hK.out _ _ ⟨(blk_cell U8.out 0).trans rfl, (blk_cell U8.out 1).trans rfl, (blk_cell U9.out 0).trans rfl, (blk_cell U9.out 1).trans rfl, (blk_cell U0.out 0).trans rfl, (blk_cell U0.out 1).trans rfl, (blk_cell U1.out 0).trans rfl, (blk_cell U1.out 1).trans rfl⟩ (fun hHeld => ?_)
        clear hK K
        refine norm_ (a' := ?_) ?_ ?_
        rotate_left
        ·
         show Act.put _ (some 38) _ = _
         simp only [Act.put, List.setIfInBounds_toArray, List.set_cons_zero, List.set_cons_succ, i64_w, i32_w]
         rfl
        refine one_ (i := 27) (N := some 39) #[true, true, true, true, true, true, true, true, true, true, true, true, true, true, true, true, true, true, true, true, true, true, true, true, true, true, true, true, false, false, false, false, false, false, false, false, false, false, false, false] rfl rfl (one_of HT_.out (by kernel_rfl)) (by decide) (fun K hK => ?_)
        refine goes_ Tryd.func16 (by kernel_rfl) rfl #[.slice Ao60 y158.length co60] (by rfl) rfl rfl (by (try simp only [List.map_toArray, List.map_cons, List.map_nil]); first | done | rfl | (simp only [List.length_drop, List.length_take]; rfl)) ?_
        with_reducible refine (dot_IsSet.calls k _ _ y158 true _ ?side1 ?side2 A31.out).mono ?_
        (case side1 => repeat (first | exact (Kd.R_reads' HO160.out).2.2 | (with_reducible refine Kd.C_alloc ?_ _) | (with_reducible refine Kd.C_drewN ?_ _) | (with_reducible refine Kd.C_drew ?_)))
        (case side2 => exact (Kd.R_reads' HO160.out).2.1)
        rintro e w61 ⟨rfl, hb⟩
        refine ⟨_, rfl, ?_⟩
        have n0_ := Aside0.mk (Kd.R_below (by (with_reducible repeat (first | apply Kd.R_alloc | apply Kd.R_drewN | apply Kd.R_drew)); exact HO160.out) hb)
        have n1_ := Aside0.mk (blk_below (g := gb148) (o := .cells #[.int .i64 t142, .int .i64 t143] 23 (0, 0)) (by (with_reducible repeat (first | apply blk_drewN | apply blk_drew | apply blk_alloc)); exact U8.out) hb)
        have n2_ := Aside0.mk (blk_below (g := gb149) (o := .cells #[.int .i64 t144, .int .i64 t145] 23 (0, 0)) (by (with_reducible repeat (first | apply blk_drewN | apply blk_drew | apply blk_alloc)); exact U9.out) hb)
        have n3_ := Aside0.mk (blk_below (g := gb150) (o := .cells #[.int .i64 t146, .int .i64 t147] 23 (0, 0)) (by (with_reducible repeat (first | apply blk_drewN | apply blk_drew | apply blk_alloc)); exact U0.out) hb)
        have n4_ := Aside0.mk (blk_below (g := gb151) (o := .cells #[.int .i64 0, .int .i64 0] 23 (0, 0)) (by (with_reducible repeat (first | apply blk_drewN | apply blk_drew | apply blk_alloc)); exact U1.out) hb)
        have n5_ := Aside0.mk (below_step (by repeat (first | (with_reducible first | exact HB.out | apply below_alloc | apply pw_below_drewN | apply below_drew1 | refine below_set ?_ V8.out | refine below_set ?_ V9.out | refine below_set ?_ V0.out | refine below_set ?_ V1.out) | exact HB.out)) hb)
        clear HO160
        clear U8
        clear U9
        clear U0
        clear U1
        clear HB
        have HO160 := n0_
        have U8 := n1_
        have U9 := n2_
        have U0 := n3_
        have U1 := n4_
        have HB := n5_
        clear n0_ n1_ n2_ n3_ n4_ n5_
        (try clear hb)
        (try clear hb2)
        (try clear hk)
        (try clear hi)
        refine hK.out _ _ ⟨(blk_cell U8.out 0).trans rfl, (blk_cell U8.out 1).trans rfl, (blk_cell U9.out 0).trans rfl, (blk_cell U9.out 1).trans rfl, (blk_cell U0.out 0).trans rfl, (blk_cell U0.out 1).trans rfl, (blk_cell U1.out 0).trans rfl, (blk_cell U1.out 1).trans rfl⟩ (fun hHeld => ?_)
        clear hK K
        refine norm_ (a' := ?_) ?_ ?_
        rotate_left
        ·
         show Act.put _ (some 39) _ = _
         simp only [Act.put, List.setIfInBounds_toArray, List.set_cons_zero, List.set_cons_succ, i64_w, i32_w]
         rfl
        refine pure_ (i := 28) (N := some 40) (v := ?_) (a' := ?_) #[true, true, true, true, true, true, true, true, true, true, true, true, true, true, true, true, true, true, true, true, true, true, true, true, true, true, true, true, true, false, false, false, false, false, false, false, false, false, false, false] rfl rfl (any_of HT_.out (by kernel_rfl)) (fun _ _ _ h => h) (Or.inl ⟨by rfl, ?_⟩) ?_ ?_
        rotate_left
        ·
         intro w'
         go_simp
         with_reducible rfl
        rotate_left
        ·
         simp only [Act.put, List.setIfInBounds_toArray, List.set_cons_zero, List.set_cons_succ, i64_w, i32_w]
         rfl
        refine pure_ (i := 29) (N := some 41) (v := ?_) (a' := ?_) #[true, true, true, true, true, true, true, true, true, true, true, true, true, true, true, true, true, true, true, true, true, true, true, true, true, true, true, true, true, true, false, false, false, false, false, false, false, false, false, false] rfl rfl (any_of HT_.out (by kernel_rfl)) (fun _ _ _ h => h) (Or.inl ⟨by rfl, ?_⟩) ?_ ?_
        rotate_left
        ·
         intro w'
         go_simp
         with_reducible rfl
        rotate_left
        ·
         simp only [Act.put, List.setIfInBounds_toArray, List.set_cons_zero, List.set_cons_succ, i64_w, i32_w]
         rfl
        refine pure_ (i := 30) (N := some 42) (v := ?_) (a' := ?_) #[true, true, true, true, true, true, true, true, true, true, true, true, true, true, true, true, true, true, true, true, true, true, true, true, true, true, true, true, true, true, true, false, false, false, false, false, false, false, false, false] rfl rfl (any_of HT_.out (by kernel_rfl)) (fun _ _ _ h => h) (Or.inl ⟨by rfl, ?_⟩) ?_ ?_
        rotate_left
        ·
         intro w'
         go_simp
         with_reducible rfl
        rotate_left
        ·
         simp only [Act.put, List.setIfInBounds_toArray, List.set_cons_zero, List.set_cons_succ, i64_w, i32_w]
         rfl
        refine take_ (i := 31) (N := some 43) (v := ?_) (a' := ?_) #[true, true, true, true, true, true, true, true, true, true, true, true, true, true, true, true, true, true, true, true, true, true, true, true, true, true, true, true, true, true, true, true, false, false, false, false, false, false, false, false] rfl rfl (take_ofW HT_.out HW_.out (by kernel_rfl)) (fun _ _ _ h => h) (Or.inl ⟨by rfl, ?_⟩) hHeld ?_ ?_
        rotate_left
        ·
         rintro w' ⟨s0, s1, s2, s3, s4, s5, s6, s7⟩
         go_simp
         with_reducible rfl
        rotate_left
        ·
         simp only [Act.put, List.setIfInBounds_toArray, List.set_cons_zero, List.set_cons_succ, i64_w, i32_w]
         rfl
        refine take_ (i := 32) (N := some 44) (v := ?_) (a' := ?_) #[true, true, true, true, true, true, true, true, true, true, true, true, true, true, true, true, true, true, true, true, true, true, true, true, true, true, true, true, true, true, true, true, true, false, false, false, false, false, false, false] rfl rfl (take_ofW HT_.out HW_.out (by kernel_rfl)) (fun _ _ _ h => h) (Or.inl ⟨by rfl, ?_⟩) hHeld ?_ ?_
        rotate_left
        ·
         rintro w' ⟨s0, s1, s2, s3, s4, s5, s6, s7⟩
         go_simp
         with_reducible rfl
        rotate_left
        ·
         simp only [Act.put, List.setIfInBounds_toArray, List.set_cons_zero, List.set_cons_succ, i64_w, i32_w]
         rfl
        refine one_ (i := 33) (N := some 45) #[true, true, true, true, true, true, true, true, true, true, true, true, true, true, true, true, true, true, true, true, true, true, true, true, true, true, true, true, true, true, true, true, true, true, false, false, false, false, false, false] rfl rfl (one_of HT_.out (by kernel_rfl)) (by decide) (fun K hK => ?_)
        refine Kd.R_lit_step k23 _ 23 ?hg (N := 45) ?hd (xs := ([(⟨t142, t143⟩ : S23), (⟨t142, t143⟩ : S23)] : List (S23))) (inner := [.int .i64 t142, .int .i64 t143, .int .i64 t142, .int .i64 t143]) (ok := fun _ => True) (okp := fun _ => True) ?hr ?hp (fun _ hk => hk) trivial (Below.refl _ _) (Nat.le_refl _) (by simp) ?_; (case hd => rfl); (case hg => rfl); (case hr => first | (go_simp; done) | (go_simp; rfl)); (case hp => exact (Reps.c2 (show Kd.M k23 _ _ _ (⟨t142, t143⟩ : S23) [.int .i64 t142, .int .i64 t143] from (k23_mkM _ _ _ (⟨t142, t143⟩ : S23) )) (Reps.c2 (show Kd.M k23 _ _ _ (⟨t142, t143⟩ : S23) [.int .i64 t142, .int .i64 t143] from (k23_mkM _ _ _ (⟨t142, t143⟩ : S23) )) (Reps.none _ _))))
        intro v163 w62 ho63 hb hg_ hnew_
        clear hg_ hnew_
        (first | rw [← Ny162.out] at ho63 | (simp only [Int.reduceToNat] at ho63; rw [← Ny162.out] at ho63))
        have n0_ := Aside0.mk (Kd.R_elder' (by (with_reducible repeat (first | apply Kd.R_alloc | apply Kd.R_drewN | apply Kd.R_drew)); exact HO160.out) (Kd.R_base ho63) hb)
        have n1_ := Aside0.mk (Kd.R_lower (Kd.R_newB (Kd.R_newB (Kd.R_newB (Kd.R_newB (Kd.R_new' ho63 (Kd.R_lt (by (with_reducible repeat (first | apply Kd.R_alloc | apply Kd.R_drewN | apply Kd.R_drew)); exact HO160.out))) (g := gb148) (o := .cells #[.int .i64 t142, .int .i64 t143] 23 (0, 0)) (by (with_reducible repeat (first | apply blk_drewN | apply blk_drew | apply blk_alloc)); exact U8.out)) (g := gb149) (o := .cells #[.int .i64 t144, .int .i64 t145] 23 (0, 0)) (by (with_reducible repeat (first | apply blk_drewN | apply blk_drew | apply blk_alloc)); exact U9.out)) (g := gb150) (o := .cells #[.int .i64 t146, .int .i64 t147] 23 (0, 0)) (by (with_reducible repeat (first | apply blk_drewN | apply blk_drew | apply blk_alloc)); exact U0.out)) (g := gb151) (o := .cells #[.int .i64 0, .int .i64 0] 23 (0, 0)) (by (with_reducible repeat (first | apply blk_drewN | apply blk_drew | apply blk_alloc)); exact U1.out)) (below_size (by repeat (first | (with_reducible first | exact HB.out | apply below_alloc | apply pw_below_drewN | apply below_drew1 | refine below_set ?_ V8.out | refine below_set ?_ V9.out | refine below_set ?_ V0.out | refine below_set ?_ V1.out) | exact HB.out))))
        have n2_ := Aside0.mk (blk_below (g := gb148) (o := .cells #[.int .i64 t142, .int .i64 t143] 23 (0, 0)) (by (with_reducible repeat (first | apply blk_drewN | apply blk_drew | apply blk_alloc)); exact U8.out) hb)
        have n3_ := Aside0.mk (blk_below (g := gb149) (o := .cells #[.int .i64 t144, .int .i64 t145] 23 (0, 0)) (by (with_reducible repeat (first | apply blk_drewN | apply blk_drew | apply blk_alloc)); exact U9.out) hb)
        have n4_ := Aside0.mk (blk_below (g := gb150) (o := .cells #[.int .i64 t146, .int .i64 t147] 23 (0, 0)) (by (with_reducible repeat (first | apply blk_drewN | apply blk_drew | apply blk_alloc)); exact U0.out) hb)
        have n5_ := Aside0.mk (blk_below (g := gb151) (o := .cells #[.int .i64 0, .int .i64 0] 23 (0, 0)) (by (with_reducible repeat (first | apply blk_drewN | apply blk_drew | apply blk_alloc)); exact U1.out) hb)
        have n6_ := Aside0.mk (below_step (by repeat (first | (with_reducible first | exact HB.out | apply below_alloc | apply pw_below_drewN | apply below_drew1 | refine below_set ?_ V8.out | refine below_set ?_ V9.out | refine below_set ?_ V0.out | refine below_set ?_ V1.out) | exact HB.out)) hb)
        clear HO160
        clear U8
        clear U9
        clear U0
        clear U1
        clear HB
        have HO160 := n0_
        have HO164 := n1_
        have U8 := n2_
        have U9 := n3_
        have U0 := n4_
        have U1 := n5_
        have HB := n6_
        clear n0_ n1_ n2_ n3_ n4_ n5_ n6_
        clear hb ho63
        obtain ⟨Ao64, co64, eo64⟩ := Kd.R_slice HO164.out
        (first | subst eo64 | (injection eo64 with f1_ f2_ f3_; have f4_ := f1_.symm; have f5_ := f3_.symm; clear f1_ f2_ f3_; subst f4_; subst f5_))
        refine hK.out _ _ ⟨(blk_cell U8.out 0).trans rfl, (blk_cell U8.out 1).trans rfl, (blk_cell U9.out 0).trans rfl, (blk_cell U9.out 1).trans rfl, (blk_cell U0.out 0).trans rfl, (blk_cell U0.out 1).trans rfl, (blk_cell U1.out 0).trans rfl, (blk_cell U1.out 1).trans rfl⟩ (fun hHeld => ?_)
        clear hK K
        refine norm_ (a' := ?_) ?_ ?_
        rotate_left
        ·
         show Act.put _ (some 45) _ = _
         simp only [Act.put, List.setIfInBounds_toArray, List.set_cons_zero, List.set_cons_succ, i64_w, i32_w]
         rfl
        refine one_ (i := 34) (N := some 46) #[true, true, true, true, true, true, true, true, true, true, true, true, true, true, true, true, true, true, true, true, true, true, true, true, true, true, true, true, true, true, true, true, true, true, true, false, false, false, false, false] rfl rfl (one_of HT_.out (by kernel_rfl)) (by decide) (fun K hK => ?_)
        refine goes_ Tryd.func16 (by kernel_rfl) rfl #[.slice Ao64 y162.length co64] (by rfl) rfl rfl (by (try simp only [List.map_toArray, List.map_cons, List.map_nil]); first | done | rfl | (simp only [List.length_drop, List.length_take]; rfl)) ?_
        with_reducible refine (dot_IsSet.calls k _ _ y162 false _ ?side1 ?side2 A33.out).mono ?_
        (case side1 => repeat (first | exact (Kd.R_reads' HO164.out).2.2 | (with_reducible refine Kd.C_alloc ?_ _) | (with_reducible refine Kd.C_drewN ?_ _) | (with_reducible refine Kd.C_drew ?_)))
        (case side2 => exact (Kd.R_reads' HO164.out).2.1)
        rintro e w65 ⟨rfl, hb⟩
        refine ⟨_, rfl, ?_⟩
        have n0_ := Aside0.mk (Kd.R_below (by (with_reducible repeat (first | apply Kd.R_alloc | apply Kd.R_drewN | apply Kd.R_drew)); exact HO160.out) hb)
        have n1_ := Aside0.mk (Kd.R_below (by (with_reducible repeat (first | apply Kd.R_alloc | apply Kd.R_drewN | apply Kd.R_drew)); exact HO164.out) hb)
        have n2_ := Aside0.mk (blk_below (g := gb148) (o := .cells #[.int .i64 t142, .int .i64 t143] 23 (0, 0)) (by (with_reducible repeat (first | apply blk_drewN | apply blk_drew | apply blk_alloc)); exact U8.out) hb)
        have n3_ := Aside0.mk (blk_below (g := gb149) (o := .cells #[.int .i64 t144, .int .i64 t145] 23 (0, 0)) (by (with_reducible repeat (first | apply blk_drewN | apply blk_drew | apply blk_alloc)); exact U9.out) hb)
        have n4_ := Aside0.mk (blk_below (g := gb150) (o := .cells #[.int .i64 t146, .int .i64 t147] 23 (0, 0)) (by (with_reducible repeat (first | apply blk_drewN | apply blk_drew | apply blk_alloc)); exact U0.out) hb)
        have n5_ := Aside0.mk (blk_below (g := gb151) (o := .cells #[.int .i64 0, .int .i64 0] 23 (0, 0)) (by (with_reducible repeat (first | apply blk_drewN | apply blk_drew | apply blk_alloc)); exact U1.out) hb)
        have n6_ := Aside0.mk (below_step (by repeat (first | (with_reducible first | exact HB.out | apply below_alloc | apply pw_below_drewN | apply below_drew1 | refine below_set ?_ V8.out | refine below_set ?_ V9.out | refine below_set ?_ V0.out | refine below_set ?_ V1.out) | exact HB.out)) hb)
        clear HO160
        clear HO164
        clear U8
        clear U9
        clear U0
        clear U1
        clear HB
        have HO160 := n0_
        have HO164 := n1_
        have U8 := n2_
        have U9 := n3_
        have U0 := n4_
        have U1 := n5_
        have HB := n6_
        clear n0_ n1_ n2_ n3_ n4_ n5_ n6_
        (try clear hb)
        (try clear hb2)
        (try clear hk)
        (try clear hi)
        refine hK.out _ _ ⟨(blk_cell U8.out 0).trans rfl, (blk_cell U8.out 1).trans rfl, (blk_cell U9.out 0).trans rfl, (blk_cell U9.out 1).trans rfl, (blk_cell U0.out 0).trans rfl, (blk_cell U0.out 1).trans rfl, (blk_cell U1.out 0).trans rfl, (blk_cell U1.out 1).trans rfl⟩ (fun hHeld => ?_)
        clear hK K
        refine norm_ (a' := ?_) ?_ ?_
        rotate_left
        ·
         show Act.put _ (some 46) _ = _
         simp only [Act.put, List.setIfInBounds_toArray, List.set_cons_zero, List.set_cons_succ, i64_w, i32_w]
         rfl
        refine pure_ (i := 35) (N := some 47) (v := ?_) (a' := ?_) #[true, true, true, true, true, true, true, true, true, true, true, true, true, true, true, true, true, true, true, true, true, true, true, true, true, true, true, true, true, true, true, true, true, true, true, true, false, false, false, false] rfl rfl (any_of HT_.out (by kernel_rfl)) (fun _ _ _ h => h) (Or.inl ⟨by rfl, ?_⟩) ?_ ?_
        rotate_left
        ·
         intro w'
         go_simp
         with_reducible rfl
        rotate_left
        ·
         simp only [Act.put, List.setIfInBounds_toArray, List.set_cons_zero, List.set_cons_succ, i64_w, i32_w]
         rfl
        refine pure_ (i := 36) (N := some 48) (v := ?_) (a' := ?_) #[true, true, true, true, true, true, true, true, true, true, true, true, true, true, true, true, true, true, true, true, true, true, true, true, true, true, true, true, true, true, true, true, true, true, true, true, true, false, false, false] rfl rfl (any_of HT_.out (by kernel_rfl)) (fun _ _ _ h => h) (Or.inl ⟨by rfl, ?_⟩) ?_ ?_
        rotate_left
        ·
         intro w'
         go_simp
         with_reducible rfl
        rotate_left
        ·
         simp only [Act.put, List.setIfInBounds_toArray, List.set_cons_zero, List.set_cons_succ, i64_w, i32_w]
         rfl
        refine one_ (i := 37) (N := some 49) #[true, true, true, true, true, true, true, true, true, true, true, true, true, true, true, true, true, true, true, true, true, true, true, true, true, true, true, true, true, true, true, true, true, true, true, true, true, true, false, false] rfl rfl (one_of HT_.out (by kernel_rfl)) (by decide) (fun K hK => ?_)
        refine goes_ Tryd.func16 (by kernel_rfl) rfl #[.slice none 0 0] (by rfl) rfl rfl (by (try simp only [List.map_toArray, List.map_cons, List.map_nil]); first | done | rfl | (simp only [List.length_drop, List.length_take]; rfl)) ?_
        refine (dot_IsSet.calls k _ _ ([] : List (S23)) t166 _ ?side1 ?side2 A50.out).mono ?_
        (case side1 => exact Kd.C_nil _ _)
        (case side2 => exact Nat.le_refl _)
        rintro e w66 ⟨rfl, hb⟩
        refine ⟨_, rfl, ?_⟩
        have n0_ := Aside0.mk (Kd.R_below (by (with_reducible repeat (first | apply Kd.R_alloc | apply Kd.R_drewN | apply Kd.R_drew)); exact HO160.out) hb)
        have n1_ := Aside0.mk (Kd.R_below (by (with_reducible repeat (first | apply Kd.R_alloc | apply Kd.R_drewN | apply Kd.R_drew)); exact HO164.out) hb)
        have n2_ := Aside0.mk (blk_below (g := gb148) (o := .cells #[.int .i64 t142, .int .i64 t143] 23 (0, 0)) (by (with_reducible repeat (first | apply blk_drewN | apply blk_drew | apply blk_alloc)); exact U8.out) hb)
        have n3_ := Aside0.mk (blk_below (g := gb149) (o := .cells #[.int .i64 t144, .int .i64 t145] 23 (0, 0)) (by (with_reducible repeat (first | apply blk_drewN | apply blk_drew | apply blk_alloc)); exact U9.out) hb)
        have n4_ := Aside0.mk (blk_below (g := gb150) (o := .cells #[.int .i64 t146, .int .i64 t147] 23 (0, 0)) (by (with_reducible repeat (first | apply blk_drewN | apply blk_drew | apply blk_alloc)); exact U0.out) hb)
        have n5_ := Aside0.mk (blk_below (g := gb151) (o := .cells #[.int .i64 0, .int .i64 0] 23 (0, 0)) (by (with_reducible repeat (first | apply blk_drewN | apply blk_drew | apply blk_alloc)); exact U1.out) hb)
        have n6_ := Aside0.mk (below_step (by repeat (first | (with_reducible first | exact HB.out | apply below_alloc | apply pw_below_drewN | apply below_drew1 | refine below_set ?_ V8.out | refine below_set ?_ V9.out | refine below_set ?_ V0.out | refine below_set ?_ V1.out) | exact HB.out)) hb)
        clear HO160
        clear HO164
        clear U8
        clear U9
        clear U0
        clear U1
        clear HB
        have HO160 := n0_
        have HO164 := n1_
        have U8 := n2_
        have U9 := n3_
        have U0 := n4_
        have U1 := n5_
        have HB := n6_
        clear n0_ n1_ n2_ n3_ n4_ n5_ n6_
        (try clear hb)
        (try clear hb2)
        (try clear hk)
        (try clear hi)
        refine hK.out _ _ ⟨(blk_cell U8.out 0).trans rfl, (blk_cell U8.out 1).trans rfl, (blk_cell U9.out 0).trans rfl, (blk_cell U9.out 1).trans rfl, (blk_cell U0.out 0).trans rfl, (blk_cell U0.out 1).trans rfl, (blk_cell U1.out 0).trans rfl, (blk_cell U1.out 1).trans rfl⟩ (fun hHeld => ?_)
        clear hK K
        refine norm_ (a' := ?_) ?_ ?_
        rotate_left
        ·
         show Act.put _ (some 49) _ = _
         simp only [Act.put, List.setIfInBounds_toArray, List.set_cons_zero, List.set_cons_succ, i64_w, i32_w]
         rfl
        refine pure_ (i := 38) (N := some 50) (v := ?_) (a' := ?_) #[true, true, true, true, true, true, true, true, true, true, true, true, true, true, true, true, true, true, true, true, true, true, true, true, true, true, true, true, true, true, true, true, true, true, true, true, true, true, true, false] rfl rfl (any_of HT_.out (by kernel_rfl)) (fun _ _ _ h => h) (Or.inl ⟨by rfl, ?_⟩) ?_ ?_
        rotate_left
        ·
         intro w'
         go_simp
         with_reducible rfl
        rotate_left
        ·
         simp only [Act.put, List.setIfInBounds_toArray, List.set_cons_zero, List.set_cons_succ, i64_w, i32_w]
         rfl
        refine pure_ (i := 39) (N := some 51) (v := ?_) (a' := ?_) #[true, true, true, true, true, true, true, true, true, true, true, true, true, true, true, true, true, true, true, true, true, true, true, true, true, true, true, true, true, true, true, true, true, true, true, true, true, true, true, true] rfl rfl (any_of HT_.out (by kernel_rfl)) (fun _ _ _ h => h) (Or.inl ⟨by rfl, ?_⟩) ?_ ?_
        rotate_left
        ·
         intro w'
         go_simp
         with_reducible rfl
        rotate_left
        ·
         simp only [Act.put, List.setIfInBounds_toArray, List.set_cons_zero, List.set_cons_succ, i64_w, i32_w]
         rfl
        refine done_ (done_of HT_.out (by kernel_rfl)) ?_
        try go_wp2
        go_meet
        case rel => exact ⟨_, (!t166), (by first | rfl | (simp; done) | (simp [*]; done)), H', ⟨by first | omega | exact Nat.le_refl _⟩, ⟨by (with_reducible repeat (first | apply blk_drewN | apply blk_drew | apply blk_alloc)); exact U8.out⟩, ⟨by (with_reducible repeat (first | apply blk_drewN | apply blk_drew | apply blk_alloc)); exact U9.out⟩, ⟨by (with_reducible repeat (first | apply blk_drewN | apply blk_drew | apply blk_alloc)); exact U0.out⟩, ⟨by (with_reducible repeat (first | apply blk_drewN | apply blk_drew | apply blk_alloc)); exact U1.out⟩, ⟨by repeat (first | (with_reducible first | exact HB.out | apply below_alloc | apply pw_below_drewN | apply below_drew1 | refine below_set ?_ V8.out | refine below_set ?_ V9.out | refine below_set ?_ V0.out | refine below_set ?_ V1.out) | exact HB.out)⟩⟩
      ·
       replace c32 := Bool.eq_false_iff.mpr c32
       subst c32
       have H1 : (redpencillaw04_known.j0 k true t142 t143 t144 t145 t146 t147 0 0) = some true := by rw [if_neg (show ¬ (false = true) by decide)] at H; exact H
       exact absurd H1 (redpencillaw04_known.j0_no _ _ _ _ _ _ _ _ _)
     ·
      rw [if_neg c30] at H
      exact absurd H (redpencillaw04_known.j0_no _ _ _ _ _ _ _ _ _)
    ·
     rw [if_neg c27] at H
     exact absurd H (redpencillaw04_known.j0_no _ _ _ _ _ _ _ _ _)
   ·
    rw [if_neg c25] at H
    exact absurd H (redpencillaw04_known.j0_no _ _ _ _ _ _ _ _ _)
  ·
   rw [if_neg c23] at H
   exact absurd H (redpencillaw04_known.j0_no _ _ _ _ _ _ _ _ _)
 case rest =>
  clear HC4
  try clear c1
  try clear c2
  try clear p2
  try clear c12
  try clear c23
  try clear c23b0
  try clear c23b1
  obtain ⟨kq, x51_3, rfl, HA, HJ3, U8, U9, U0, U1, HB⟩ := hcut
  cases kq with
  | zero => exact absurd HA.out (by simp [redpencillaw04_known.j0])
  | succ kj3 =>
   have H := HA.out
   clear HA
   simp only [redpencillaw04_known.j0] at H
   by_cases c97 : x51_3 = true
   ·
    subst c97
    have H1 : (some false) = some true := by rw [if_pos rfl] at H; exact H
    exact absurd H1 (by simp)
   ·
    replace c97 := Bool.eq_false_iff.mpr c97
    subst c97
    have H1 : ((some (([(⟨t144, t145⟩ : S23), (⟨t142, t143⟩ : S23), (⟨t146, t147⟩ : S23)] : List (S23)) : List (S23))).bind fun y167 => ((some (([(⟨t146, t147⟩ : S23), (⟨t142, t143⟩ : S23)] : List (S23)) : List (S23))).bind fun y170 => ((some (([(⟨t144, t145⟩ : S23), (⟨t142, t143⟩ : S23)] : List (S23)) : List (S23))).bind fun y173 => ((dot_Set.f (([(⟨t146, t147⟩ : S23), (⟨t142, t143⟩ : S23), (⟨t144, t145⟩ : S23), (⟨t142, t143⟩ : S23)] : List (S23)))).bind fun t179 => ((redpencilref04_Same.f kj3 t179 y167).bind fun t182 => (if t182 = true then ((dot_Union.f y170 y173).bind fun t183 => ((redpencilref04_Same.f kj3 t183 y167).bind fun t186 => (if t186 = true then ((dot_Minus.f y170 y173).bind fun t187 => ((redpencilref04_Same.f kj3 t187 (([(⟨t146, t147⟩ : S23)] : List (S23)))).bind fun t193 => (if t193 = true then ((dot_Has.f kj3 y170 t142 t143).bind fun t194 => (redpencillaw04_known.j1 kj3 (!t194) t142 t143 0 0)) else (redpencillaw04_known.j1 kj3 true t142 t143 0 0)))) else (redpencillaw04_known.j1 kj3 true t142 t143 0 0)))) else (redpencillaw04_known.j1 kj3 true t142 t143 0 0))))))) = some true := by rw [if_neg (show ¬ (false = true) by decide)] at H; exact H
    clear H
    have H := H1
    clear H1
    obtain ⟨y167, hy167⟩ : ∃ y_ : List (S23), y_ = (([(⟨t144, t145⟩ : S23), (⟨t142, t143⟩ : S23), (⟨t146, t147⟩ : S23)] : List (S23))) := ⟨_, rfl⟩
    replace H : ((some (([(⟨t146, t147⟩ : S23), (⟨t142, t143⟩ : S23)] : List (S23)) : List (S23))).bind fun y170 => ((some (([(⟨t144, t145⟩ : S23), (⟨t142, t143⟩ : S23)] : List (S23)) : List (S23))).bind fun y173 => ((dot_Set.f (([(⟨t146, t147⟩ : S23), (⟨t142, t143⟩ : S23), (⟨t144, t145⟩ : S23), (⟨t142, t143⟩ : S23)] : List (S23)))).bind fun t179 => ((redpencilref04_Same.f kj3 t179 y167).bind fun t182 => (if t182 = true then ((dot_Union.f y170 y173).bind fun t183 => ((redpencilref04_Same.f kj3 t183 y167).bind fun t186 => (if t186 = true then ((dot_Minus.f y170 y173).bind fun t187 => ((redpencilref04_Same.f kj3 t187 (([(⟨t146, t147⟩ : S23)] : List (S23)))).bind fun t193 => (if t193 = true then ((dot_Has.f kj3 y170 t142 t143).bind fun t194 => (redpencillaw04_known.j1 kj3 (!t194) t142 t143 0 0)) else (redpencillaw04_known.j1 kj3 true t142 t143 0 0)))) else (redpencillaw04_known.j1 kj3 true t142 t143 0 0)))) else (redpencillaw04_known.j1 kj3 true t142 t143 0 0)))))) = some true := by first | (rw [hy167]; with_reducible exact H) | (have H2_ := (Option.bind_some _ _).symm.trans H; rw [hy167]; with_reducible exact H2_) | (have H2_ := (Option.bind_some _ _).symm.trans H; with_reducible exact H2_) | with_reducible exact H | (rw [hy167]; exact H) | exact H
    have Ny167 := Aside0.mk hy167
    clear hy167
    obtain ⟨y170, hy170⟩ : ∃ y_ : List (S23), y_ = (([(⟨t146, t147⟩ : S23), (⟨t142, t143⟩ : S23)] : List (S23))) := ⟨_, rfl⟩
    replace H : ((some (([(⟨t144, t145⟩ : S23), (⟨t142, t143⟩ : S23)] : List (S23)) : List (S23))).bind fun y173 => ((dot_Set.f (([(⟨t146, t147⟩ : S23), (⟨t142, t143⟩ : S23), (⟨t144, t145⟩ : S23), (⟨t142, t143⟩ : S23)] : List (S23)))).bind fun t179 => ((redpencilref04_Same.f kj3 t179 y167).bind fun t182 => (if t182 = true then ((dot_Union.f y170 y173).bind fun t183 => ((redpencilref04_Same.f kj3 t183 y167).bind fun t186 => (if t186 = true then ((dot_Minus.f y170 y173).bind fun t187 => ((redpencilref04_Same.f kj3 t187 (([(⟨t146, t147⟩ : S23)] : List (S23)))).bind fun t193 => (if t193 = true then ((dot_Has.f kj3 y170 t142 t143).bind fun t194 => (redpencillaw04_known.j1 kj3 (!t194) t142 t143 0 0)) else (redpencillaw04_known.j1 kj3 true t142 t143 0 0)))) else (redpencillaw04_known.j1 kj3 true t142 t143 0 0)))) else (redpencillaw04_known.j1 kj3 true t142 t143 0 0))))) = some true := by first | (rw [hy170]; with_reducible exact H) | (have H2_ := (Option.bind_some _ _).symm.trans H; rw [hy170]; with_reducible exact H2_) | (have H2_ := (Option.bind_some _ _).symm.trans H; with_reducible exact H2_) | with_reducible exact H | (rw [hy170]; exact H) | exact H
    have Ny170 := Aside0.mk hy170
    clear hy170
    obtain ⟨y173, hy173⟩ : ∃ y_ : List (S23), y_ = (([(⟨t144, t145⟩ : S23), (⟨t142, t143⟩ : S23)] : List (S23))) := ⟨_, rfl⟩
    replace H : ((dot_Set.f (([(⟨t146, t147⟩ : S23), (⟨t142, t143⟩ : S23), (⟨t144, t145⟩ : S23), (⟨t142, t143⟩ : S23)] : List (S23)))).bind fun t179 => ((redpencilref04_Same.f kj3 t179 y167).bind fun t182 => (if t182 = true then ((dot_Union.f y170 y173).bind fun t183 => ((redpencilref04_Same.f kj3 t183 y167).bind fun t186 => (if t186 = true then ((dot_Minus.f y170 y173).bind fun t187 => ((redpencilref04_Same.f kj3 t187 (([(⟨t146, t147⟩ : S23)] : List (S23)))).bind fun t193 => (if t193 = true then ((dot_Has.f kj3 y170 t142 t143).bind fun t194 => (redpencillaw04_known.j1 kj3 (!t194) t142 t143 0 0)) else (redpencillaw04_known.j1 kj3 true t142 t143 0 0)))) else (redpencillaw04_known.j1 kj3 true t142 t143 0 0)))) else (redpencillaw04_known.j1 kj3 true t142 t143 0 0)))) = some true := by first | (rw [hy173]; with_reducible exact H) | (have H2_ := (Option.bind_some _ _).symm.trans H; rw [hy173]; with_reducible exact H2_) | (have H2_ := (Option.bind_some _ _).symm.trans H; with_reducible exact H2_) | with_reducible exact H | (rw [hy173]; exact H) | exact H
    have Ny173 := Aside0.mk hy173
    clear hy173
    have HC98 := Aside0.mk H
    clear H
    try go_wp2
    have n0_ := Aside0.mk (blk_drew U8.out)
    have n1_ := Aside0.mk (blk_drew U9.out)
    have n2_ := Aside0.mk (blk_drew U0.out)
    have n3_ := Aside0.mk (blk_drew U1.out)
    have n4_ := Aside0.mk (below_drew1 HB.out)
    clear U8
    clear U9
    clear U0
    clear U1
    clear HB
    have U8 := n0_
    have U9 := n1_
    have U0 := n2_
    have U1 := n3_
    have HB := n4_
    clear n0_ n1_ n2_ n3_ n4_
    refine start_ (n := 13) (S := fun w' => True) (ds := []) #[false, false, false, false, false, false, false, false, false, false, false, false, false] (by kernel_rfl) rfl rfl trivial (fun hHeld => ?_); refine with_tabW redpencillaw04_known.tab4 redpencillaw04_known.bits4 (fun HT_ HW_ => ?_)
    generalize wc.drew = w99 at U8 U9 U0 U1 HB hHeld ⊢
    refine inv_at [0, 1, 2, 3, 4, 5, 6, 7, 8, 9, 10, 11, 12] (fun a0_ b a w' => ∃ (v168 : Value) (v171 : Value) (v174 : Value) (m10_ : Value) (m11_ : Value) (m12_ : Value), a = putSel a0_ b [(0, 52, .agg #[.int .i64 t144, .int .i64 t145]), (1, 53, .agg #[.int .i64 t142, .int .i64 t143]), (2, 54, .agg #[.int .i64 t146, .int .i64 t147]), (3, 55, v168), (4, 56, .agg #[.int .i64 t146, .int .i64 t147]), (5, 57, .agg #[.int .i64 t142, .int .i64 t143]), (6, 58, v171), (7, 59, .agg #[.int .i64 t144, .int .i64 t145]), (8, 60, .agg #[.int .i64 t142, .int .i64 t143]), (9, 61, v174), (10, 5, m10_), (11, 6, m11_), (12, 7, m12_)] ∧ (w'.heap[gb148]? = some (.cells #[.int .i64 t142, .int .i64 t143] 23 (0, 0))) ∧ (w'.heap[gb149]? = some (.cells #[.int .i64 t144, .int .i64 t145] 23 (0, 0))) ∧ (w'.heap[gb150]? = some (.cells #[.int .i64 t146, .int .i64 t147] 23 (0, 0))) ∧ (w'.heap[gb151]? = some (.cells #[.int .i64 0, .int .i64 0] 23 (0, 0))) ∧ (Below w.heap.size w w') ∧ (b 3 = true → Kd.R k23 23 w' w.heap.size (fun k_ => k_ ≠ gb148 ∧ k_ ≠ gb149 ∧ k_ ≠ gb150 ∧ k_ ≠ gb151) v168 y167) ∧ (b 6 = true → Kd.R k23 23 w' w.heap.size (fun k_ => k_ ≠ gb148 ∧ k_ ≠ gb149 ∧ k_ ≠ gb150 ∧ k_ ≠ gb151) v171 y170) ∧ (b 9 = true → Kd.R k23 23 w' w.heap.size (fun k_ => k_ ≠ gb148 ∧ k_ ≠ gb149 ∧ k_ ≠ gb150 ∧ k_ ≠ gb151) v174 y173) ∧ (b 10 = true → (m10_ : Value) = v168) ∧ (b 11 = true → (m11_ : Value) = v171) ∧ (b 12 = true → (m12_ : Value) = v174)) HT_.out HW_.out (by kernel_rfl) (by kernel_rfl) ?_ ?_ ?_
    ·
     exact ⟨.bool false, .bool false, .bool false, .bool false, .bool false, .bool false, by simp only [putSel, Bool.false_eq_true, if_false], U8.out, U9.out, U0.out, U1.out, HB.out, fun h_ => absurd h_ (by decide), fun h_ => absurd h_ (by decide), fun h_ => absurd h_ (by decide), fun h_ => absurd h_ (by decide), fun h_ => absurd h_ (by decide), fun h_ => absurd h_ (by decide)⟩
    ·
     skip
     clear U8 U9 U0 U1 HB
     refine steps_cons ?_ ?_
     ·
      rintro b a w' ⟨v168, v171, v174, m10_, m11_, m12_, ha, Q_U8, Q_U9, Q_U0, Q_U1, Q_HB, Q_HO169, Q_HO172, Q_HO175, Q_X10_, Q_X11_, Q_X12_⟩ hb_ hon hoff
      refine ⟨_, rfl, fun K hK => ?_⟩
      have e2 : a.tmps[2]? = some (.pointer (some ⟨gb149, 0, none⟩)) := by rw [ha]; exact (putSel_off rfl).trans rfl
      replace ha := Aside0.mk ha
      have U8 := Aside0.mk Q_U8
      have U9 := Aside0.mk Q_U9
      have U0 := Aside0.mk Q_U0
      have U1 := Aside0.mk Q_U1
      have HB := Aside0.mk Q_HB
      have hc0_ : w'.cell? ⟨gb149, 0, none⟩ = some (.int .i64 t144) := (blk_cell U9.out 0).trans rfl
      have hc1_ : w'.cell? ⟨gb149, 1, none⟩ = some (.int .i64 t145) := (blk_cell U9.out 1).trans rfl
      refine value_ (w1 := w') (v := .agg #[.int .i64 t144, .int .i64 t145]) (by rfl) rfl ?_ ?_
      ·
       go_simp
       (try simp only [i64_w])
       try rfl
      refine hK.out _ _ ⟨v168, v171, v174, m10_, m11_, m12_, (by rw [ha.out]; exact putSel_upk 0 hb_ rfl rfl rfl), Q_U8, Q_U9, Q_U0, Q_U1, Q_HB, fun h0_ => absurd ((hoff 3 (by kernel_rfl)).symm.trans h0_) (by decide), Q_HO172, Q_HO175, fun h0_ => absurd ((hoff 10 (by kernel_rfl)).symm.trans h0_) (by decide), fun h0_ => absurd ((hoff 11 (by kernel_rfl)).symm.trans h0_) (by decide), fun h0_ => absurd ((hoff 12 (by kernel_rfl)).symm.trans h0_) (by decide)⟩
     refine steps_cons ?_ ?_
     ·
      rintro b a w' ⟨v168, v171, v174, m10_, m11_, m12_, ha, Q_U8, Q_U9, Q_U0, Q_U1, Q_HB, Q_HO169, Q_HO172, Q_HO175, Q_X10_, Q_X11_, Q_X12_⟩ hb_ hon hoff
      refine ⟨_, rfl, fun K hK => ?_⟩
      have e1 : a.tmps[1]? = some (.pointer (some ⟨gb148, 0, none⟩)) := by rw [ha]; exact (putSel_off rfl).trans rfl
      replace ha := Aside0.mk ha
      have U8 := Aside0.mk Q_U8
      have U9 := Aside0.mk Q_U9
      have U0 := Aside0.mk Q_U0
      have U1 := Aside0.mk Q_U1
      have HB := Aside0.mk Q_HB
      have hc0_ : w'.cell? ⟨gb148, 0, none⟩ = some (.int .i64 t142) := (blk_cell U8.out 0).trans rfl
      have hc1_ : w'.cell? ⟨gb148, 1, none⟩ = some (.int .i64 t143) := (blk_cell U8.out 1).trans rfl
      refine value_ (w1 := w') (v := .agg #[.int .i64 t142, .int .i64 t143]) (by rfl) rfl ?_ ?_
      ·
       go_simp
       (try simp only [i64_w])
       try rfl
      refine hK.out _ _ ⟨v168, v171, v174, m10_, m11_, m12_, (by rw [ha.out]; exact putSel_upk 1 hb_ rfl rfl rfl), Q_U8, Q_U9, Q_U0, Q_U1, Q_HB, fun h0_ => absurd ((hoff 3 (by kernel_rfl)).symm.trans h0_) (by decide), Q_HO172, Q_HO175, fun h0_ => absurd ((hoff 10 (by kernel_rfl)).symm.trans h0_) (by decide), fun h0_ => absurd ((hoff 11 (by kernel_rfl)).symm.trans h0_) (by decide), fun h0_ => absurd ((hoff 12 (by kernel_rfl)).symm.trans h0_) (by decide)⟩
     refine steps_cons ?_ ?_
     ·
      rintro b a w' ⟨v168, v171, v174, m10_, m11_, m12_, ha, Q_U8, Q_U9, Q_U0, Q_U1, Q_HB, Q_HO169, Q_HO172, Q_HO175, Q_X10_, Q_X11_, Q_X12_⟩ hb_ hon hoff
      refine ⟨_, rfl, fun K hK => ?_⟩
      have e3 : a.tmps[3]? = some (.pointer (some ⟨gb150, 0, none⟩)) := by rw [ha]; exact (putSel_off rfl).trans rfl
      replace ha := Aside0.mk ha
      have U8 := Aside0.mk Q_U8
      have U9 := Aside0.mk Q_U9
      have U0 := Aside0.mk Q_U0
      have U1 := Aside0.mk Q_U1
      have HB := Aside0.mk Q_HB
      have hc0_ : w'.cell? ⟨gb150, 0, none⟩ = some (.int .i64 t146) := (blk_cell U0.out 0).trans rfl
      have hc1_ : w'.cell? ⟨gb150, 1, none⟩ = some (.int .i64 t147) := (blk_cell U0.out 1).trans rfl
      refine value_ (w1 := w') (v := .agg #[.int .i64 t146, .int .i64 t147]) (by rfl) rfl ?_ ?_
      ·
       go_simp
       (try simp only [i64_w])
       try rfl
      refine hK.out _ _ ⟨v168, v171, v174, m10_, m11_, m12_, (by rw [ha.out]; exact putSel_upk 2 hb_ rfl rfl rfl), Q_U8, Q_U9, Q_U0, Q_U1, Q_HB, fun h0_ => absurd ((hoff 3 (by kernel_rfl)).symm.trans h0_) (by decide), Q_HO172, Q_HO175, fun h0_ => absurd ((hoff 10 (by kernel_rfl)).symm.trans h0_) (by decide), fun h0_ => absurd ((hoff 11 (by kernel_rfl)).symm.trans h0_) (by decide), fun h0_ => absurd ((hoff 12 (by kernel_rfl)).symm.trans h0_) (by decide)⟩
     refine steps_cons ?_ ?_
     ·
      rintro b a w' ⟨v168, v171, v174, m10_, m11_, m12_, ha, Q_U8, Q_U9, Q_U0, Q_U1, Q_HB, Q_HO169, Q_HO172, Q_HO175, Q_X10_, Q_X11_, Q_X12_⟩ hb_ hon hoff
      refine ⟨_, rfl, fun K hK => ?_⟩
      have e52 : a.tmps[52]? = some (.agg #[.int .i64 t144, .int .i64 t145]) := by rw [ha]; exact putSel_on (e := (0, 52, .agg #[.int .i64 t144, .int .i64 t145])) 0 rfl rfl (hon 0 (by kernel_rfl)) rfl
      have e53 : a.tmps[53]? = some (.agg #[.int .i64 t142, .int .i64 t143]) := by rw [ha]; exact putSel_on (e := (1, 53, .agg #[.int .i64 t142, .int .i64 t143])) 1 rfl rfl (hon 1 (by kernel_rfl)) rfl
      have e54 : a.tmps[54]? = some (.agg #[.int .i64 t146, .int .i64 t147]) := by rw [ha]; exact putSel_on (e := (2, 54, .agg #[.int .i64 t146, .int .i64 t147])) 2 rfl rfl (hon 2 (by kernel_rfl)) rfl
      replace ha := Aside0.mk ha
      have U8 := Aside0.mk Q_U8
      have U9 := Aside0.mk Q_U9
      have U0 := Aside0.mk Q_U0
      have U1 := Aside0.mk Q_U1
      have HB := Aside0.mk Q_HB
      refine Kd.R_lit_step k23 _ 23 ?hg (N := 55) ?hd (xs := ([(⟨t144, t145⟩ : S23), (⟨t142, t143⟩ : S23), (⟨t146, t147⟩ : S23)] : List (S23))) (inner := [.int .i64 t144, .int .i64 t145, .int .i64 t142, .int .i64 t143, .int .i64 t146, .int .i64 t147]) (ok := fun _ => True) (okp := fun _ => True) ?hr ?hp (fun _ hk => hk) trivial (Below.refl _ _) (Nat.le_refl _) (by simp) ?_; (case hd => rfl); (case hg => rfl); (case hr => first | (go_simp; done) | (go_simp; rfl)); (case hp => exact (Reps.c2 (show Kd.M k23 _ _ _ (⟨t144, t145⟩ : S23) [.int .i64 t144, .int .i64 t145] from (k23_mkM _ _ _ (⟨t144, t145⟩ : S23) )) (Reps.c2 (show Kd.M k23 _ _ _ (⟨t142, t143⟩ : S23) [.int .i64 t142, .int .i64 t143] from (k23_mkM _ _ _ (⟨t142, t143⟩ : S23) )) (Reps.c2 (show Kd.M k23 _ _ _ (⟨t146, t147⟩ : S23) [.int .i64 t146, .int .i64 t147] from (k23_mkM _ _ _ (⟨t146, t147⟩ : S23) )) (Reps.none _ _)))))
      intro v168 w100 ho101 hb hg_ hnew_
      clear hg_ hnew_
      (first | rw [← Ny167.out] at ho101 | (simp only [Int.reduceToNat] at ho101; rw [← Ny167.out] at ho101))
      have n0_ := Aside0.mk (Kd.R_lower (Kd.R_newB (Kd.R_newB (Kd.R_newB (Kd.R_newB ho101 (g := gb148) (o := .cells #[.int .i64 t142, .int .i64 t143] 23 (0, 0)) (by (with_reducible repeat (first | apply blk_drewN | apply blk_drew | apply blk_alloc)); exact U8.out)) (g := gb149) (o := .cells #[.int .i64 t144, .int .i64 t145] 23 (0, 0)) (by (with_reducible repeat (first | apply blk_drewN | apply blk_drew | apply blk_alloc)); exact U9.out)) (g := gb150) (o := .cells #[.int .i64 t146, .int .i64 t147] 23 (0, 0)) (by (with_reducible repeat (first | apply blk_drewN | apply blk_drew | apply blk_alloc)); exact U0.out)) (g := gb151) (o := .cells #[.int .i64 0, .int .i64 0] 23 (0, 0)) (by (with_reducible repeat (first | apply blk_drewN | apply blk_drew | apply blk_alloc)); exact U1.out)) (below_size (by repeat (first | (with_reducible first | exact HB.out | apply below_alloc | apply pw_below_drewN | apply below_drew1 | refine below_set ?_ V8.out | refine below_set ?_ V9.out | refine below_set ?_ V0.out | refine below_set ?_ V1.out) | exact HB.out))))
      have n1_ := Aside0.mk (blk_below (g := gb148) (o := .cells #[.int .i64 t142, .int .i64 t143] 23 (0, 0)) (by (with_reducible repeat (first | apply blk_drewN | apply blk_drew | apply blk_alloc)); exact U8.out) hb)
      have n2_ := Aside0.mk (blk_below (g := gb149) (o := .cells #[.int .i64 t144, .int .i64 t145] 23 (0, 0)) (by (with_reducible repeat (first | apply blk_drewN | apply blk_drew | apply blk_alloc)); exact U9.out) hb)
      have n3_ := Aside0.mk (blk_below (g := gb150) (o := .cells #[.int .i64 t146, .int .i64 t147] 23 (0, 0)) (by (with_reducible repeat (first | apply blk_drewN | apply blk_drew | apply blk_alloc)); exact U0.out) hb)
      have n4_ := Aside0.mk (blk_below (g := gb151) (o := .cells #[.int .i64 0, .int .i64 0] 23 (0, 0)) (by (with_reducible repeat (first | apply blk_drewN | apply blk_drew | apply blk_alloc)); exact U1.out) hb)
      have n5_ := Aside0.mk (below_step (by repeat (first | (with_reducible first | exact HB.out | apply below_alloc | apply pw_below_drewN | apply below_drew1 | refine below_set ?_ V8.out | refine below_set ?_ V9.out | refine below_set ?_ V0.out | refine below_set ?_ V1.out) | exact HB.out)) hb)
      have z_HO172 := fun (h0_ : b 6 = true) => (show Kd.R k23 23 w100 w.heap.size (fun k_ => k_ ≠ gb148 ∧ k_ ≠ gb149 ∧ k_ ≠ gb150 ∧ k_ ≠ gb151) v171 y170 from by first | exact (Kd.R_elder' (by (with_reducible repeat (first | apply Kd.R_alloc | apply Kd.R_drewN | apply Kd.R_drew)); exact (Q_HO172 h0_)) (Kd.R_base ho101) hb) | exact Kd.R_mono (Kd.R_elder' (by (with_reducible repeat (first | apply Kd.R_alloc | apply Kd.R_drewN | apply Kd.R_drew)); exact (Q_HO172 h0_)) (Kd.R_base ho101) hb) (fun _ h_ => by first | trivial | exact h_ | exact h_.1))
      have z_HO175 := fun (h0_ : b 9 = true) => (show Kd.R k23 23 w100 w.heap.size (fun k_ => k_ ≠ gb148 ∧ k_ ≠ gb149 ∧ k_ ≠ gb150 ∧ k_ ≠ gb151) v174 y173 from by first | exact (Kd.R_elder' (by (with_reducible repeat (first | apply Kd.R_alloc | apply Kd.R_drewN | apply Kd.R_drew)); exact (Q_HO175 h0_)) (Kd.R_base ho101) hb) | exact Kd.R_mono (Kd.R_elder' (by (with_reducible repeat (first | apply Kd.R_alloc | apply Kd.R_drewN | apply Kd.R_drew)); exact (Q_HO175 h0_)) (Kd.R_base ho101) hb) (fun _ h_ => by first | trivial | exact h_ | exact h_.1))
      clear U8
      clear U9
      clear U0
      clear U1
      clear HB
      have HO169 := n0_
      have U8 := n1_
      have U9 := n2_
      have U0 := n3_
      have U1 := n4_
      have HB := n5_
      clear n0_ n1_ n2_ n3_ n4_ n5_
      clear hb ho101
      refine hK.out _ _ ⟨v168, v171, v174, m10_, m11_, m12_, (by rw [ha.out]; exact putSel_upk 3 hb_ rfl rfl rfl), (by (with_reducible repeat (first | apply blk_drewN | apply blk_drew | apply blk_alloc)); exact U8.out), (by (with_reducible repeat (first | apply blk_drewN | apply blk_drew | apply blk_alloc)); exact U9.out), (by (with_reducible repeat (first | apply blk_drewN | apply blk_drew | apply blk_alloc)); exact U0.out), (by (with_reducible repeat (first | apply blk_drewN | apply blk_drew | apply blk_alloc)); exact U1.out), (by repeat (first | (with_reducible first | exact HB.out | apply below_alloc | apply pw_below_drewN | apply below_drew1 | refine below_set ?_ V8.out | refine below_set ?_ V9.out | refine below_set ?_ V0.out | refine below_set ?_ V1.out) | exact HB.out)), fun _ => (by (with_reducible repeat (first | apply Kd.R_alloc | apply Kd.R_drewN | apply Kd.R_drew)); first | exact Kd.R_mono HO169.out (fun _ hk => ⟨hk.1.1.1.2, ⟨hk.1.1.2, ⟨hk.1.2, hk.2⟩⟩⟩) | exact Kd.R_mono HO169.out (fun _ _ => trivial) | exact Kd.R_mono HO169.out (fun _ hk => hk.2) | exact Kd.R_mono HO169.out (fun _ hk => hk.1)), z_HO172, z_HO175, fun h0_ => absurd ((hoff 10 (by kernel_rfl)).symm.trans h0_) (by decide), fun h0_ => absurd ((hoff 11 (by kernel_rfl)).symm.trans h0_) (by decide), fun h0_ => absurd ((hoff 12 (by kernel_rfl)).symm.trans h0_) (by decide)⟩
     refine steps_cons ?_ ?_
     ·
      rintro b a w' ⟨v168, v171, v174, m10_, m11_, m12_, ha, Q_U8, Q_U9, Q_U0, Q_U1, Q_HB, Q_HO169, Q_HO172, Q_HO175, Q_X10_, Q_X11_, Q_X12_⟩ hb_ hon hoff
      refine ⟨_, rfl, fun K hK => ?_⟩
      have e3 : a.tmps[3]? = some (.pointer (some ⟨gb150, 0, none⟩)) := by rw [ha]; exact (putSel_off rfl).trans rfl
      replace ha := Aside0.mk ha
      have U8 := Aside0.mk Q_U8
      have U9 := Aside0.mk Q_U9
      have U0 := Aside0.mk Q_U0
      have U1 := Aside0.mk Q_U1
      have HB := Aside0.mk Q_HB
      have hc0_ : w'.cell? ⟨gb150, 0, none⟩ = some (.int .i64 t146) := (blk_cell U0.out 0).trans rfl
      have hc1_ : w'.cell? ⟨gb150, 1, none⟩ = some (.int .i64 t147) := (blk_cell U0.out 1).trans rfl
      refine value_ (w1 := w') (v := .agg #[.int .i64 t146, .int .i64 t147]) (by rfl) rfl ?_ ?_
      ·
       go_simp
       (try simp only [i64_w])
       try rfl
      refine hK.out _ _ ⟨v168, v171, v174, m10_, m11_, m12_, (by rw [ha.out]; exact putSel_upk 4 hb_ rfl rfl rfl), Q_U8, Q_U9, Q_U0, Q_U1, Q_HB, Q_HO169, fun h0_ => absurd ((hoff 6 (by kernel_rfl)).symm.trans h0_) (by decide), Q_HO175, Q_X10_, fun h0_ => absurd ((hoff 11 (by kernel_rfl)).symm.trans h0_) (by decide), fun h0_ => absurd ((hoff 12 (by kernel_rfl)).symm.trans h0_) (by decide)⟩
     refine steps_cons ?_ ?_
     ·
      rintro b a w' ⟨v168, v171, v174, m10_, m11_, m12_, ha, Q_U8, Q_U9, Q_U0, Q_U1, Q_HB, Q_HO169, Q_HO172, Q_HO175, Q_X10_, Q_X11_, Q_X12_⟩ hb_ hon hoff
      refine ⟨_, rfl, fun K hK => ?_⟩
      have e1 : a.tmps[1]? = some (.pointer (some ⟨gb148, 0, none⟩)) := by rw [ha]; exact (putSel_off rfl).trans rfl
      replace ha := Aside0.mk ha
      have U8 := Aside0.mk Q_U8
      have U9 := Aside0.mk Q_U9
      have U0 := Aside0.mk Q_U0
      have U1 := Aside0.mk Q_U1
      have HB := Aside0.mk Q_HB
      have hc0_ : w'.cell? ⟨gb148, 0, none⟩ = some (.int .i64 t142) := (blk_cell U8.out 0).trans rfl
      have hc1_ : w'.cell? ⟨gb148, 1, none⟩ = some (.int .i64 t143) := (blk_cell U8.out 1).trans rfl
      refine value_ (w1 := w') (v := .agg #[.int .i64 t142, .int .i64 t143]) (by rfl) rfl ?_ ?_
      ·
       go_simp
       (try simp only [i64_w])
       try rfl
      refine hK.out _ _ ⟨v168, v171, v174, m10_, m11_, m12_, (by rw [ha.out]; exact putSel_upk 5 hb_ rfl rfl rfl), Q_U8, Q_U9, Q_U0, Q_U1, Q_HB, Q_HO169, fun h0_ => absurd ((hoff 6 (by kernel_rfl)).symm.trans h0_) (by decide), Q_HO175, Q_X10_, fun h0_ => absurd ((hoff 11 (by kernel_rfl)).symm.trans h0_) (by decide), fun h0_ => absurd ((hoff 12 (by kernel_rfl)).symm.trans h0_) (by decide)⟩
     refine steps_cons ?_ ?_
     ·
      rintro b a w' ⟨v168, v171, v174, m10_, m11_, m12_, ha, Q_U8, Q_U9, Q_U0, Q_U1, Q_HB, Q_HO169, Q_HO172, Q_HO175, Q_X10_, Q_X11_, Q_X12_⟩ hb_ hon hoff
      refine ⟨_, rfl, fun K hK => ?_⟩
      have e56 : a.tmps[56]? = some (.agg #[.int .i64 t146, .int .i64 t147]) := by rw [ha]; exact putSel_on (e := (4, 56, .agg #[.int .i64 t146, .int .i64 t147])) 4 rfl rfl (hon 4 (by kernel_rfl)) rfl
      have e57 : a.tmps[57]? = some (.agg #[.int .i64 t142, .int .i64 t143]) := by rw [ha]; exact putSel_on (e := (5, 57, .agg #[.int .i64 t142, .int .i64 t143])) 5 rfl rfl (hon 5 (by kernel_rfl)) rfl
      replace ha := Aside0.mk ha
      have U8 := Aside0.mk Q_U8
      have U9 := Aside0.mk Q_U9
      have U0 := Aside0.mk Q_U0
      have U1 := Aside0.mk Q_U1
      have HB := Aside0.mk Q_HB
      refine Kd.R_lit_step k23 _ 23 ?hg (N := 58) ?hd (xs := ([(⟨t146, t147⟩ : S23), (⟨t142, t143⟩ : S23)] : List (S23))) (inner := [.int .i64 t146, .int .i64 t147, .int .i64 t142, .int .i64 t143]) (ok := fun _ => True) (okp := fun _ => True) ?hr ?hp (fun _ hk => hk) trivial (Below.refl _ _) (Nat.le_refl _) (by simp) ?_; (case hd => rfl); (case hg => rfl); (case hr => first | (go_simp; done) | (go_simp; rfl)); (case hp => exact (Reps.c2 (show Kd.M k23 _ _ _ (⟨t146, t147⟩ : S23) [.int .i64 t146, .int .i64 t147] from (k23_mkM _ _ _ (⟨t146, t147⟩ : S23) )) (Reps.c2 (show Kd.M k23 _ _ _ (⟨t142, t143⟩ : S23) [.int .i64 t142, .int .i64 t143] from (k23_mkM _ _ _ (⟨t142, t143⟩ : S23) )) (Reps.none _ _))))
      intro v171 w100 ho101 hb hg_ hnew_
      clear hg_ hnew_
      (first | rw [← Ny170.out] at ho101 | (simp only [Int.reduceToNat] at ho101; rw [← Ny170.out] at ho101))
      have n0_ := Aside0.mk (Kd.R_lower (Kd.R_newB (Kd.R_newB (Kd.R_newB (Kd.R_newB ho101 (g := gb148) (o := .cells #[.int .i64 t142, .int .i64 t143] 23 (0, 0)) (by (with_reducible repeat (first | apply blk_drewN | apply blk_drew | apply blk_alloc)); exact U8.out)) (g := gb149) (o := .cells #[.int .i64 t144, .int .i64 t145] 23 (0, 0)) (by (with_reducible repeat (first | apply blk_drewN | apply blk_drew | apply blk_alloc)); exact U9.out)) (g := gb150) (o := .cells #[.int .i64 t146, .int .i64 t147] 23 (0, 0)) (by (with_reducible repeat (first | apply blk_drewN | apply blk_drew | apply blk_alloc)); exact U0.out)) (g := gb151) (o := .cells #[.int .i64 0, .int .i64 0] 23 (0, 0)) (by (with_reducible repeat (first | apply blk_drewN | apply blk_drew | apply blk_alloc)); exact U1.out)) (below_size (by repeat (first | (with_reducible first | exact HB.out | apply below_alloc | apply pw_below_drewN | apply below_drew1 | refine below_set ?_ V8.out | refine below_set ?_ V9.out | refine below_set ?_ V0.out | refine below_set ?_ V1.out) | exact HB.out))))
      have n1_ := Aside0.mk (blk_below (g := gb148) (o := .cells #[.int .i64 t142, .int .i64 t143] 23 (0, 0)) (by (with_reducible repeat (first | apply blk_drewN | apply blk_drew | apply blk_alloc)); exact U8.out) hb)
      have n2_ := Aside0.mk (blk_below (g := gb149) (o := .cells #[.int .i64 t144, .int .i64 t145] 23 (0, 0)) (by (with_reducible repeat (first | apply blk_drewN | apply blk_drew | apply blk_alloc)); exact U9.out) hb)
      have n3_ := Aside0.mk (blk_below (g := gb150) (o := .cells #[.int .i64 t146, .int .i64 t147] 23 (0, 0)) (by (with_reducible repeat (first | apply blk_drewN | apply blk_drew | apply blk_alloc)); exact U0.out) hb)
      have n4_ := Aside0.mk (blk_below (g := gb151) (o := .cells #[.int .i64 0, .int .i64 0] 23 (0, 0)) (by (with_reducible repeat (first | apply blk_drewN | apply blk_drew | apply blk_alloc)); exact U1.out) hb)
      have n5_ := Aside0.mk (below_step (by repeat (first | (with_reducible first | exact HB.out | apply below_alloc | apply pw_below_drewN | apply below_drew1 | refine below_set ?_ V8.out | refine below_set ?_ V9.out | refine below_set ?_ V0.out | refine below_set ?_ V1.out) | exact HB.out)) hb)
      have z_HO169 := fun (h0_ : b 3 = true) => (show Kd.R k23 23 w100 w.heap.size (fun k_ => k_ ≠ gb148 ∧ k_ ≠ gb149 ∧ k_ ≠ gb150 ∧ k_ ≠ gb151) v168 y167 from by first | exact (Kd.R_elder' (by (with_reducible repeat (first | apply Kd.R_alloc | apply Kd.R_drewN | apply Kd.R_drew)); exact (Q_HO169 h0_)) (Kd.R_base ho101) hb) | exact Kd.R_mono (Kd.R_elder' (by (with_reducible repeat (first | apply Kd.R_alloc | apply Kd.R_drewN | apply Kd.R_drew)); exact (Q_HO169 h0_)) (Kd.R_base ho101) hb) (fun _ h_ => by first | trivial | exact h_ | exact h_.1))
      have z_HO175 := fun (h0_ : b 9 = true) => (show Kd.R k23 23 w100 w.heap.size (fun k_ => k_ ≠ gb148 ∧ k_ ≠ gb149 ∧ k_ ≠ gb150 ∧ k_ ≠ gb151) v174 y173 from by first | exact (Kd.R_elder' (by (with_reducible repeat (first | apply Kd.R_alloc | apply Kd.R_drewN | apply Kd.R_drew)); exact (Q_HO175 h0_)) (Kd.R_base ho101) hb) | exact Kd.R_mono (Kd.R_elder' (by (with_reducible repeat (first | apply Kd.R_alloc | apply Kd.R_drewN | apply Kd.R_drew)); exact (Q_HO175 h0_)) (Kd.R_base ho101) hb) (fun _ h_ => by first | trivial | exact h_ | exact h_.1))
      clear U8
      clear U9
      clear U0
      clear U1
      clear HB
      have HO172 := n0_
      have U8 := n1_
      have U9 := n2_
      have U0 := n3_
      have U1 := n4_
      have HB := n5_
      clear n0_ n1_ n2_ n3_ n4_ n5_
      clear hb ho101
      refine hK.out _ _ ⟨v168, v171, v174, m10_, m11_, m12_, (by rw [ha.out]; exact putSel_upk 6 hb_ rfl rfl rfl), (by (with_reducible repeat (first | apply blk_drewN | apply blk_drew | apply blk_alloc)); exact U8.out), (by (with_reducible repeat (first | apply blk_drewN | apply blk_drew | apply blk_alloc)); exact U9.out), (by (with_reducible repeat (first | apply blk_drewN | apply blk_drew | apply blk_alloc)); exact U0.out), (by (with_reducible repeat (first | apply blk_drewN | apply blk_drew | apply blk_alloc)); exact U1.out), (by repeat (first | (with_reducible first | exact HB.out | apply below_alloc | apply pw_below_drewN | apply below_drew1 | refine below_set ?_ V8.out | refine below_set ?_ V9.out | refine below_set ?_ V0.out | refine below_set ?_ V1.out) | exact HB.out)), z_HO169, fun _ => (by (with_reducible repeat (first | apply Kd.R_alloc | apply Kd.R_drewN | apply Kd.R_drew)); first | exact Kd.R_mono HO172.out (fun _ hk => ⟨hk.1.1.1.2, ⟨hk.1.1.2, ⟨hk.1.2, hk.2⟩⟩⟩) | exact Kd.R_mono HO172.out (fun _ _ => trivial) | exact Kd.R_mono HO172.out (fun _ hk => hk.2) | exact Kd.R_mono HO172.out (fun _ hk => hk.1)), z_HO175, Q_X10_, fun h0_ => absurd ((hoff 11 (by kernel_rfl)).symm.trans h0_) (by decide), fun h0_ => absurd ((hoff 12 (by kernel_rfl)).symm.trans h0_) (by decide)⟩
     refine steps_cons ?_ ?_
     ·
      rintro b a w' ⟨v168, v171, v174, m10_, m11_, m12_, ha, Q_U8, Q_U9, Q_U0, Q_U1, Q_HB, Q_HO169, Q_HO172, Q_HO175, Q_X10_, Q_X11_, Q_X12_⟩ hb_ hon hoff
      refine ⟨_, rfl, fun K hK => ?_⟩
      have e2 : a.tmps[2]? = some (.pointer (some ⟨gb149, 0, none⟩)) := by rw [ha]; exact (putSel_off rfl).trans rfl
      replace ha := Aside0.mk ha
      have U8 := Aside0.mk Q_U8
      have U9 := Aside0.mk Q_U9
      have U0 := Aside0.mk Q_U0
      have U1 := Aside0.mk Q_U1
      have HB := Aside0.mk Q_HB
      have hc0_ : w'.cell? ⟨gb149, 0, none⟩ = some (.int .i64 t144) := (blk_cell U9.out 0).trans rfl
      have hc1_ : w'.cell? ⟨gb149, 1, none⟩ = some (.int .i64 t145) := (blk_cell U9.out 1).trans rfl
      refine value_ (w1 := w') (v := .agg #[.int .i64 t144, .int .i64 t145]) (by rfl) rfl ?_ ?_
      ·
       go_simp
       (try simp only [i64_w])
       try rfl
      refine hK.out _ _ ⟨v168, v171, v174, m10_, m11_, m12_, (by rw [ha.out]; exact putSel_upk 7 hb_ rfl rfl rfl), Q_U8, Q_U9, Q_U0, Q_U1, Q_HB, Q_HO169, Q_HO172, fun h0_ => absurd ((hoff 9 (by kernel_rfl)).symm.trans h0_) (by decide), Q_X10_, Q_X11_, fun h0_ => absurd ((hoff 12 (by kernel_rfl)).symm.trans h0_) (by decide)⟩
     refine steps_cons ?_ ?_
     ·
      rintro b a w' ⟨v168, v171, v174, m10_, m11_, m12_, ha, Q_U8, Q_U9, Q_U0, Q_U1, Q_HB, Q_HO169, Q_HO172, Q_HO175, Q_X10_, Q_X11_, Q_X12_⟩ hb_ hon hoff
      refine ⟨_, rfl, fun K hK => ?_⟩
      have e1 : a.tmps[1]? = some (.pointer (some ⟨gb148, 0, none⟩)) := by rw [ha]; exact (putSel_off rfl).trans rfl
      replace ha := Aside0.mk ha
      have U8 := Aside0.mk Q_U8
      have U9 := Aside0.mk Q_U9
      have U0 := Aside0.mk Q_U0
      have U1 := Aside0.mk Q_U1
      have HB := Aside0.mk Q_HB
      have hc0_ : w'.cell? ⟨gb148, 0, none⟩ = some (.int .i64 t142) := (blk_cell U8.out 0).trans rfl
      have hc1_ : w'.cell? ⟨gb148, 1, none⟩ = some (.int .i64 t143) := (blk_cell U8.out 1).trans rfl
      refine value_ (w1 := w') (v := .agg #[.int .i64 t142, .int .i64 t143]) (by rfl) rfl ?_ ?_
      ·
       go_simp
       (try simp only [i64_w])
       try rfl
      refine hK.out _ _ ⟨v168, v171, v174, m10_, m11_, m12_, (by rw [ha.out]; exact putSel_upk 8 hb_ rfl rfl rfl), Q_U8, Q_U9, Q_U0, Q_U1, Q_HB, Q_HO169, Q_HO172, fun h0_ => absurd ((hoff 9 (by kernel_rfl)).symm.trans h0_) (by decide), Q_X10_, Q_X11_, fun h0_ => absurd ((hoff 12 (by kernel_rfl)).symm.trans h0_) (by decide)⟩
     refine steps_cons ?_ ?_
     ·
      rintro b a w' ⟨v168, v171, v174, m10_, m11_, m12_, ha, Q_U8, Q_U9, Q_U0, Q_U1, Q_HB, Q_HO169, Q_HO172, Q_HO175, Q_X10_, Q_X11_, Q_X12_⟩ hb_ hon hoff
      refine ⟨_, rfl, fun K hK => ?_⟩
      have e59 : a.tmps[59]? = some (.agg #[.int .i64 t144, .int .i64 t145]) := by rw [ha]; exact putSel_on (e := (7, 59, .agg #[.int .i64 t144, .int .i64 t145])) 7 rfl rfl (hon 7 (by kernel_rfl)) rfl
      have e60 : a.tmps[60]? = some (.agg #[.int .i64 t142, .int .i64 t143]) := by rw [ha]; exact putSel_on (e := (8, 60, .agg #[.int .i64 t142, .int .i64 t143])) 8 rfl rfl (hon 8 (by kernel_rfl)) rfl
      replace ha := Aside0.mk ha
      have U8 := Aside0.mk Q_U8
      have U9 := Aside0.mk Q_U9
      have U0 := Aside0.mk Q_U0
      have U1 := Aside0.mk Q_U1
      have HB := Aside0.mk Q_HB
      refine Kd.R_lit_step k23 _ 23 ?hg (N := 61) ?hd (xs := ([(⟨t144, t145⟩ : S23), (⟨t142, t143⟩ : S23)] : List (S23))) (inner := [.int .i64 t144, .int .i64 t145, .int .i64 t142, .int .i64 t143]) (ok := fun _ => True) (okp := fun _ => True) ?hr ?hp (fun _ hk => hk) trivial (Below.refl _ _) (Nat.le_refl _) (by simp) ?_; (case hd => rfl); (case hg => rfl); (case hr => first | (go_simp; done) | (go_simp; rfl)); (case hp => exact (Reps.c2 (show Kd.M k23 _ _ _ (⟨t144, t145⟩ : S23) [.int .i64 t144, .int .i64 t145] from (k23_mkM _ _ _ (⟨t144, t145⟩ : S23) )) (Reps.c2 (show Kd.M k23 _ _ _ (⟨t142, t143⟩ : S23) [.int .i64 t142, .int .i64 t143] from (k23_mkM _ _ _ (⟨t142, t143⟩ : S23) )) (Reps.none _ _))))
      intro v174 w100 ho101 hb hg_ hnew_
      clear hg_ hnew_
      (first | rw [← Ny173.out] at ho101 | (simp only [Int.reduceToNat] at ho101; rw [← Ny173.out] at ho101))
      have n0_ := Aside0.mk (Kd.R_lower (Kd.R_newB (Kd.R_newB (Kd.R_newB (Kd.R_newB ho101 (g := gb148) (o := .cells #[.int .i64 t142, .int .i64 t143] 23 (0, 0)) (by (with_reducible repeat (first | apply blk_drewN | apply blk_drew | apply blk_alloc)); exact U8.out)) (g := gb149) (o := .cells #[.int .i64 t144, .int .i64 t145] 23 (0, 0)) (by (with_reducible repeat (first | apply blk_drewN | apply blk_drew | apply blk_alloc)); exact U9.out)) (g := gb150) (o := .cells #[.int .i64 t146, .int .i64 t147] 23 (0, 0)) (by (with_reducible repeat (first | apply blk_drewN | apply blk_drew | apply blk_alloc)); exact U0.out)) (g := gb151) (o := .cells #[.int .i64 0, .int .i64 0] 23 (0, 0)) (by (with_reducible repeat (first | apply blk_drewN | apply blk_drew | apply blk_alloc)); exact U1.out)) (below_size (by repeat (first | (with_reducible first | exact HB.out | apply below_alloc | apply pw_below_drewN | apply below_drew1 | refine below_set ?_ V8.out | refine below_set ?_ V9.out | refine below_set ?_ V0.out | refine below_set ?_ V1.out) | exact HB.out))))
      have n1_ := Aside0.mk (blk_below (g := gb148) (o := .cells #[.int .i64 t142, .int .i64 t143] 23 (0, 0)) (by (with_reducible repeat (first | apply blk_drewN | apply blk_drew | apply blk_alloc)); exact U8.out) hb)
      have n2_ := Aside0.mk (blk_below (g := gb149) (o := .cells #[.int .i64 t144, .int .i64 t145] 23 (0, 0)) (by (with_reducible repeat (first | apply blk_drewN | apply blk_drew | apply blk_alloc)); exact U9.out) hb)
      have n3_ := Aside0.mk (blk_below (g := gb150) (o := .cells #[.int .i64 t146, .int .i64 t147] 23 (0, 0)) (by (with_reducible repeat (first | apply blk_drewN | apply blk_drew | apply blk_alloc)); exact U0.out) hb)
      have n4_ := Aside0.mk (blk_below (g := gb151) (o := .cells #[.int .i64 0, .int .i64 0] 23 (0, 0)) (by (with_reducible repeat (first | apply blk_drewN | apply blk_drew | apply blk_alloc)); exact U1.out) hb)
      have n5_ := Aside0.mk (below_step (by repeat (first | (with_reducible first | exact HB.out | apply below_alloc | apply pw_below_drewN | apply below_drew1 | refine below_set ?_ V8.out | refine below_set ?_ V9.out | refine below_set ?_ V0.out | refine below_set ?_ V1.out) | exact HB.out)) hb)
      have z_HO169 := fun (h0_ : b 3 = true) => (show Kd.R k23 23 w100 w.heap.size (fun k_ => k_ ≠ gb148 ∧ k_ ≠ gb149 ∧ k_ ≠ gb150 ∧ k_ ≠ gb151) v168 y167 from by first | exact (Kd.R_elder' (by (with_reducible repeat (first | apply Kd.R_alloc | apply Kd.R_drewN | apply Kd.R_drew)); exact (Q_HO169 h0_)) (Kd.R_base ho101) hb) | exact Kd.R_mono (Kd.R_elder' (by (with_reducible repeat (first | apply Kd.R_alloc | apply Kd.R_drewN | apply Kd.R_drew)); exact (Q_HO169 h0_)) (Kd.R_base ho101) hb) (fun _ h_ => by first | trivial | exact h_ | exact h_.1))
      have z_HO172 := fun (h0_ : b 6 = true) => (show Kd.R k23 23 w100 w.heap.size (fun k_ => k_ ≠ gb148 ∧ k_ ≠ gb149 ∧ k_ ≠ gb150 ∧ k_ ≠ gb151) v171 y170 from by first | exact (Kd.R_elder' (by (with_reducible repeat (first | apply Kd.R_alloc | apply Kd.R_drewN | apply Kd.R_drew)); exact (Q_HO172 h0_)) (Kd.R_base ho101) hb) | exact Kd.R_mono (Kd.R_elder' (by (with_reducible repeat (first | apply Kd.R_alloc | apply Kd.R_drewN | apply Kd.R_drew)); exact (Q_HO172 h0_)) (Kd.R_base ho101) hb) (fun _ h_ => by first | trivial | exact h_ | exact h_.1))
      clear U8
      clear U9
      clear U0
      clear U1
      clear HB
      have HO175 := n0_
      have U8 := n1_
      have U9 := n2_
      have U0 := n3_
      have U1 := n4_
      have HB := n5_
      clear n0_ n1_ n2_ n3_ n4_ n5_
      clear hb ho101
      refine hK.out _ _ ⟨v168, v171, v174, m10_, m11_, m12_, (by rw [ha.out]; exact putSel_upk 9 hb_ rfl rfl rfl), (by (with_reducible repeat (first | apply blk_drewN | apply blk_drew | apply blk_alloc)); exact U8.out), (by (with_reducible repeat (first | apply blk_drewN | apply blk_drew | apply blk_alloc)); exact U9.out), (by (with_reducible repeat (first | apply blk_drewN | apply blk_drew | apply blk_alloc)); exact U0.out), (by (with_reducible repeat (first | apply blk_drewN | apply blk_drew | apply blk_alloc)); exact U1.out), (by repeat (first | (with_reducible first | exact HB.out | apply below_alloc | apply pw_below_drewN | apply below_drew1 | refine below_set ?_ V8.out | refine below_set ?_ V9.out | refine below_set ?_ V0.out | refine below_set ?_ V1.out) | exact HB.out)), z_HO169, z_HO172, fun _ => (by (with_reducible repeat (first | apply Kd.R_alloc | apply Kd.R_drewN | apply Kd.R_drew)); first | exact Kd.R_mono HO175.out (fun _ hk => ⟨hk.1.1.1.2, ⟨hk.1.1.2, ⟨hk.1.2, hk.2⟩⟩⟩) | exact Kd.R_mono HO175.out (fun _ _ => trivial) | exact Kd.R_mono HO175.out (fun _ hk => hk.2) | exact Kd.R_mono HO175.out (fun _ hk => hk.1)), Q_X10_, Q_X11_, fun h0_ => absurd ((hoff 12 (by kernel_rfl)).symm.trans h0_) (by decide)⟩
     refine steps_cons ?_ ?_
     ·
      rintro b a w' ⟨v168, v171, v174, m10_, m11_, m12_, ha, Q_U8, Q_U9, Q_U0, Q_U1, Q_HB, Q_HO169, Q_HO172, Q_HO175, Q_X10_, Q_X11_, Q_X12_⟩ hb_ hon hoff
      refine ⟨_, rfl, fun K hK => ?_⟩
      have e55 : a.tmps[55]? = some (v168) := by rw [ha]; exact putSel_on (e := (3, 55, v168)) 3 rfl rfl (hon 3 (by kernel_rfl)) rfl
      replace ha := Aside0.mk ha
      have U8 := Aside0.mk Q_U8
      have U9 := Aside0.mk Q_U9
      have U0 := Aside0.mk Q_U0
      have U1 := Aside0.mk Q_U1
      have HB := Aside0.mk Q_HB
      have HO169 := Aside0.mk (Q_HO169 (hon 3 (by kernel_rfl)))
      refine value_ (w1 := w') (v := v168) (by rfl) rfl ?_ ?_
      ·
       go_simp
       (try simp only [i64_w])
       try rfl
      refine hK.out _ _ ⟨v168, v171, v174, (v168), m11_, m12_, (by rw [ha.out]; exact putSel_upk 10 hb_ rfl rfl rfl), Q_U8, Q_U9, Q_U0, Q_U1, Q_HB, Q_HO169, Q_HO172, Q_HO175, fun _ => rfl, fun h0_ => absurd ((hoff 11 (by kernel_rfl)).symm.trans h0_) (by decide), fun h0_ => absurd ((hoff 12 (by kernel_rfl)).symm.trans h0_) (by decide)⟩
     refine steps_cons ?_ ?_
     ·
      rintro b a w' ⟨v168, v171, v174, m10_, m11_, m12_, ha, Q_U8, Q_U9, Q_U0, Q_U1, Q_HB, Q_HO169, Q_HO172, Q_HO175, Q_X10_, Q_X11_, Q_X12_⟩ hb_ hon hoff
      refine ⟨_, rfl, fun K hK => ?_⟩
      have e58 : a.tmps[58]? = some (v171) := by rw [ha]; exact putSel_on (e := (6, 58, v171)) 6 rfl rfl (hon 6 (by kernel_rfl)) rfl
      replace ha := Aside0.mk ha
      have U8 := Aside0.mk Q_U8
      have U9 := Aside0.mk Q_U9
      have U0 := Aside0.mk Q_U0
      have U1 := Aside0.mk Q_U1
      have HB := Aside0.mk Q_HB
      have HO169 := Aside0.mk (Q_HO169 (hon 3 (by kernel_rfl)))
      have HO172 := Aside0.mk (Q_HO172 (hon 6 (by kernel_rfl)))
      refine value_ (w1 := w') (v := v171) (by rfl) rfl ?_ ?_
      ·
       go_simp
       (try simp only [i64_w])
       try rfl
      refine hK.out _ _ ⟨v168, v171, v174, m10_, (v171), m12_, (by rw [ha.out]; exact putSel_upk 11 hb_ rfl rfl rfl), Q_U8, Q_U9, Q_U0, Q_U1, Q_HB, Q_HO169, Q_HO172, Q_HO175, Q_X10_, fun _ => rfl, fun h0_ => absurd ((hoff 12 (by kernel_rfl)).symm.trans h0_) (by decide)⟩
     refine steps_cons ?_ ?_
     ·
      rintro b a w' ⟨v168, v171, v174, m10_, m11_, m12_, ha, Q_U8, Q_U9, Q_U0, Q_U1, Q_HB, Q_HO169, Q_HO172, Q_HO175, Q_X10_, Q_X11_, Q_X12_⟩ hb_ hon hoff
      refine ⟨_, rfl, fun K hK => ?_⟩
      have e61 : a.tmps[61]? = some (v174) := by rw [ha]; exact putSel_on (e := (9, 61, v174)) 9 rfl rfl (hon 9 (by kernel_rfl)) rfl
      replace ha := Aside0.mk ha
      have U8 := Aside0.mk Q_U8
      have U9 := Aside0.mk Q_U9
      have U0 := Aside0.mk Q_U0
      have U1 := Aside0.mk Q_U1
      have HB := Aside0.mk Q_HB
      have HO169 := Aside0.mk (Q_HO169 (hon 3 (by kernel_rfl)))
      have HO172 := Aside0.mk (Q_HO172 (hon 6 (by kernel_rfl)))
      have HO175 := Aside0.mk (Q_HO175 (hon 9 (by kernel_rfl)))
      refine value_ (w1 := w') (v := v174) (by rfl) rfl ?_ ?_
      ·
       go_simp
       (try simp only [i64_w])
       try rfl
      refine hK.out _ _ ⟨v168, v171, v174, m10_, m11_, (v174), (by rw [ha.out]; exact putSel_upk 12 hb_ rfl rfl rfl), Q_U8, Q_U9, Q_U0, Q_U1, Q_HB, Q_HO169, Q_HO172, Q_HO175, Q_X10_, Q_X11_, fun _ => rfl⟩
     exact steps_nil
    rintro b a w106 hall ⟨v168, v171, v174, m10_, m11_, m12_, ha, Q_U8, Q_U9, Q_U0, Q_U1, Q_HB, Q_HO169, Q_HO172, Q_HO175, Q_X10_, Q_X11_, Q_X12_⟩
    clear U8 U9 U0 U1 HB
    have hb0_ := hall 0 (by kernel_rfl)
    have hb1_ := hall 1 (by kernel_rfl)
    have hb2_ := hall 2 (by kernel_rfl)
    have hb3_ := hall 3 (by kernel_rfl)
    have hb4_ := hall 4 (by kernel_rfl)
    have hb5_ := hall 5 (by kernel_rfl)
    have hb6_ := hall 6 (by kernel_rfl)
    have hb7_ := hall 7 (by kernel_rfl)
    have hb8_ := hall 8 (by kernel_rfl)
    have hb9_ := hall 9 (by kernel_rfl)
    have hb10_ := hall 10 (by kernel_rfl)
    have hb11_ := hall 11 (by kernel_rfl)
    have hb12_ := hall 12 (by kernel_rfl)
    subst ha
    obtain rfl := Q_X10_ hb10_
    obtain rfl := Q_X11_ hb11_
    obtain rfl := Q_X12_ hb12_
    simp only [putSel, hb0_, hb1_, hb2_, hb3_, hb4_, hb5_, hb6_, hb7_, hb8_, hb9_, hb10_, hb11_, hb12_, if_true, Act.put, List.setIfInBounds_toArray, List.set_cons_zero, List.set_cons_succ]
    have U8 := Aside0.mk Q_U8
    clear Q_U8
    have U9 := Aside0.mk Q_U9
    clear Q_U9
    have U0 := Aside0.mk Q_U0
    clear Q_U0
    have U1 := Aside0.mk Q_U1
    clear Q_U1
    have HB := Aside0.mk Q_HB
    clear Q_HB
    have HO169 := Aside0.mk (Q_HO169 hb3_)
    clear Q_HO169
    have HO172 := Aside0.mk (Q_HO172 hb6_)
    clear Q_HO172
    have HO175 := Aside0.mk (Q_HO175 hb9_)
    clear Q_HO175
    clear hall hb0_ hb1_ hb2_ hb3_ hb4_ hb5_ hb6_ hb7_ hb8_ hb9_ hb10_ hb11_ hb12_
    go_upto_region 5 with (fail)
    go_cut [93] (fun v93 wc => ∃ (kq : Nat) (x93_97 : Bool), v93 = .bool x93_97 ∧ Aside0 (redpencillaw04_known.j1 kq x93_97 t142 t143 0 0 = some true) ∧ Aside0 (kq ≤ kj3) ∧ Aside0 (wc.heap[gb148]? = some (.cells #[.int .i64 t142, .int .i64 t143] 23 (0, 0))) ∧ Aside0 (wc.heap[gb149]? = some (.cells #[.int .i64 t144, .int .i64 t145] 23 (0, 0))) ∧ Aside0 (wc.heap[gb150]? = some (.cells #[.int .i64 t146, .int .i64 t147] 23 (0, 0))) ∧ Aside0 (wc.heap[gb151]? = some (.cells #[.int .i64 0, .int .i64 0] 23 (0, 0))) ∧ Aside0 (Below w.heap.size w wc))
    case first =>
     have H := HC98.out
     clear HC98
     obtain ⟨y176, hy176⟩ : ∃ y_ : List (S23), y_ = (([(⟨t146, t147⟩ : S23), (⟨t142, t143⟩ : S23), (⟨t144, t145⟩ : S23), (⟨t142, t143⟩ : S23)] : List (S23))) := ⟨_, rfl⟩
     replace H : ((dot_Set.f y176).bind fun t179 => ((redpencilref04_Same.f kj3 t179 y167).bind fun t182 => (if t182 = true then ((dot_Union.f y170 y173).bind fun t183 => ((redpencilref04_Same.f kj3 t183 y167).bind fun t186 => (if t186 = true then ((dot_Minus.f y170 y173).bind fun t187 => ((redpencilref04_Same.f kj3 t187 (([(⟨t146, t147⟩ : S23)] : List (S23)))).bind fun t193 => (if t193 = true then ((dot_Has.f kj3 y170 t142 t143).bind fun t194 => (redpencillaw04_known.j1 kj3 (!t194) t142 t143 0 0)) else (redpencillaw04_known.j1 kj3 true t142 t143 0 0)))) else (redpencillaw04_known.j1 kj3 true t142 t143 0 0)))) else (redpencillaw04_known.j1 kj3 true t142 t143 0 0)))) = some true := by first | (rw [hy176]; with_reducible exact H) | (have H2_ := (Option.bind_some _ _).symm.trans H; rw [hy176]; with_reducible exact H2_) | (have H2_ := (Option.bind_some _ _).symm.trans H; with_reducible exact H2_) | with_reducible exact H | (rw [hy176]; exact H) | exact H
     have Ny176 := Aside0.mk hy176
     clear hy176
     replace H := Option.bind_eq_some_iff.mp H
     obtain ⟨t179, A1070, H⟩ := H
     replace H : ((redpencilref04_Same.f kj3 t179 y167).bind fun t182 => (if t182 = true then ((dot_Union.f y170 y173).bind fun t183 => ((redpencilref04_Same.f kj3 t183 y167).bind fun t186 => (if t186 = true then ((dot_Minus.f y170 y173).bind fun t187 => ((redpencilref04_Same.f kj3 t187 (([(⟨t146, t147⟩ : S23)] : List (S23)))).bind fun t193 => (if t193 = true then ((dot_Has.f kj3 y170 t142 t143).bind fun t194 => (redpencillaw04_known.j1 kj3 (!t194) t142 t143 0 0)) else (redpencillaw04_known.j1 kj3 true t142 t143 0 0)))) else (redpencillaw04_known.j1 kj3 true t142 t143 0 0)))) else (redpencillaw04_known.j1 kj3 true t142 t143 0 0))) = some true := H
     have A107 := Aside0.mk A1070
     clear A1070
     replace H := Option.bind_eq_some_iff.mp H
     obtain ⟨t182, A1080, H⟩ := H
     replace H : (if t182 = true then ((dot_Union.f y170 y173).bind fun t183 => ((redpencilref04_Same.f kj3 t183 y167).bind fun t186 => (if t186 = true then ((dot_Minus.f y170 y173).bind fun t187 => ((redpencilref04_Same.f kj3 t187 (([(⟨t146, t147⟩ : S23)] : List (S23)))).bind fun t193 => (if t193 = true then ((dot_Has.f kj3 y170 t142 t143).bind fun t194 => (redpencillaw04_known.j1 kj3 (!t194) t142 t143 0 0)) else (redpencillaw04_known.j1 kj3 true t142 t143 0 0)))) else (redpencillaw04_known.j1 kj3 true t142 t143 0 0)))) else (redpencillaw04_known.j1 kj3 true t142 t143 0 0)) = some true := H
     have A108 := Aside0.mk A1080
     clear A1080
     by_cases c109 : t182 = true
     ·
      subst c109
      have H1 : ((dot_Union.f y170 y173).bind fun t183 => ((redpencilref04_Same.f kj3 t183 y167).bind fun t186 => (if t186 = true then ((dot_Minus.f y170 y173).bind fun t187 => ((redpencilref04_Same.f kj3 t187 (([(⟨t146, t147⟩ : S23)] : List (S23)))).bind fun t193 => (if t193 = true then ((dot_Has.f kj3 y170 t142 t143).bind fun t194 => (redpencillaw04_known.j1 kj3 (!t194) t142 t143 0 0)) else (redpencillaw04_known.j1 kj3 true t142 t143 0 0)))) else (redpencillaw04_known.j1 kj3 true t142 t143 0 0)))) = some true := by rw [if_pos rfl] at H; exact H
      clear H
      have H := H1
      clear H1
      replace H := Option.bind_eq_some_iff.mp H
      obtain ⟨t183, A1100, H⟩ := H
      replace H : ((redpencilref04_Same.f kj3 t183 y167).bind fun t186 => (if t186 = true then ((dot_Minus.f y170 y173).bind fun t187 => ((redpencilref04_Same.f kj3 t187 (([(⟨t146, t147⟩ : S23)] : List (S23)))).bind fun t193 => (if t193 = true then ((dot_Has.f kj3 y170 t142 t143).bind fun t194 => (redpencillaw04_known.j1 kj3 (!t194) t142 t143 0 0)) else (redpencillaw04_known.j1 kj3 true t142 t143 0 0)))) else (redpencillaw04_known.j1 kj3 true t142 t143 0 0))) = some true := H
      have A110 := Aside0.mk A1100
      clear A1100
      replace H := Option.bind_eq_some_iff.mp H
      obtain ⟨t186, A1110, H⟩ := H
      replace H : (if t186 = true then ((dot_Minus.f y170 y173).bind fun t187 => ((redpencilref04_Same.f kj3 t187 (([(⟨t146, t147⟩ : S23)] : List (S23)))).bind fun t193 => (if t193 = true then ((dot_Has.f kj3 y170 t142 t143).bind fun t194 => (redpencillaw04_known.j1 kj3 (!t194) t142 t143 0 0)) else (redpencillaw04_known.j1 kj3 true t142 t143 0 0)))) else (redpencillaw04_known.j1 kj3 true t142 t143 0 0)) = some true := H
      have A111 := Aside0.mk A1110
      clear A1110
      by_cases c112 : t186 = true
      ·
       subst c112
       have H1 : ((dot_Minus.f y170 y173).bind fun t187 => ((redpencilref04_Same.f kj3 t187 (([(⟨t146, t147⟩ : S23)] : List (S23)))).bind fun t193 => (if t193 = true then ((dot_Has.f kj3 y170 t142 t143).bind fun t194 => (redpencillaw04_known.j1 kj3 (!t194) t142 t143 0 0)) else (redpencillaw04_known.j1 kj3 true t142 t143 0 0)))) = some true := by rw [if_pos rfl] at H; exact H
       clear H
       have H := H1
       clear H1
       replace H := Option.bind_eq_some_iff.mp H
       obtain ⟨t187, A1130, H⟩ := H
       replace H : ((redpencilref04_Same.f kj3 t187 (([(⟨t146, t147⟩ : S23)] : List (S23)))).bind fun t193 => (if t193 = true then ((dot_Has.f kj3 y170 t142 t143).bind fun t194 => (redpencillaw04_known.j1 kj3 (!t194) t142 t143 0 0)) else (redpencillaw04_known.j1 kj3 true t142 t143 0 0))) = some true := H
       have A113 := Aside0.mk A1130
       clear A1130
       obtain ⟨y190, hy190⟩ : ∃ y_ : List (S23), y_ = (([(⟨t146, t147⟩ : S23)] : List (S23))) := ⟨_, rfl⟩
       replace H : ((redpencilref04_Same.f kj3 t187 y190).bind fun t193 => (if t193 = true then ((dot_Has.f kj3 y170 t142 t143).bind fun t194 => (redpencillaw04_known.j1 kj3 (!t194) t142 t143 0 0)) else (redpencillaw04_known.j1 kj3 true t142 t143 0 0))) = some true := by first | (rw [hy190]; with_reducible exact H) | (have H2_ := (Option.bind_some _ _).symm.trans H; rw [hy190]; with_reducible exact H2_) | (have H2_ := (Option.bind_some _ _).symm.trans H; with_reducible exact H2_) | with_reducible exact H | (rw [hy190]; exact H) | exact H
       have Ny190 := Aside0.mk hy190
       clear hy190
       replace H := Option.bind_eq_some_iff.mp H
       obtain ⟨t193, A1140, H⟩ := H
       replace H : (if t193 = true then ((dot_Has.f kj3 y170 t142 t143).bind fun t194 => (redpencillaw04_known.j1 kj3 (!t194) t142 t143 0 0)) else (redpencillaw04_known.j1 kj3 true t142 t143 0 0)) = some true := H
       have A114 := Aside0.mk A1140
       clear A1140
       by_cases c115 : t193 = true
       ·
        subst c115
        have H1 : ((dot_Has.f kj3 y170 t142 t143).bind fun t194 => (redpencillaw04_known.j1 kj3 (!t194) t142 t143 0 0)) = some true := by rw [if_pos rfl] at H; exact H
        clear H
        have H := H1
        clear H1
        replace H := Option.bind_eq_some_iff.mp H
        obtain ⟨t194, A1160, H⟩ := H
        replace H : (redpencillaw04_known.j1 kj3 (!t194) t142 t143 0 0) = some true := H
        have A116 := Aside0.mk A1160
        clear A1160
        have H' := Aside0.mk H
        clear H
        obtain ⟨Ao117, co117, eo117⟩ := Kd.R_slice HO169.out
        subst eo117
        obtain ⟨Ao118, co118, eo118⟩ := Kd.R_slice HO172.out
        subst eo118
        obtain ⟨Ao119, co119, eo119⟩ := Kd.R_slice HO175.out
        subst eo119
        try go_wp2
        have n0_ := Aside0.mk (Kd.R_drew HO169.out)
        have n1_ := Aside0.mk (Kd.R_drew HO172.out)
        have n2_ := Aside0.mk (Kd.R_drew HO175.out)
        have n3_ := Aside0.mk (blk_drew U8.out)
        have n4_ := Aside0.mk (blk_drew U9.out)
        have n5_ := Aside0.mk (blk_drew U0.out)
        have n6_ := Aside0.mk (blk_drew U1.out)
        have n7_ := Aside0.mk (below_drew1 HB.out)
        clear HO169
        clear HO172
        clear HO175
        clear U8
        clear U9
        clear U0
        clear U1
        clear HB
        have HO169 := n0_
        have HO172 := n1_
        have HO175 := n2_
        have U8 := n3_
        have U9 := n4_
        have U0 := n5_
        have U1 := n6_
        have HB := n7_
        clear n0_ n1_ n2_ n3_ n4_ n5_ n6_ n7_
        refine start_ (n := 32) (S := fun w' => w'.cell? ⟨gb150, 0, none⟩ = some (.int .i64 t146) ∧ w'.cell? ⟨gb150, 1, none⟩ = some (.int .i64 t147) ∧ w'.cell? ⟨gb148, 0, none⟩ = some (.int .i64 t142) ∧ w'.cell? ⟨gb148, 1, none⟩ = some (.int .i64 t143) ∧ w'.cell? ⟨gb149, 0, none⟩ = some (.int .i64 t144) ∧ w'.cell? ⟨gb149, 1, none⟩ = some (.int .i64 t145)) (ds := []) #[false, false, false, false, false, false, false, false, false, false, false, false, false, false, false, false, false, false, false, false, false, false, false, false, false, false, false, false, false, false, false, false] (by kernel_rfl) rfl rfl ⟨(blk_cell U0.out 0).trans rfl, (blk_cell U0.out 1).trans rfl, (blk_cell U8.out 0).trans rfl, (blk_cell U8.out 1).trans rfl, (blk_cell U9.out 0).trans rfl, (blk_cell U9.out 1).trans rfl⟩ (fun hHeld => ?_); refine with_tabW redpencillaw04_known.tab5 redpencillaw04_known.bits5 (fun HT_ HW_ => ?_)
        generalize w106.drew = w120 at HO169 HO172 HO175 U8 U9 U0 U1 HB hHeld ⊢
        refine pure_ (i := 6) (N := some 68) (v := ?_) (a' := ?_) #[false, false, false, false, false, false, true, false, false, false, false, false, false, false, false, false, false, false, false, false, false, false, false, false, false, false, false, false, false, false, false, false] rfl rfl (any_of HT_.out (by kernel_rfl)) (fun _ _ _ h => h) (Or.inl ⟨by rfl, ?_⟩) ?_ ?_
        rotate_left
        ·
         intro w'
         go_simp
         with_reducible rfl
        rotate_left
        ·
         simp only [Act.put, List.setIfInBounds_toArray, List.set_cons_zero, List.set_cons_succ, i64_w, i32_w]
         rfl
        refine take_ (i := 0) (N := some 62) (v := ?_) (a' := ?_) #[true, false, false, false, false, false, true, false, false, false, false, false, false, false, false, false, false, false, false, false, false, false, false, false, false, false, false, false, false, false, false, false] rfl rfl (take_ofW HT_.out HW_.out (by kernel_rfl)) (fun _ _ _ h => h) (Or.inl ⟨by rfl, ?_⟩) hHeld ?_ ?_
        rotate_left
        ·
         rintro w' ⟨s0, s1, s2, s3, s4, s5⟩
         go_simp
         with_reducible rfl
        rotate_left
        ·
         simp only [Act.put, List.setIfInBounds_toArray, List.set_cons_zero, List.set_cons_succ, i64_w, i32_w]
         rfl
        refine take_ (i := 1) (N := some 63) (v := ?_) (a' := ?_) #[true, true, false, false, false, false, true, false, false, false, false, false, false, false, false, false, false, false, false, false, false, false, false, false, false, false, false, false, false, false, false, false] rfl rfl (take_ofW HT_.out HW_.out (by kernel_rfl)) (fun _ _ _ h => h) (Or.inl ⟨by rfl, ?_⟩) hHeld ?_ ?_
        rotate_left
        ·
         rintro w' ⟨s0, s1, s2, s3, s4, s5⟩
         go_simp
         with_reducible rfl
        rotate_left
        ·
         simp only [Act.put, List.setIfInBounds_toArray, List.set_cons_zero, List.set_cons_succ, i64_w, i32_w]
         rfl
        refine take_ (i := 2) (N := some 64) (v := ?_) (a' := ?_) #[true, true, true, false, false, false, true, false, false, false, false, false, false, false, false, false, false, false, false, false, false, false, false, false, false, false, false, false, false, false, false, false] rfl rfl (take_ofW HT_.out HW_.out (by kernel_rfl)) (fun _ _ _ h => h) (Or.inl ⟨by rfl, ?_⟩) hHeld ?_ ?_
        rotate_left
        ·
         rintro w' ⟨s0, s1, s2, s3, s4, s5⟩
         go_simp
         with_reducible rfl
        rotate_left
        ·
         simp only [Act.put, List.setIfInBounds_toArray, List.set_cons_zero, List.set_cons_succ, i64_w, i32_w]
         rfl
        refine take_ (i := 3) (N := some 65) (v := ?_) (a' := ?_) #[true, true, true, true, false, false, true, false, false, false, false, false, false, false, false, false, false, false, false, false, false, false, false, false, false, false, false, false, false, false, false, false] rfl rfl (take_ofW HT_.out HW_.out (by kernel_rfl)) (fun _ _ _ h => h) (Or.inl ⟨by rfl, ?_⟩) hHeld ?_ ?_
        rotate_left
        ·
         rintro w' ⟨s0, s1, s2, s3, s4, s5⟩
         go_simp
         with_reducible rfl
        rotate_left
        ·
         simp only [Act.put, List.setIfInBounds_toArray, List.set_cons_zero, List.set_cons_succ, i64_w, i32_w]
         rfl
        refine one_ (i := 4) (N := some 66) #[true, true, true, true, true, false, true, false, false, false, false, false, false, false, false, false, false, false, false, false, false, false, false, false, false, false, false, false, false, false, false, false] rfl rfl (one_of HT_.out (by kernel_rfl)) (by decide) (fun K hK => ?_)
        refine Kd.R_lit_step k23 _ 23 ?hg (N := 66) ?hd (xs := ([(⟨t146, t147⟩ : S23), (⟨t142, t143⟩ : S23), (⟨t144, t145⟩ : S23), (⟨t142, t143⟩ : S23)] : List (S23))) (inner := [.int .i64 t146, .int .i64 t147, .int .i64 t142, .int .i64 t143, .int .i64 t144, .int .i64 t145, .int .i64 t142, .int .i64 t143]) (ok := fun _ => True) (okp := fun _ => True) ?hr ?hp (fun _ hk => hk) trivial (Below.refl _ _) (Nat.le_refl _) (by simp) ?_; (case hd => rfl); (case hg => rfl); (case hr => first | (go_simp; done) | (go_simp; rfl)); (case hp => exact (Reps.c2 (show Kd.M k23 _ _ _ (⟨t146, t147⟩ : S23) [.int .i64 t146, .int .i64 t147] from (k23_mkM _ _ _ (⟨t146, t147⟩ : S23) )) (Reps.c2 (show Kd.M k23 _ _ _ (⟨t142, t143⟩ : S23) [.int .i64 t142, .int .i64 t143] from (k23_mkM _ _ _ (⟨t142, t143⟩ : S23) )) (Reps.c2 (show Kd.M k23 _ _ _ (⟨t144, t145⟩ : S23) [.int .i64 t144, .int .i64 t145] from (k23_mkM _ _ _ (⟨t144, t145⟩ : S23) )) (Reps.c2 (show Kd.M k23 _ _ _ (⟨t142, t143⟩ : S23) [.int .i64 t142, .int .i64 t143] from (k23_mkM _ _ _ (⟨t142, t143⟩ : S23) )) (Reps.none _ _))))))
        intro v177 w121 ho122 hb hg_ hnew_
        clear hg_ hnew_
        (first | rw [← Ny176.out] at ho122 | (simp only [Int.reduceToNat] at ho122; rw [← Ny176.out] at ho122))
        have n0_ := Aside0.mk (Kd.R_elder' (by (with_reducible repeat (first | apply Kd.R_alloc | apply Kd.R_drewN | apply Kd.R_drew)); exact HO169.out) (Kd.R_base ho122) hb)
        have n1_ := Aside0.mk (Kd.R_elder' (by (with_reducible repeat (first | apply Kd.R_alloc | apply Kd.R_drewN | apply Kd.R_drew)); exact HO172.out) (Kd.R_base ho122) hb)
        have n2_ := Aside0.mk (Kd.R_elder' (by (with_reducible repeat (first | apply Kd.R_alloc | apply Kd.R_drewN | apply Kd.R_drew)); exact HO175.out) (Kd.R_base ho122) hb)
        have n3_ := Aside0.mk (Kd.R_lower (Kd.R_newB (Kd.R_newB (Kd.R_newB (Kd.R_newB (Kd.R_new' (Kd.R_new' (Kd.R_new' ho122 (Kd.R_lt (by (with_reducible repeat (first | apply Kd.R_alloc | apply Kd.R_drewN | apply Kd.R_drew)); exact HO169.out))) (Kd.R_lt (by (with_reducible repeat (first | apply Kd.R_alloc | apply Kd.R_drewN | apply Kd.R_drew)); exact HO172.out))) (Kd.R_lt (by (with_reducible repeat (first | apply Kd.R_alloc | apply Kd.R_drewN | apply Kd.R_drew)); exact HO175.out))) (g := gb148) (o := .cells #[.int .i64 t142, .int .i64 t143] 23 (0, 0)) (by (with_reducible repeat (first | apply blk_drewN | apply blk_drew | apply blk_alloc)); exact U8.out)) (g := gb149) (o := .cells #[.int .i64 t144, .int .i64 t145] 23 (0, 0)) (by (with_reducible repeat (first | apply blk_drewN | apply blk_drew | apply blk_alloc)); exact U9.out)) (g := gb150) (o := .cells #[.int .i64 t146, .int .i64 t147] 23 (0, 0)) (by (with_reducible repeat (first | apply blk_drewN | apply blk_drew | apply blk_alloc)); exact U0.out)) (g := gb151) (o := .cells #[.int .i64 0, .int .i64 0] 23 (0, 0)) (by (with_reducible repeat (first | apply blk_drewN | apply blk_drew | apply blk_alloc)); exact U1.out)) (below_size (by repeat (first | (with_reducible first | exact HB.out | apply below_alloc | apply pw_below_drewN | apply below_drew1 | refine below_set ?_ V8.out | refine below_set ?_ V9.out | refine below_set ?_ V0.out | refine below_set ?_ V1.out) | exact HB.out))))
        have n4_ := Aside0.mk (blk_below (g := gb148) (o := .cells #[.int .i64 t142, .int .i64 t143] 23 (0, 0)) (by (with_reducible repeat (first | apply blk_drewN | apply blk_drew | apply blk_alloc)); exact U8.out) hb)
        have n5_ := Aside0.mk (blk_below (g := gb149) (o := .cells #[.int .i64 t144, .int .i64 t145] 23 (0, 0)) (by (with_reducible repeat (first | apply blk_drewN | apply blk_drew | apply blk_alloc)); exact U9.out) hb)
        have n6_ := Aside0.mk (blk_below (g := gb150) (o := .cells #[.int .i64 t146, .int .i64 t147] 23 (0, 0)) (by (with_reducible repeat (first | apply blk_drewN | apply blk_drew | apply blk_alloc)); exact U0.out) hb)
        have n7_ := Aside0.mk (blk_below (g := gb151) (o := .cells #[.int .i64 0, .int .i64 0] 23 (0, 0)) (by (with_reducible repeat (first | apply blk_drewN | apply blk_drew | apply blk_alloc)); exact U1.out) hb)
        have n8_ := Aside0.mk (below_step (by repeat (first | (with_reducible first | exact HB.out | apply below_alloc | apply pw_below_drewN | apply below_drew1 | refine below_set ?_ V8.out | refine below_set ?_ V9.out | refine below_set ?_ V0.out | refine below_set ?_ V1.out) | exact HB.out)) hb)
        clear HO169
        clear HO172
        clear HO175
        clear U8
        clear U9
        clear U0
        clear U1
        clear HB
        have HO169 := n0_
        have HO172 := n1_
        have HO175 := n2_
        have HO178 := n3_
        have U8 := n4_
        have U9 := n5_
        have U0 := n6_
        have U1 := n7_
        have HB := n8_
        clear n0_ n1_ n2_ n3_ n4_ n5_ n6_ n7_ n8_
        clear hb ho122
        obtain ⟨Ao123, co123, eo123⟩ := Kd.R_slice HO178.out
        (first | subst eo123 | (injection eo123 with f1_ f2_ f3_; have f4_ := f1_.symm; have f5_ := f3_.symm; clear f1_ f2_ f3_; subst f4_; subst f5_))
        refine hK.out _ _ ⟨(blk_cell U0.out 0).trans rfl, (blk_cell U0.out 1).trans rfl, (blk_cell U8.out 0).trans rfl, (blk_cell U8.out 1).trans rfl, (blk_cell U9.out 0).trans rfl, (blk_cell U9.out 1).trans rfl⟩ (fun hHeld => ?_)
        clear hK K
        refine norm_ (a' := ?_) ?_ ?_
        rotate_left
        ·
         show Act.put _ (some 66) _ = _
         simp only [Act.put, List.setIfInBounds_toArray, List.set_cons_zero, List.set_cons_succ, i64_w, i32_w]
         rfl
        refine one_ (i := 5) (N := some 67) #[true, true, true, true, true, true, true, false, false, false, false, false, false, false, false, false, false, false, false, false, false, false, false, false, false, false, false, false, false, false, false, false] rfl rfl (one_of HT_.out (by kernel_rfl)) (by decide) (fun K hK => ?_)
        refine goes_ Tryd.func15 (by kernel_rfl) rfl #[.slice Ao123 y176.length co123] (by rfl) rfl rfl (by (try simp only [List.map_toArray, List.map_cons, List.map_nil]); first | done | rfl | (simp only [List.length_drop, List.length_take]; rfl)) ?_
        with_reducible refine (dot_Set.calls _ _ y176 t179 _ ?side1 ?side2 A107.out).mono ?_
        (case side1 => repeat (first | exact (Kd.R_reads' HO178.out).2.2 | (with_reducible refine Kd.C_alloc ?_ _) | (with_reducible refine Kd.C_drewN ?_ _) | (with_reducible refine Kd.C_drew ?_)))
        (case side2 => exact (Kd.R_reads' HO178.out).2.1)
        rintro e w124 ⟨v180, rfl, ho0, hb⟩
        refine ⟨_, rfl, ?_⟩
        have n0_ := Aside0.mk (Kd.R_elder' (by (with_reducible repeat (first | apply Kd.R_alloc | apply Kd.R_drewN | apply Kd.R_drew)); exact HO169.out) (Kd.R_base ho0) hb)
        have n1_ := Aside0.mk (Kd.R_elder' (by (with_reducible repeat (first | apply Kd.R_alloc | apply Kd.R_drewN | apply Kd.R_drew)); exact HO172.out) (Kd.R_base ho0) hb)
        have n2_ := Aside0.mk (Kd.R_elder' (by (with_reducible repeat (first | apply Kd.R_alloc | apply Kd.R_drewN | apply Kd.R_drew)); exact HO175.out) (Kd.R_base ho0) hb)
        have n3_ := Aside0.mk (Kd.R_elder' (by (with_reducible repeat (first | apply Kd.R_alloc | apply Kd.R_drewN | apply Kd.R_drew)); exact HO178.out) (Kd.R_base ho0) hb)
        have n4_ := Aside0.mk (Kd.R_lower (Kd.R_newB (Kd.R_newB (Kd.R_newB (Kd.R_newB (Kd.R_new' (Kd.R_new' (Kd.R_new' (Kd.R_new' ho0 (Kd.R_lt (by (with_reducible repeat (first | apply Kd.R_alloc | apply Kd.R_drewN | apply Kd.R_drew)); exact HO169.out))) (Kd.R_lt (by (with_reducible repeat (first | apply Kd.R_alloc | apply Kd.R_drewN | apply Kd.R_drew)); exact HO172.out))) (Kd.R_lt (by (with_reducible repeat (first | apply Kd.R_alloc | apply Kd.R_drewN | apply Kd.R_drew)); exact HO175.out))) (Kd.R_lt (by (with_reducible repeat (first | apply Kd.R_alloc | apply Kd.R_drewN | apply Kd.R_drew)); exact HO178.out))) (g := gb148) (o := .cells #[.int .i64 t142, .int .i64 t143] 23 (0, 0)) (by (with_reducible repeat (first | apply blk_drewN | apply blk_drew | apply blk_alloc)); exact U8.out)) (g := gb149) (o := .cells #[.int .i64 t144, .int .i64 t145] 23 (0, 0)) (by (with_reducible repeat (first | apply blk_drewN | apply blk_drew | apply blk_alloc)); exact U9.out)) (g := gb150) (o := .cells #[.int .i64 t146, .int .i64 t147] 23 (0, 0)) (by (with_reducible repeat (first | apply blk_drewN | apply blk_drew | apply blk_alloc)); exact U0.out)) (g := gb151) (o := .cells #[.int .i64 0, .int .i64 0] 23 (0, 0)) (by (with_reducible repeat (first | apply blk_drewN | apply blk_drew | apply blk_alloc)); exact U1.out)) (below_size (by repeat (first | (with_reducible first | exact HB.out | apply below_alloc | apply pw_below_drewN | apply below_drew1 | refine below_set ?_ V8.out | refine below_set ?_ V9.out | refine below_set ?_ V0.out | refine below_set ?_ V1.out) | exact HB.out))))
        have n5_ := Aside0.mk (blk_below (g := gb148) (o := .cells #[.int .i64 t142, .int .i64 t143] 23 (0, 0)) (by (with_reducible repeat (first | apply blk_drewN | apply blk_drew | apply blk_alloc)); exact U8.out) hb)
        have n6_ := Aside0.mk (blk_below (g := gb149) (o := .cells #[.int .i64 t144, .int .i64 t145] 23 (0, 0)) (by (with_reducible repeat (first | apply blk_drewN | apply blk_drew | apply blk_alloc)); exact U9.out) hb)
        have n7_ := Aside0.mk (blk_below (g := gb150) (o := .cells #[.int .i64 t146, .int .i64 t147] 23 (0, 0)) (by (with_reducible repeat (first | apply blk_drewN | apply blk_drew | apply blk_alloc)); exact U0.out) hb)
        have n8_ := Aside0.mk (blk_below (g := gb151) (o := .cells #[.int .i64 0, .int .i64 0] 23 (0, 0)) (by (with_reducible repeat (first | apply blk_drewN | apply blk_drew | apply blk_alloc)); exact U1.out) hb)
        have n9_ := Aside0.mk (below_step (by repeat (first | (with_reducible first | exact HB.out | apply below_alloc | apply pw_below_drewN | apply below_drew1 | refine below_set ?_ V8.out | refine below_set ?_ V9.out | refine below_set ?_ V0.out | refine below_set ?_ V1.out) | exact HB.out)) hb)
        clear HO169
        clear HO172
        clear HO175
        clear HO178
        clear U8
        clear U9
        clear U0
        clear U1
        clear HB
        have HO169 := n0_
        have HO172 := n1_
        have HO175 := n2_
        have HO178 := n3_
        have HO181 := n4_
        have U8 := n5_
        have U9 := n6_
        have U0 := n7_
        have U1 := n8_
        have HB := n9_
        clear n0_ n1_ n2_ n3_ n4_ n5_ n6_ n7_ n8_ n9_
        (try clear hb)
        (try clear hb2)
        (try clear hk)
        (try clear hi)
        (try clear ho0)
        obtain ⟨Ao125, co125, eo125⟩ := Kd.R_slice HO181.out
        (first | subst eo125 | (injection eo125 with f1_ f2_ f3_; have f4_ := f1_.symm; have f5_ := f3_.symm; clear f1_ f2_ f3_; subst f4_; subst f5_))
        refine hK.out _ _ ⟨(blk_cell U0.out 0).trans rfl, (blk_cell U0.out 1).trans rfl, (blk_cell U8.out 0).trans rfl, (blk_cell U8.out 1).trans rfl, (blk_cell U9.out 0).trans rfl, (blk_cell U9.out 1).trans rfl⟩ (fun hHeld => ?_)
        clear hK K
        refine norm_ (a' := ?_) ?_ ?_
        rotate_left
        ·
         show Act.put _ (some 67) _ = _
         simp only [Act.put, List.setIfInBounds_toArray, List.set_cons_zero, List.set_cons_succ, i64_w, i32_w]
         rfl
        refine one_ (i := 7) (N := some 69) #[true, true, true, true, true, true, true, true, false, false, false, false, false, false, false, false, false, false, false, false, false, false, false, false, false, false, false, false, false, false, false, false] rfl rfl (one_of HT_.out (by kernel_rfl)) (by decide) (fun K hK => ?_)
        refine goes_ Tryd.func18 (by kernel_rfl) rfl #[.slice Ao125 t179.length co125, .slice Ao117 y167.length co117] (by rfl) rfl rfl (by (try simp only [List.map_toArray, List.map_cons, List.map_nil]); first | done | rfl | (simp only [List.length_drop, List.length_take]; rfl)) ?_
        with_reducible refine (redpencilref04_Same.calls kj3 _ _ t179 _ _ y167 true _ ?side1 ?side2 ?side3 ?side4 A108.out).mono ?_
        (case side1 => repeat (first | exact (Kd.R_reads' HO181.out).2.2 | (with_reducible refine Kd.C_alloc ?_ _) | (with_reducible refine Kd.C_drewN ?_ _) | (with_reducible refine Kd.C_drew ?_)))
        (case side2 => exact (Kd.R_reads' HO181.out).2.1)
        (case side3 => repeat (first | exact (Kd.R_reads' HO169.out).2.2 | (with_reducible refine Kd.C_alloc ?_ _) | (with_reducible refine Kd.C_drewN ?_ _) | (with_reducible refine Kd.C_drew ?_)))
        (case side4 => exact (Kd.R_reads' HO169.out).2.1)
        rintro e w' ⟨rfl, ⟨nd, rfl⟩⟩
        refine ⟨_, rfl, ?_⟩
        refine hK.out _ _ ⟨(blk_cell U0.out 0).trans rfl, (blk_cell U0.out 1).trans rfl, (blk_cell U8.out 0).trans rfl, (blk_cell U8.out 1).trans rfl, (blk_cell U9.out 0).trans rfl, (blk_cell U9.out 1).trans rfl⟩ (fun hHeld => ?_)
        clear hK K
        refine norm_ (a' := ?_) ?_ ?_
        rotate_left
        ·
         show Act.put _ (some 69) _ = _
         simp only [Act.put, List.setIfInBounds_toArray, List.set_cons_zero, List.set_cons_succ, i64_w, i32_w]
         rfl
        refine pure_ (i := 8) (N := some 70) (v := ?_) (a' := ?_) #[true, true, true, true, true, true, true, true, true, false, false, false, false, false, false, false, false, false, false, false, false, false, false, false, false, false, false, false, false, false, false, false] rfl rfl (any_of HT_.out (by kernel_rfl)) (fun _ _ _ h => h) (Or.inl ⟨by rfl, ?_⟩) ?_ ?_
        rotate_left
        ·
         intro w'
         go_simp
         with_reducible rfl
        rotate_left
        ·
         simp only [Act.put, List.setIfInBounds_toArray, List.set_cons_zero, List.set_cons_succ, i64_w, i32_w]
         rfl
        refine pure_ (i := 9) (N := some 71) (v := ?_) (a' := ?_) #[true, true, true, true, true, true, true, true, true, true, false, false, false, false, false, false, false, false, false, false, false, false, false, false, false, false, false, false, false, false, false, false] rfl rfl (any_of HT_.out (by kernel_rfl)) (fun _ _ _ h => h) (Or.inl ⟨by rfl, ?_⟩) ?_ ?_
        rotate_left
        ·
         intro w'
         go_simp
         with_reducible rfl
        rotate_left
        ·
         simp only [Act.put, List.setIfInBounds_toArray, List.set_cons_zero, List.set_cons_succ, i64_w, i32_w]
         rfl
        refine pure_ (i := 10) (N := some 72) (v := ?_) (a' := ?_) #[true, true, true, true, true, true, true, true, true, true, true, false, false, false, false, false, false, false, false, false, false, false, false, false, false, false, false, false, false, false, false, false] rfl rfl (any_of HT_.out (by kernel_rfl)) (fun _ _ _ h => h) (Or.inl ⟨by rfl, ?_⟩) ?_ ?_
        rotate_left
        ·
         intro w'
         go_simp
         with_reducible rfl
        rotate_left
        ·
         simp only [Act.put, List.setIfInBounds_toArray, List.set_cons_zero, List.set_cons_succ, i64_w, i32_w]
         rfl
        refine pure_ (i := 11) (N := some 73) (v := ?_) (a' := ?_) #[true, true, true, true, true, true, true, true, true, true, true, true, false, false, false, false, false, false, false, false, false, false, false, false, false, false, false, false, false, false, false, false] rfl rfl (any_of HT_.out (by kernel_rfl)) (fun _ _ _ h => h) (Or.inl ⟨by rfl, ?_⟩) ?_ ?_
        rotate_left
        ·
         intro w'
         go_simp
         with_reducible rfl
        rotate_left
        ·
         simp only [Act.put, List.setIfInBounds_toArray, List.set_cons_zero, List.set_cons_succ, i64_w, i32_w]
         rfl
        refine pure_ (i := 13) (N := some 75) (v := ?_) (a' := ?_) #[true, true, true, true, true, true, true, true, true, true, true, true, false, true, false, false, false, false, false, false, false, false, false, false, false, false, false, false, false, false, false, false] rfl rfl (any_of HT_.out (by kernel_rfl)) (fun _ _ _ h => h) (Or.inl ⟨by rfl, ?_⟩) ?_ ?_
        rotate_left
        ·
         intro w'
         go_simp
         with_reducible rfl
        rotate_left
        ·
         simp only [Act.put, List.setIfInBounds_toArray, List.set_cons_zero, List.set_cons_succ, i64_w, i32_w]
         rfl
        refine one_ (i := 12) (N := some 74) #[true, true, true, true, true, true, true, true, true, true, true, true, true, true, false, false, false, false, false, false, false, false, false, false, false, false, false, false, false, false, false, false] rfl rfl (one_of HT_.out (by kernel_rfl)) (by decide) (fun K hK => ?_)
        refine goes_ Tryd.func22 (by kernel_rfl) rfl #[.slice Ao118 y170.length co118, .slice Ao119 y173.length co119] (by rfl) rfl rfl (by (try simp only [List.map_toArray, List.map_cons, List.map_nil]); first | done | rfl | (simp only [List.length_drop, List.length_take]; rfl)) ?_
        with_reducible refine (dot_Union.calls _ _ y170 _ _ y173 t183 _ ?side1 ?side2 ?side3 ?side4 A110.out).mono ?_
        (case side1 => repeat (first | exact (Kd.R_reads' HO172.out).2.2 | (with_reducible refine Kd.C_alloc ?_ _) | (with_reducible refine Kd.C_drewN ?_ _) | (with_reducible refine Kd.C_drew ?_)))
        (case side2 => exact (Kd.R_reads' HO172.out).2.1)
        (case side3 => repeat (first | exact (Kd.R_reads' HO175.out).2.2 | (with_reducible refine Kd.C_alloc ?_ _) | (with_reducible refine Kd.C_drewN ?_ _) | (with_reducible refine Kd.C_drew ?_)))
        (case side4 => exact (Kd.R_reads' HO175.out).2.1)
        rintro e w126 ⟨v184, rfl, ho0, hb⟩
        refine ⟨_, rfl, ?_⟩
        have n0_ := Aside0.mk (Kd.R_elder' (by (with_reducible repeat (first | apply Kd.R_alloc | apply Kd.R_drewN | apply Kd.R_drew)); exact HO169.out) (Kd.R_base ho0) hb)
        have n1_ := Aside0.mk (Kd.R_elder' (by (with_reducible repeat (first | apply Kd.R_alloc | apply Kd.R_drewN | apply Kd.R_drew)); exact HO172.out) (Kd.R_base ho0) hb)
        have n2_ := Aside0.mk (Kd.R_elder' (by (with_reducible repeat (first | apply Kd.R_alloc | apply Kd.R_drewN | apply Kd.R_drew)); exact HO175.out) (Kd.R_base ho0) hb)
        have n3_ := Aside0.mk (Kd.R_elder' (by (with_reducible repeat (first | apply Kd.R_alloc | apply Kd.R_drewN | apply Kd.R_drew)); exact HO178.out) (Kd.R_base ho0) hb)
        have n4_ := Aside0.mk (Kd.R_elder' (by (with_reducible repeat (first | apply Kd.R_alloc | apply Kd.R_drewN | apply Kd.R_drew)); exact HO181.out) (Kd.R_base ho0) hb)
        have n5_ := Aside0.mk (Kd.R_lower (Kd.R_newB (Kd.R_newB (Kd.R_newB (Kd.R_newB (Kd.R_new' (Kd.R_new' (Kd.R_new' (Kd.R_new' (Kd.R_new' ho0 (Kd.R_lt (by (with_reducible repeat (first | apply Kd.R_alloc | apply Kd.R_drewN | apply Kd.R_drew)); exact HO169.out))) (Kd.R_lt (by (with_reducible repeat (first | apply Kd.R_alloc | apply Kd.R_drewN | apply Kd.R_drew)); exact HO172.out))) (Kd.R_lt (by (with_reducible repeat (first | apply Kd.R_alloc | apply Kd.R_drewN | apply Kd.R_drew)); exact HO175.out))) (Kd.R_lt (by (with_reducible repeat (first | apply Kd.R_alloc | apply Kd.R_drewN | apply Kd.R_drew)); exact HO178.out))) (Kd.R_lt (by (with_reducible repeat (first | apply Kd.R_alloc | apply Kd.R_drewN | apply Kd.R_drew)); exact HO181.out))) (g := gb148) (o := .cells #[.int .i64 t142, .int .i64 t143] 23 (0, 0)) (by (with_reducible repeat (first | apply blk_drewN | apply blk_drew | apply blk_alloc)); exact U8.out)) (g := gb149) (o := .cells #[.int .i64 t144, .int .i64 t145] 23 (0, 0)) (by (with_reducible repeat (first | apply blk_drewN | apply blk_drew | apply blk_alloc)); exact U9.out)) (g := gb150) (o := .cells #[.int .i64 t146, .int .i64 t147] 23 (0, 0)) (by (with_reducible repeat (first | apply blk_drewN | apply blk_drew | apply blk_alloc)); exact U0.out)) (g := gb151) (o := .cells #[.int .i64 0, .int .i64 0] 23 (0, 0)) (by (with_reducible repeat (first | apply blk_drewN | apply blk_drew | apply blk_alloc)); exact U1.out)) (below_size (by repeat (first | (with_reducible first | exact HB.out | apply below_alloc | apply pw_below_drewN | apply below_drew1 | refine below_set ?_ V8.out | refine below_set ?_ V9.out | refine below_set ?_ V0.out | refine below_set ?_ V1.out) | exact HB.out))))
        have n6_ := Aside0.mk (blk_below (g := gb148) (o := .cells #[.int .i64 t142, .int .i64 t143] 23 (0, 0)) (by (with_reducible repeat (first | apply blk_drewN | apply blk_drew | apply blk_alloc)); exact U8.out) hb)
        have n7_ := Aside0.mk (blk_below (g := gb149) (o := .cells #[.int .i64 t144, .int .i64 t145] 23 (0, 0)) (by (with_reducible repeat (first | apply blk_drewN | apply blk_drew | apply blk_alloc)); exact U9.out) hb)
        have n8_ := Aside0.mk (blk_below (g := gb150) (o := .cells #[.int .i64 t146, .int .i64 t147] 23 (0, 0)) (by (with_reducible repeat (first | apply blk_drewN | apply blk_drew | apply blk_alloc)); exact U0.out) hb)
        have n9_ := Aside0.mk (blk_below (g := gb151) (o := .cells #[.int .i64 0, .int .i64 0] 23 (0, 0)) (by (with_reducible repeat (first | apply blk_drewN | apply blk_drew | apply blk_alloc)); exact U1.out) hb)
        have n10_ := Aside0.mk (below_step (by repeat (first | (with_reducible first | exact HB.out | apply below_alloc | apply pw_below_drewN | apply below_drew1 | refine below_set ?_ V8.out | refine below_set ?_ V9.out | refine below_set ?_ V0.out | refine below_set ?_ V1.out) | exact HB.out)) hb)
        clear HO169
        clear HO172
        clear HO175
        clear HO178
        clear HO181
        clear U8
        clear U9
        clear U0
        clear U1
        clear HB
        have HO169 := n0_
        have HO172 := n1_
        have HO175 := n2_
        have HO178 := n3_
        have HO181 := n4_
        have HO185 := n5_
        have U8 := n6_
        have U9 := n7_
        have U0 := n8_
        have U1 := n9_
        have HB := n10_
        clear n0_ n1_ n2_ n3_ n4_ n5_ n6_ n7_ n8_ n9_ n10_
        (try clear hb)
        (try clear hb2)
        (try clear hk)
        (try clear hi)
        (try clear ho0)
        obtain ⟨Ao127, co127, eo127⟩ := Kd.R_slice HO185.out
        (first | subst eo127 | (injection eo127 with f1_ f2_ f3_; have f4_ := f1_.symm; have f5_ := f3_.symm; clear f1_ f2_ f3_; subst f4_; subst f5_))
        refine hK.out _ _ ⟨(blk_cell U0.out 0).trans rfl, (blk_cell U0.out 1).trans rfl, (blk_cell U8.out 0).trans rfl, (blk_cell U8.out 1).trans rfl, (blk_cell U9.out 0).trans rfl, (blk_cell U9.out 1).trans rfl⟩ (fun hHeld => ?_)
        clear hK K
        refine norm_ (a' := ?_) ?_ ?_
        rotate_left
        ·
         show Act.put _ (some 74) _ = _
         simp only [Act.put, List.setIfInBounds_toArray, List.set_cons_zero, List.set_cons_succ, i64_w, i32_w]
         rfl
        refine one_ (i := 14) (N := some 76) #[true, true, true, true, true, true, true, true, true, true, true, true, true, true, true, false, false, false, false, false, false, false, false, false, false, false, false, false, false, false, false, false] rfl rfl (one_of HT_.out (by kernel_rfl)) (by decide) (fun K hK => ?_)
        refine goes_ Tryd.func18 (by kernel_rfl) rfl #[.slice Ao127 t183.length co127, .slice Ao117 y167.length co117] (by rfl) rfl rfl (by (try simp only [List.map_toArray, List.map_cons, List.map_nil]); first | done | rfl | (simp only [List.length_drop, List.length_take]; rfl)) ?_
        with_reducible refine (redpencilref04_Same.calls kj3 _ _ t183 _ _ y167 true _ ?side1 ?side2 ?side3 ?side4 A111.out).mono ?_
        (case side1 => repeat (first | exact (Kd.R_reads' HO185.out).2.2 | (with_reducible refine Kd.C_alloc ?_ _) | (with_reducible refine Kd.C_drewN ?_ _) | (with_reducible refine Kd.C_drew ?_)))
        (case side2 => exact (Kd.R_reads' HO185.out).2.1)
        (case side3 => repeat (first | exact (Kd.R_reads' HO169.out).2.2 | (with_reducible refine Kd.C_alloc ?_ _) | (with_reducible refine Kd.C_drewN ?_ _) | (with_reducible refine Kd.C_drew ?_)))
        (case side4 => exact (Kd.R_reads' HO169.out).2.1)
        rintro e w' ⟨rfl, ⟨nd, rfl⟩⟩
        refine ⟨_, rfl, ?_⟩
        refine hK.out _ _ ⟨(blk_cell U0.out 0).trans rfl, (blk_cell U0.out 1).trans rfl, (blk_cell U8.out 0).trans rfl, (blk_cell U8.out 1).trans rfl, (blk_cell U9.out 0).trans rfl, (blk_cell U9.out 1).trans rfl⟩ (fun hHeld => ?_)
        clear hK K
        refine norm_ (a' := ?_) ?_ ?_
        rotate_left
        ·
         show Act.put _ (some 76) _ = _
         simp only [Act.put, List.setIfInBounds_toArray, List.set_cons_zero, List.set_cons_succ, i64_w, i32_w]
         rfl
        refine pure_ (i := 15) (N := some 77) (v := ?_) (a' := ?_) #[true, true, true, true, true, true, true, true, true, true, true, true, true, true, true, true, false, false, false, false, false, false, false, false, false, false, false, false, false, false, false, false] rfl rfl (any_of HT_.out (by kernel_rfl)) (fun _ _ _ h => h) (Or.inl ⟨by rfl, ?_⟩) ?_ ?_
        rotate_left
        ·
         intro w'
         go_simp
         with_reducible rfl
        rotate_left
        ·
         simp only [Act.put, List.setIfInBounds_toArray, List.set_cons_zero, List.set_cons_succ, i64_w, i32_w]
         rfl
        refine pure_ (i := 16) (N := some 78) (v := ?_) (a' := ?_) #[true, true, true, true, true, true, true, true, true, true, true, true, true, true, true, true, true, false, false, false, false, false, false, false, false, false, false, false, false, false, false, false] rfl rfl (any_of HT_.out (by kernel_rfl)) (fun _ _ _ h => h) (Or.inl ⟨by rfl, ?_⟩) ?_ ?_
        rotate_left
        ·
         intro w'
         go_simp
         with_reducible rfl
        rotate_left
        ·
         simp only [Act.put, List.setIfInBounds_toArray, List.set_cons_zero, List.set_cons_succ, i64_w, i32_w]
         rfl
        refine pure_ (i := 17) (N := some 79) (v := ?_) (a' := ?_) #[true, true, true, true, true, true, true, true, true, true, true, true, true, true, true, true, true, true, false, false, false, false, false, false, false, false, false, false, false, false, false, false] rfl rfl (any_of HT_.out (by kernel_rfl)) (fun _ _ _ h => h) (Or.inl ⟨by rfl, ?_⟩) ?_ ?_
        rotate_left
        ·
         intro w'
         go_simp
         with_reducible rfl
        rotate_left
        ·
         simp only [Act.put, List.setIfInBounds_toArray, List.set_cons_zero, List.set_cons_succ, i64_w, i32_w]
         rfl
        refine pure_ (i := 18) (N := some 80) (v := ?_) (a' := ?_) #[true, true, true, true, true, true, true, true, true, true, true, true, true, true, true, true, true, true, true, false, false, false, false, false, false, false, false, false, false, false, false, false] rfl rfl (any_of HT_.out (by kernel_rfl)) (fun _ _ _ h => h) (Or.inl ⟨by rfl, ?_⟩) ?_ ?_
        rotate_left
        ·
         intro w'
         go_simp
         with_reducible rfl
        rotate_left
        ·
         simp only [Act.put, List.setIfInBounds_toArray, List.set_cons_zero, List.set_cons_succ, i64_w, i32_w]
         rfl
        refine pure_ (i := 19) (N := some 81) (v := ?_) (a' := ?_) #[true, true, true, true, true, true, true, true, true, true, true, true, true, true, true, true, true, true, true, true, false, false, false, false, false, false, false, false, false, false, false, false] rfl rfl (any_of HT_.out (by kernel_rfl)) (fun _ _ _ h => h) (Or.inl ⟨by rfl, ?_⟩) ?_ ?_
        rotate_left
        ·
         intro w'
         go_simp
         with_reducible rfl
        rotate_left
        ·
         simp only [Act.put, List.setIfInBounds_toArray, List.set_cons_zero, List.set_cons_succ, i64_w, i32_w]
         rfl
        refine take_ (i := 21) (N := some 83) (v := ?_) (a' := ?_) #[true, true, true, true, true, true, true, true, true, true, true, true, true, true, true, true, true, true, true, true, false, true, false, false, false, false, false, false, false, false, false, false] rfl rfl (take_ofW HT_.out HW_.out (by kernel_rfl)) (fun _ _ _ h => h) (Or.inl ⟨by rfl, ?_⟩) hHeld ?_ ?_
        rotate_left
        ·
         rintro w' ⟨s0, s1, s2, s3, s4, s5⟩
         go_simp
         with_reducible rfl
        rotate_left
        ·
         simp only [Act.put, List.setIfInBounds_toArray, List.set_cons_zero, List.set_cons_succ, i64_w, i32_w]
         rfl
        refine join_ (σ := Value × Value) 9 #[true, true, true, true, true, true, true, true, true, true, true, true, true, true, true, true, true, true, true, true, true, true, true, false, false, false, false, false, false, false, false, false] (fun s_ => [(82, s_.1), (84, s_.2)]) (fun s_ w' => (w'.cell? ⟨gb150, 0, none⟩ = some (.int .i64 t146) ∧ w'.cell? ⟨gb150, 1, none⟩ = some (.int .i64 t147) ∧ w'.cell? ⟨gb148, 0, none⟩ = some (.int .i64 t142) ∧ w'.cell? ⟨gb148, 1, none⟩ = some (.int .i64 t143) ∧ w'.cell? ⟨gb149, 0, none⟩ = some (.int .i64 t144) ∧ w'.cell? ⟨gb149, 1, none⟩ = some (.int .i64 t145)) ∧ (Kd.R k23 23 w' w.heap.size (fun k_ => some k_ ≠ (.slice Ao123 y176.length co123 : Value).ownBlock ∧ some k_ ≠ (.slice Ao125 t179.length co125 : Value).ownBlock ∧ some k_ ≠ (.slice Ao127 t183.length co127 : Value).ownBlock ∧ some k_ ≠ (s_.1 : Value).ownBlock ∧ some k_ ≠ (s_.2 : Value).ownBlock ∧ k_ ≠ gb148 ∧ k_ ≠ gb149 ∧ k_ ≠ gb150 ∧ k_ ≠ gb151) (.slice Ao117 y167.length co117) y167) ∧ (Kd.R k23 23 w' w.heap.size (fun k_ => some k_ ≠ (.slice Ao123 y176.length co123 : Value).ownBlock ∧ some k_ ≠ (.slice Ao125 t179.length co125 : Value).ownBlock ∧ some k_ ≠ (.slice Ao127 t183.length co127 : Value).ownBlock ∧ some k_ ≠ (s_.1 : Value).ownBlock ∧ some k_ ≠ (s_.2 : Value).ownBlock ∧ k_ ≠ gb148 ∧ k_ ≠ gb149 ∧ k_ ≠ gb150 ∧ k_ ≠ gb151) (.slice Ao118 y170.length co118) y170) ∧ (Kd.R k23 23 w' w.heap.size (fun k_ => some k_ ≠ (.slice Ao123 y176.length co123 : Value).ownBlock ∧ some k_ ≠ (.slice Ao125 t179.length co125 : Value).ownBlock ∧ some k_ ≠ (.slice Ao127 t183.length co127 : Value).ownBlock ∧ some k_ ≠ (s_.1 : Value).ownBlock ∧ some k_ ≠ (s_.2 : Value).ownBlock ∧ k_ ≠ gb148 ∧ k_ ≠ gb149 ∧ k_ ≠ gb150 ∧ k_ ≠ gb151) (.slice Ao119 y173.length co119) y173) ∧ (Kd.R k23 23 w' w.heap.size (fun k_ => some k_ ≠ (.slice Ao117 y167.length co117 : Value).ownBlock ∧ some k_ ≠ (.slice Ao118 y170.length co118 : Value).ownBlock ∧ some k_ ≠ (.slice Ao119 y173.length co119 : Value).ownBlock ∧ some k_ ≠ (.slice Ao125 t179.length co125 : Value).ownBlock ∧ some k_ ≠ (.slice Ao127 t183.length co127 : Value).ownBlock ∧ some k_ ≠ (s_.1 : Value).ownBlock ∧ some k_ ≠ (s_.2 : Value).ownBlock ∧ k_ ≠ gb148 ∧ k_ ≠ gb149 ∧ k_ ≠ gb150 ∧ k_ ≠ gb151) (.slice Ao123 y176.length co123) y176) ∧ (Kd.R k23 23 w' w.heap.size (fun k_ => some k_ ≠ (.slice Ao117 y167.length co117 : Value).ownBlock ∧ some k_ ≠ (.slice Ao118 y170.length co118 : Value).ownBlock ∧ some k_ ≠ (.slice Ao119 y173.length co119 : Value).ownBlock ∧ some k_ ≠ (.slice Ao123 y176.length co123 : Value).ownBlock ∧ some k_ ≠ (.slice Ao127 t183.length co127 : Value).ownBlock ∧ some k_ ≠ (s_.1 : Value).ownBlock ∧ some k_ ≠ (s_.2 : Value).ownBlock ∧ k_ ≠ gb148 ∧ k_ ≠ gb149 ∧ k_ ≠ gb150 ∧ k_ ≠ gb151) (.slice Ao125 t179.length co125) t179) ∧ (Kd.R k23 23 w' w.heap.size (fun k_ => some k_ ≠ (.slice Ao117 y167.length co117 : Value).ownBlock ∧ some k_ ≠ (.slice Ao118 y170.length co118 : Value).ownBlock ∧ some k_ ≠ (.slice Ao119 y173.length co119 : Value).ownBlock ∧ some k_ ≠ (.slice Ao123 y176.length co123 : Value).ownBlock ∧ some k_ ≠ (.slice Ao125 t179.length co125 : Value).ownBlock ∧ some k_ ≠ (s_.1 : Value).ownBlock ∧ some k_ ≠ (s_.2 : Value).ownBlock ∧ k_ ≠ gb148 ∧ k_ ≠ gb149 ∧ k_ ≠ gb150 ∧ k_ ≠ gb151) (.slice Ao127 t183.length co127) t183) ∧ (Kd.R k23 23 w' w.heap.size (fun k_ => some k_ ≠ (.slice Ao117 y167.length co117 : Value).ownBlock ∧ some k_ ≠ (.slice Ao118 y170.length co118 : Value).ownBlock ∧ some k_ ≠ (.slice Ao119 y173.length co119 : Value).ownBlock ∧ some k_ ≠ (.slice Ao123 y176.length co123 : Value).ownBlock ∧ some k_ ≠ (.slice Ao125 t179.length co125 : Value).ownBlock ∧ some k_ ≠ (.slice Ao127 t183.length co127 : Value).ownBlock ∧ some k_ ≠ (s_.2 : Value).ownBlock ∧ k_ ≠ gb148 ∧ k_ ≠ gb149 ∧ k_ ≠ gb150 ∧ k_ ≠ gb151) s_.1 t187) ∧ (Kd.R k23 23 w' w.heap.size (fun k_ => some k_ ≠ (.slice Ao117 y167.length co117 : Value).ownBlock ∧ some k_ ≠ (.slice Ao118 y170.length co118 : Value).ownBlock ∧ some k_ ≠ (.slice Ao119 y173.length co119 : Value).ownBlock ∧ some k_ ≠ (.slice Ao123 y176.length co123 : Value).ownBlock ∧ some k_ ≠ (.slice Ao125 t179.length co125 : Value).ownBlock ∧ some k_ ≠ (.slice Ao127 t183.length co127 : Value).ownBlock ∧ some k_ ≠ (s_.1 : Value).ownBlock ∧ k_ ≠ gb148 ∧ k_ ≠ gb149 ∧ k_ ≠ gb150 ∧ k_ ≠ gb151) s_.2 y190) ∧ (w'.heap[gb148]? = some (.cells #[.int .i64 t142, .int .i64 t143] 23 (0, 0))) ∧ (w'.heap[gb149]? = some (.cells #[.int .i64 t144, .int .i64 t145] 23 (0, 0))) ∧ (w'.heap[gb150]? = some (.cells #[.int .i64 t146, .int .i64 t147] 23 (0, 0))) ∧ (w'.heap[gb151]? = some (.cells #[.int .i64 0, .int .i64 0] 23 (0, 0))) ∧ (Below w.heap.size w w')) ?_ ?_
        rotate_left
        ·
         intro hCont
         refine two_ (i := 20) (j := 22) (Ni := some 82) (Nj := some 84) #[true, true, true, true, true, true, true, true, true, true, true, true, true, true, true, true, true, true, true, true, true, true, false, false, false, false, false, false, false, false, false, false] #[true, true, true, true, true, true, true, true, true, true, true, true, true, true, true, true, true, true, true, true, false, true, true, false, false, false, false, false, false, false, false, false] rfl rfl rfl rfl (two_of HT_.out (by kernel_rfl)) (by decide) (by decide) (fun K hK => ?_) (fun K hK => ?_)
         ·
          skip
          refine goes_ Tryd.func24 (by kernel_rfl) rfl #[.slice Ao118 y170.length co118, .slice Ao119 y173.length co119] (by rfl) rfl rfl (by (try simp only [List.map_toArray, List.map_cons, List.map_nil]); first | done | rfl | (simp only [List.length_drop, List.length_take]; rfl)) ?_
          with_reducible refine (dot_Minus.calls _ _ y170 _ _ y173 t187 _ ?side1 ?side2 ?side3 ?side4 A113.out).mono ?_
          (case side1 => repeat (first | exact (Kd.R_reads' HO172.out).2.2 | (with_reducible refine Kd.C_alloc ?_ _) | (with_reducible refine Kd.C_drewN ?_ _) | (with_reducible refine Kd.C_drew ?_)))
          (case side2 => exact (Kd.R_reads' HO172.out).2.1)
          (case side3 => repeat (first | exact (Kd.R_reads' HO175.out).2.2 | (with_reducible refine Kd.C_alloc ?_ _) | (with_reducible refine Kd.C_drewN ?_ _) | (with_reducible refine Kd.C_drew ?_)))
          (case side4 => exact (Kd.R_reads' HO175.out).2.1)
          rintro e w128 ⟨v188, rfl, ho0, hb⟩
          refine ⟨_, rfl, ?_⟩
          have n0_ := Aside0.mk (Kd.R_elder' (by (with_reducible repeat (first | apply Kd.R_alloc | apply Kd.R_drewN | apply Kd.R_drew)); exact HO169.out) (Kd.R_base ho0) hb)
          have n1_ := Aside0.mk (Kd.R_elder' (by (with_reducible repeat (first | apply Kd.R_alloc | apply Kd.R_drewN | apply Kd.R_drew)); exact HO172.out) (Kd.R_base ho0) hb)
          have n2_ := Aside0.mk (Kd.R_elder' (by (with_reducible repeat (first | apply Kd.R_alloc | apply Kd.R_drewN | apply Kd.R_drew)); exact HO175.out) (Kd.R_base ho0) hb)
          have n3_ := Aside0.mk (Kd.R_elder' (by (with_reducible repeat (first | apply Kd.R_alloc | apply Kd.R_drewN | apply Kd.R_drew)); exact HO178.out) (Kd.R_base ho0) hb)
          have n4_ := Aside0.mk (Kd.R_elder' (by (with_reducible repeat (first | apply Kd.R_alloc | apply Kd.R_drewN | apply Kd.R_drew)); exact HO181.out) (Kd.R_base ho0) hb)
          have n5_ := Aside0.mk (Kd.R_elder' (by (with_reducible repeat (first | apply Kd.R_alloc | apply Kd.R_drewN | apply Kd.R_drew)); exact HO185.out) (Kd.R_base ho0) hb)
          have n6_ := Aside0.mk (Kd.R_lower (Kd.R_newB (Kd.R_newB (Kd.R_newB (Kd.R_newB (Kd.R_new' (Kd.R_new' (Kd.R_new' (Kd.R_new' (Kd.R_new' (Kd.R_new' ho0 (Kd.R_lt (by (with_reducible repeat (first | apply Kd.R_alloc | apply Kd.R_drewN | apply Kd.R_drew)); exact HO169.out))) (Kd.R_lt (by (with_reducible repeat (first | apply Kd.R_alloc | apply Kd.R_drewN | apply Kd.R_drew)); exact HO172.out))) (Kd.R_lt (by (with_reducible repeat (first | apply Kd.R_alloc | apply Kd.R_drewN | apply Kd.R_drew)); exact HO175.out))) (Kd.R_lt (by (with_reducible repeat (first | apply Kd.R_alloc | apply Kd.R_drewN | apply Kd.R_drew)); exact HO178.out))) (Kd.R_lt (by (with_reducible repeat (first | apply Kd.R_alloc | apply Kd.R_drewN | apply Kd.R_drew)); exact HO181.out))) (Kd.R_lt (by (with_reducible repeat (first | apply Kd.R_alloc | apply Kd.R_drewN | apply Kd.R_drew)); exact HO185.out))) (g := gb148) (o := .cells #[.int .i64 t142, .int .i64 t143] 23 (0, 0)) (by (with_reducible repeat (first | apply blk_drewN | apply blk_drew | apply blk_alloc)); exact U8.out)) (g := gb149) (o := .cells #[.int .i64 t144, .int .i64 t145] 23 (0, 0)) (by (with_reducible repeat (first | apply blk_drewN | apply blk_drew | apply blk_alloc)); exact U9.out)) (g := gb150) (o := .cells #[.int .i64 t146, .int .i64 t147] 23 (0, 0)) (by (with_reducible repeat (first | apply blk_drewN | apply blk_drew | apply blk_alloc)); exact U0.out)) (g := gb151) (o := .cells #[.int .i64 0, .int .i64 0] 23 (0, 0)) (by (with_reducible repeat (first | apply blk_drewN | apply blk_drew | apply blk_alloc)); exact U1.out)) (below_size (by repeat (first | (with_reducible first | exact HB.out | apply below_alloc | apply pw_below_drewN | apply below_drew1 | refine below_set ?_ V8.out | refine below_set ?_ V9.out | refine below_set ?_ V0.out | refine below_set ?_ V1.out) | exact HB.out))))
          have n7_ := Aside0.mk (blk_below (g := gb148) (o := .cells #[.int .i64 t142, .int .i64 t143] 23 (0, 0)) (by (with_reducible repeat (first | apply blk_drewN | apply blk_drew | apply blk_alloc)); exact U8.out) hb)
          have n8_ := Aside0.mk (blk_below (g := gb149) (o := .cells #[.int .i64 t144, .int .i64 t145] 23 (0, 0)) (by (with_reducible repeat (first | apply blk_drewN | apply blk_drew | apply blk_alloc)); exact U9.out) hb)
          have n9_ := Aside0.mk (blk_below (g := gb150) (o := .cells #[.int .i64 t146, .int .i64 t147] 23 (0, 0)) (by (with_reducible repeat (first | apply blk_drewN | apply blk_drew | apply blk_alloc)); exact U0.out) hb)
          have n10_ := Aside0.mk (blk_below (g := gb151) (o := .cells #[.int .i64 0, .int .i64 0] 23 (0, 0)) (by (with_reducible repeat (first | apply blk_drewN | apply blk_drew | apply blk_alloc)); exact U1.out) hb)
          have n11_ := Aside0.mk (below_step (by repeat (first | (with_reducible first | exact HB.out | apply below_alloc | apply pw_below_drewN | apply below_drew1 | refine below_set ?_ V8.out | refine below_set ?_ V9.out | refine below_set ?_ V0.out | refine below_set ?_ V1.out) | exact HB.out)) hb)
          clear HO169
          clear HO172
          clear HO175
          clear HO178
          clear HO181
          clear HO185
          clear U8
          clear U9
          clear U0
          clear U1
          clear HB
          have HO169 := n0_
          have HO172 := n1_
          have HO175 := n2_
          have HO178 := n3_
          have HO181 := n4_
          have HO185 := n5_
          have HO189 := n6_
          have U8 := n7_
          have U9 := n8_
          have U0 := n9_
          have U1 := n10_
          have HB := n11_
          clear n0_ n1_ n2_ n3_ n4_ n5_ n6_ n7_ n8_ n9_ n10_ n11_
          (try clear hb)
          (try clear hb2)
          (try clear hk)
          (try clear hi)
          (try clear ho0)
          refine hK.out _ _ ⟨(blk_cell U0.out 0).trans rfl, (blk_cell U0.out 1).trans rfl, (blk_cell U8.out 0).trans rfl, (blk_cell U8.out 1).trans rfl, (blk_cell U9.out 0).trans rfl, (blk_cell U9.out 1).trans rfl⟩ (fun hHeld => ?_)
          clear hK K
          refine norm_ (a' := ?_) ?_ ?_
          rotate_left
          ·
           show Act.put _ (some 82) _ = _
           simp only [Act.put, List.setIfInBounds_toArray, List.set_cons_zero, List.set_cons_succ, i64_w, i32_w]
           rfl
          refine one_ (i := 22) (N := some 84) #[true, true, true, true, true, true, true, true, true, true, true, true, true, true, true, true, true, true, true, true, true, true, true, false, false, false, false, false, false, false, false, false] rfl rfl (one_of HT_.out (by kernel_rfl)) (by decide) (fun K hK => ?_)
          refine Kd.R_lit_step k23 _ 23 ?hg (N := 84) ?hd (xs := ([(⟨t146, t147⟩ : S23)] : List (S23))) (inner := [.int .i64 t146, .int .i64 t147]) (ok := fun _ => True) (okp := fun _ => True) ?hr ?hp (fun _ hk => hk) trivial (Below.refl _ _) (Nat.le_refl _) (by simp) ?_; (case hd => rfl); (case hg => rfl); (case hr => first | (go_simp; done) | (go_simp; rfl)); (case hp => exact (Reps.c2 (show Kd.M k23 _ _ _ (⟨t146, t147⟩ : S23) [.int .i64 t146, .int .i64 t147] from (k23_mkM _ _ _ (⟨t146, t147⟩ : S23) )) (Reps.none _ _)))
          intro v191 w129 ho130 hb hg_ hnew_
          clear hg_ hnew_
          (first | rw [← Ny190.out] at ho130 | (simp only [Int.reduceToNat] at ho130; rw [← Ny190.out] at ho130))
          have n0_ := Aside0.mk (Kd.R_elder' (by (with_reducible repeat (first | apply Kd.R_alloc | apply Kd.R_drewN | apply Kd.R_drew)); exact HO169.out) (Kd.R_base ho130) hb)
          have n1_ := Aside0.mk (Kd.R_elder' (by (with_reducible repeat (first | apply Kd.R_alloc | apply Kd.R_drewN | apply Kd.R_drew)); exact HO172.out) (Kd.R_base ho130) hb)
          have n2_ := Aside0.mk (Kd.R_elder' (by (with_reducible repeat (first | apply Kd.R_alloc | apply Kd.R_drewN | apply Kd.R_drew)); exact HO175.out) (Kd.R_base ho130) hb)
          have n3_ := Aside0.mk (Kd.R_elder' (by (with_reducible repeat (first | apply Kd.R_alloc | apply Kd.R_drewN | apply Kd.R_drew)); exact HO178.out) (Kd.R_base ho130) hb)
          have n4_ := Aside0.mk (Kd.R_elder' (by (with_reducible repeat (first | apply Kd.R_alloc | apply Kd.R_drewN | apply Kd.R_drew)); exact HO181.out) (Kd.R_base ho130) hb)
          have n5_ := Aside0.mk (Kd.R_elder' (by (with_reducible repeat (first | apply Kd.R_alloc | apply Kd.R_drewN | apply Kd.R_drew)); exact HO185.out) (Kd.R_base ho130) hb)
          have n6_ := Aside0.mk (Kd.R_elder' (by (with_reducible repeat (first | apply Kd.R_alloc | apply Kd.R_drewN | apply Kd.R_drew)); exact HO189.out) (Kd.R_base ho130) hb)
          have n7_ := Aside0.mk (Kd.R_lower (Kd.R_newB (Kd.R_newB (Kd.R_newB (Kd.R_newB (Kd.R_new' (Kd.R_new' (Kd.R_new' (Kd.R_new' (Kd.R_new' (Kd.R_new' (Kd.R_new' ho130 (Kd.R_lt (by (with_reducible repeat (first | apply Kd.R_alloc | apply Kd.R_drewN | apply Kd.R_drew)); exact HO169.out))) (Kd.R_lt (by (with_reducible repeat (first | apply Kd.R_alloc | apply Kd.R_drewN | apply Kd.R_drew)); exact HO172.out))) (Kd.R_lt (by (with_reducible repeat (first | apply Kd.R_alloc | apply Kd.R_drewN | apply Kd.R_drew)); exact HO175.out))) (Kd.R_lt (by (with_reducible repeat (first | apply Kd.R_alloc | apply Kd.R_drewN | apply Kd.R_drew)); exact HO178.out))) (Kd.R_lt (by (with_reducible repeat (first | apply Kd.R_alloc | apply Kd.R_drewN | apply Kd.R_drew)); exact HO181.out))) (Kd.R_lt (by (with_reducible repeat (first | apply Kd.R_alloc | apply Kd.R_drewN | apply Kd.R_drew)); exact HO185.out))) (Kd.R_lt (by (with_reducible repeat (first | apply Kd.R_alloc | apply Kd.R_drewN | apply Kd.R_drew)); exact HO189.out))) (g := gb148) (o := .cells #[.int .i64 t142, .int .i64 t143] 23 (0, 0)) (by (with_reducible repeat (first | apply blk_drewN | apply blk_drew | apply blk_alloc)); exact U8.out)) (g := gb149) (o := .cells #[.int .i64 t144, .int .i64 t145] 23 (0, 0)) (by (with_reducible repeat (first | apply blk_drewN | apply blk_drew | apply blk_alloc)); exact U9.out)) (g := gb150) (o := .cells #[.int .i64 t146, .int .i64 t147] 23 (0, 0)) (by (with_reducible repeat (first | apply blk_drewN | apply blk_drew | apply blk_alloc)); exact U0.out)) (g := gb151) (o := .cells #[.int .i64 0, .int .i64 0] 23 (0, 0)) (by (with_reducible repeat (first | apply blk_drewN | apply blk_drew | apply blk_alloc)); exact U1.out)) (below_size (by repeat (first | (with_reducible first | exact HB.out | apply below_alloc | apply pw_below_drewN | apply below_drew1 | refine below_set ?_ V8.out | refine below_set ?_ V9.out | refine below_set ?_ V0.out | refine below_set ?_ V1.out) | exact HB.out))))
          have n8_ := Aside0.mk (blk_below (g := gb148) (o := .cells #[.int .i64 t142, .int .i64 t143] 23 (0, 0)) (by (with_reducible repeat (first | apply blk_drewN | apply blk_drew | apply blk_alloc)); exact U8.out) hb)
          have n9_ := Aside0.mk (blk_below (g := gb149) (o := .cells #[.int .i64 t144, .int .i64 t145] 23 (0, 0)) (by (with_reducible repeat (first | apply blk_drewN | apply blk_drew | apply blk_alloc)); exact U9.out) hb)
          have n10_ := Aside0.mk (blk_below (g := gb150) (o := .cells #[.int .i64 t146, .int .i64 t147] 23 (0, 0)) (by (with_reducible repeat (first | apply blk_drewN | apply blk_drew | apply blk_alloc)); exact U0.out) hb)
          have n11_ := Aside0.mk (blk_below (g := gb151) (o := .cells #[.int .i64 0, .int .i64 0] 23 (0, 0)) (by (with_reducible repeat (first | apply blk_drewN | apply blk_drew | apply blk_alloc)); exact U1.out) hb)
          have n12_ := Aside0.mk (below_step (by repeat (first | (with_reducible first | exact HB.out | apply below_alloc | apply pw_below_drewN | apply below_drew1 | refine below_set ?_ V8.out | refine below_set ?_ V9.out | refine below_set ?_ V0.out | refine below_set ?_ V1.out) | exact HB.out)) hb)
          clear HO169
          clear HO172
          clear HO175
          clear HO178
          clear HO181
          clear HO185
          clear HO189
          clear U8
          clear U9
          clear U0
          clear U1
          clear HB
          have HO169 := n0_
          have HO172 := n1_
          have HO175 := n2_
          have HO178 := n3_
          have HO181 := n4_
          have HO185 := n5_
          have HO189 := n6_
          have HO192 := n7_
          have U8 := n8_
          have U9 := n9_
          have U0 := n10_
          have U1 := n11_
          have HB := n12_
          clear n0_ n1_ n2_ n3_ n4_ n5_ n6_ n7_ n8_ n9_ n10_ n11_ n12_
          clear hb ho130
          refine hK.out _ _ ⟨(blk_cell U0.out 0).trans rfl, (blk_cell U0.out 1).trans rfl, (blk_cell U8.out 0).trans rfl, (blk_cell U8.out 1).trans rfl, (blk_cell U9.out 0).trans rfl, (blk_cell U9.out 1).trans rfl⟩ (fun hHeld => ?_)
          clear hK K
          refine norm_ (a' := ?_) ?_ ?_
          rotate_left
          ·
           show Act.put _ (some 84) _ = _
           simp only [Act.put, List.setIfInBounds_toArray, List.set_cons_zero, List.set_cons_succ, i64_w, i32_w]
           rfl
          exact norm_ (by simp only [putAll, Act.put, List.setIfInBounds_toArray, List.set_cons_zero, List.set_cons_succ]) (hCont (v188, v191) _ ⟨hHeld, (by (with_reducible repeat (first | apply Kd.R_alloc | apply Kd.R_drewN | apply Kd.R_drew)); exact Kd.R_mono HO169.out (fun _ hk => ⟨hk.1.1.1.1.2, ⟨hk.1.1.1.2, ⟨hk.1.1.2, ⟨hk.1.2, ⟨hk.2, ⟨hk.1.1.1.1.1.1, ⟨hk.1.1.1.1.1.2.1, ⟨hk.1.1.1.1.1.2.2.1, hk.1.1.1.1.1.2.2.2⟩⟩⟩⟩⟩⟩⟩⟩)), (by (with_reducible repeat (first | apply Kd.R_alloc | apply Kd.R_drewN | apply Kd.R_drew)); exact Kd.R_mono HO172.out (fun _ hk => ⟨hk.1.1.1.1.2, ⟨hk.1.1.1.2, ⟨hk.1.1.2, ⟨hk.1.2, ⟨hk.2, ⟨hk.1.1.1.1.1.1, ⟨hk.1.1.1.1.1.2.1, ⟨hk.1.1.1.1.1.2.2.1, hk.1.1.1.1.1.2.2.2⟩⟩⟩⟩⟩⟩⟩⟩)), (by (with_reducible repeat (first | apply Kd.R_alloc | apply Kd.R_drewN | apply Kd.R_drew)); exact Kd.R_mono HO175.out (fun _ hk => ⟨hk.1.1.1.1.2, ⟨hk.1.1.1.2, ⟨hk.1.1.2, ⟨hk.1.2, ⟨hk.2, ⟨hk.1.1.1.1.1.1, ⟨hk.1.1.1.1.1.2.1, ⟨hk.1.1.1.1.1.2.2.1, hk.1.1.1.1.1.2.2.2⟩⟩⟩⟩⟩⟩⟩⟩)), (by (with_reducible repeat (first | apply Kd.R_alloc | apply Kd.R_drewN | apply Kd.R_drew)); exact Kd.R_mono HO178.out (fun _ hk => ⟨hk.1.1.1.1.1.1.1.1.1.1.2, ⟨hk.1.1.1.1.1.1.1.1.1.2, ⟨hk.1.1.1.1.1.1.1.1.2, ⟨hk.1.1.1.2, ⟨hk.1.1.2, ⟨hk.1.2, ⟨hk.2, ⟨hk.1.1.1.1.1.1.1.2, ⟨hk.1.1.1.1.1.1.2, ⟨hk.1.1.1.1.1.2, hk.1.1.1.1.2⟩⟩⟩⟩⟩⟩⟩⟩⟩⟩)), (by (with_reducible repeat (first | apply Kd.R_alloc | apply Kd.R_drewN | apply Kd.R_drew)); exact Kd.R_mono HO181.out (fun _ hk => ⟨hk.1.1.1.1.1.1.1.1.1.1.2, ⟨hk.1.1.1.1.1.1.1.1.1.2, ⟨hk.1.1.1.1.1.1.1.1.2, ⟨hk.1.1.1.1.1.1.1.2, ⟨hk.1.1.2, ⟨hk.1.2, ⟨hk.2, ⟨hk.1.1.1.1.1.1.2, ⟨hk.1.1.1.1.1.2, ⟨hk.1.1.1.1.2, hk.1.1.1.2⟩⟩⟩⟩⟩⟩⟩⟩⟩⟩)), (by (with_reducible repeat (first | apply Kd.R_alloc | apply Kd.R_drewN | apply Kd.R_drew)); exact Kd.R_mono HO185.out (fun _ hk => ⟨hk.1.1.1.1.1.1.1.1.1.1.2, ⟨hk.1.1.1.1.1.1.1.1.1.2, ⟨hk.1.1.1.1.1.1.1.1.2, ⟨hk.1.1.1.1.1.1.1.2, ⟨hk.1.1.1.1.1.1.2, ⟨hk.1.2, ⟨hk.2, ⟨hk.1.1.1.1.1.2, ⟨hk.1.1.1.1.2, ⟨hk.1.1.1.2, hk.1.1.2⟩⟩⟩⟩⟩⟩⟩⟩⟩⟩)), (by (with_reducible repeat (first | apply Kd.R_alloc | apply Kd.R_drewN | apply Kd.R_drew)); exact Kd.R_mono HO189.out (fun _ hk => ⟨hk.1.1.1.1.1.1.1.1.1.1.2, ⟨hk.1.1.1.1.1.1.1.1.1.2, ⟨hk.1.1.1.1.1.1.1.1.2, ⟨hk.1.1.1.1.1.1.1.2, ⟨hk.1.1.1.1.1.1.2, ⟨hk.1.1.1.1.1.2, ⟨hk.2, ⟨hk.1.1.1.1.2, ⟨hk.1.1.1.2, ⟨hk.1.1.2, hk.1.2⟩⟩⟩⟩⟩⟩⟩⟩⟩⟩)), (by (with_reducible repeat (first | apply Kd.R_alloc | apply Kd.R_drewN | apply Kd.R_drew)); exact Kd.R_mono HO192.out (fun _ hk => ⟨hk.1.1.1.1.1.1.1.1.1.1.2, ⟨hk.1.1.1.1.1.1.1.1.1.2, ⟨hk.1.1.1.1.1.1.1.1.2, ⟨hk.1.1.1.1.1.1.1.2, ⟨hk.1.1.1.1.1.1.2, ⟨hk.1.1.1.1.1.2, ⟨hk.1.1.1.1.2, ⟨hk.1.1.1.2, ⟨hk.1.1.2, ⟨hk.1.2, hk.2⟩⟩⟩⟩⟩⟩⟩⟩⟩⟩)), (by (with_reducible repeat (first | apply blk_drewN | apply blk_drew | apply blk_alloc)); exact U8.out), (by (with_reducible repeat (first | apply blk_drewN | apply blk_drew | apply blk_alloc)); exact U9.out), (by (with_reducible repeat (first | apply blk_drewN | apply blk_drew | apply blk_alloc)); exact U0.out), (by (with_reducible repeat (first | apply blk_drewN | apply blk_drew | apply blk_alloc)); exact U1.out), (by repeat (first | (with_reducible first | exact HB.out | apply below_alloc | apply pw_below_drewN | apply below_drew1 | refine below_set ?_ V8.out | refine below_set ?_ V9.out | refine below_set ?_ V0.out | refine below_set ?_ V1.out) | exact HB.out))⟩)
         ·
          skip
          refine Kd.R_lit_step k23 _ 23 ?hg (N := 84) ?hd (xs := ([(⟨t146, t147⟩ : S23)] : List (S23))) (inner := [.int .i64 t146, .int .i64 t147]) (ok := fun _ => True) (okp := fun _ => True) ?hr ?hp (fun _ hk => hk) trivial (Below.refl _ _) (Nat.le_refl _) (by simp) ?_; (case hd => rfl); (case hg => rfl); (case hr => first | (go_simp; done) | (go_simp; rfl)); (case hp => exact (Reps.c2 (show Kd.M k23 _ _ _ (⟨t146, t147⟩ : S23) [.int .i64 t146, .int .i64 t147] from (k23_mkM _ _ _ (⟨t146, t147⟩ : S23) )) (Reps.none _ _)))
          intro v191 w128 ho129 hb hg_ hnew_
          clear hg_ hnew_
          (first | rw [← Ny190.out] at ho129 | (simp only [Int.reduceToNat] at ho129; rw [← Ny190.out] at ho129))
          have n0_ := Aside0.mk (Kd.R_elder' (by (with_reducible repeat (first | apply Kd.R_alloc | apply Kd.R_drewN | apply Kd.R_drew)); exact HO169.out) (Kd.R_base ho129) hb)
          have n1_ := Aside0.mk (Kd.R_elder' (by (with_reducible repeat (first | apply Kd.R_alloc | apply Kd.R_drewN | apply Kd.R_drew)); exact HO172.out) (Kd.R_base ho129) hb)
          have n2_ := Aside0.mk (Kd.R_elder' (by (with_reducible repeat (first | apply Kd.R_alloc | apply Kd.R_drewN | apply Kd.R_drew)); exact HO175.out) (Kd.R_base ho129) hb)
          have n3_ := Aside0.mk (Kd.R_elder' (by (with_reducible repeat (first | apply Kd.R_alloc | apply Kd.R_drewN | apply Kd.R_drew)); exact HO178.out) (Kd.R_base ho129) hb)
          have n4_ := Aside0.mk (Kd.R_elder' (by (with_reducible repeat (first | apply Kd.R_alloc | apply Kd.R_drewN | apply Kd.R_drew)); exact HO181.out) (Kd.R_base ho129) hb)
          have n5_ := Aside0.mk (Kd.R_elder' (by (with_reducible repeat (first | apply Kd.R_alloc | apply Kd.R_drewN | apply Kd.R_drew)); exact HO185.out) (Kd.R_base ho129) hb)
          have n6_ := Aside0.mk (Kd.R_lower (Kd.R_newB (Kd.R_newB (Kd.R_newB (Kd.R_newB (Kd.R_new' (Kd.R_new' (Kd.R_new' (Kd.R_new' (Kd.R_new' (Kd.R_new' ho129 (Kd.R_lt (by (with_reducible repeat (first | apply Kd.R_alloc | apply Kd.R_drewN | apply Kd.R_drew)); exact HO169.out))) (Kd.R_lt (by (with_reducible repeat (first | apply Kd.R_alloc | apply Kd.R_drewN | apply Kd.R_drew)); exact HO172.out))) (Kd.R_lt (by (with_reducible repeat (first | apply Kd.R_alloc | apply Kd.R_drewN | apply Kd.R_drew)); exact HO175.out))) (Kd.R_lt (by (with_reducible repeat (first | apply Kd.R_alloc | apply Kd.R_drewN | apply Kd.R_drew)); exact HO178.out))) (Kd.R_lt (by (with_reducible repeat (first | apply Kd.R_alloc | apply Kd.R_drewN | apply Kd.R_drew)); exact HO181.out))) (Kd.R_lt (by (with_reducible repeat (first | apply Kd.R_alloc | apply Kd.R_drewN | apply Kd.R_drew)); exact HO185.out))) (g := gb148) (o := .cells #[.int .i64 t142, .int .i64 t143] 23 (0, 0)) (by (with_reducible repeat (first | apply blk_drewN | apply blk_drew | apply blk_alloc)); exact U8.out)) (g := gb149) (o := .cells #[.int .i64 t144, .int .i64 t145] 23 (0, 0)) (by (with_reducible repeat (first | apply blk_drewN | apply blk_drew | apply blk_alloc)); exact U9.out)) (g := gb150) (o := .cells #[.int .i64 t146, .int .i64 t147] 23 (0, 0)) (by (with_reducible repeat (first | apply blk_drewN | apply blk_drew | apply blk_alloc)); exact U0.out)) (g := gb151) (o := .cells #[.int .i64 0, .int .i64 0] 23 (0, 0)) (by (with_reducible repeat (first | apply blk_drewN | apply blk_drew | apply blk_alloc)); exact U1.out)) (below_size (by repeat (first | (with_reducible first | exact HB.out | apply below_alloc | apply pw_below_drewN | apply below_drew1 | refine below_set ?_ V8.out | refine below_set ?_ V9.out | refine below_set ?_ V0.out | refine below_set ?_ V1.out) | exact HB.out))))
          have n7_ := Aside0.mk (blk_below (g := gb148) (o := .cells #[.int .i64 t142, .int .i64 t143] 23 (0, 0)) (by (with_reducible repeat (first | apply blk_drewN | apply blk_drew | apply blk_alloc)); exact U8.out) hb)
          have n8_ := Aside0.mk (blk_below (g := gb149) (o := .cells #[.int .i64 t144, .int .i64 t145] 23 (0, 0)) (by (with_reducible repeat (first | apply blk_drewN | apply blk_drew | apply blk_alloc)); exact U9.out) hb)
          have n9_ := Aside0.mk (blk_below (g := gb150) (o := .cells #[.int .i64 t146, .int .i64 t147] 23 (0, 0)) (by (with_reducible repeat (first | apply blk_drewN | apply blk_drew | apply blk_alloc)); exact U0.out) hb)
          have n10_ := Aside0.mk (blk_below (g := gb151) (o := .cells #[.int .i64 0, .int .i64 0] 23 (0, 0)) (by (with_reducible repeat (first | apply blk_drewN | apply blk_drew | apply blk_alloc)); exact U1.out) hb)
          have n11_ := Aside0.mk (below_step (by repeat (first | (with_reducible first | exact HB.out | apply below_alloc | apply pw_below_drewN | apply below_drew1 | refine below_set ?_ V8.out | refine below_set ?_ V9.out | refine below_set ?_ V0.out | refine below_set ?_ V1.out) | exact HB.out)) hb)
          clear HO169
          clear HO172
          clear HO175
          clear HO178
          clear HO181
          clear HO185
          clear U8
          clear U9
          clear U0
          clear U1
          clear HB
          have HO169 := n0_
          have HO172 := n1_
          have HO175 := n2_
          have HO178 := n3_
          have HO181 := n4_
          have HO185 := n5_
          have HO192 := n6_
          have U8 := n7_
          have U9 := n8_
          have U0 := n9_
          have U1 := n10_
          have HB := n11_
          clear n0_ n1_ n2_ n3_ n4_ n5_ n6_ n7_ n8_ n9_ n10_ n11_
          clear hb ho129
          refine hK.out _ _ ⟨(blk_cell U0.out 0).trans rfl, (blk_cell U0.out 1).trans rfl, (blk_cell U8.out 0).trans rfl, (blk_cell U8.out 1).trans rfl, (blk_cell U9.out 0).trans rfl, (blk_cell U9.out 1).trans rfl⟩ (fun hHeld => ?_)
          clear hK K
          refine norm_ (a' := ?_) ?_ ?_
          rotate_left
          ·
           show Act.put _ (some 84) _ = _
           simp only [Act.put, List.setIfInBounds_toArray, List.set_cons_zero, List.set_cons_succ, i64_w, i32_w]
           rfl
          refine one_ (i := 20) (N := some 82) #[true, true, true, true, true, true, true, true, true, true, true, true, true, true, true, true, true, true, true, true, true, true, true, false, false, false, false, false, false, false, false, false] rfl rfl (one_of HT_.out (by kernel_rfl)) (by decide) (fun K hK => ?_)
          refine goes_ Tryd.func24 (by kernel_rfl) rfl #[.slice Ao118 y170.length co118, .slice Ao119 y173.length co119] (by rfl) rfl rfl (by (try simp only [List.map_toArray, List.map_cons, List.map_nil]); first | done | rfl | (simp only [List.length_drop, List.length_take]; rfl)) ?_
          with_reducible refine (dot_Minus.calls _ _ y170 _ _ y173 t187 _ ?side1 ?side2 ?side3 ?side4 A113.out).mono ?_
          (case side1 => repeat (first | exact (Kd.R_reads' HO172.out).2.2 | (with_reducible refine Kd.C_alloc ?_ _) | (with_reducible refine Kd.C_drewN ?_ _) | (with_reducible refine Kd.C_drew ?_)))
          (case side2 => exact (Kd.R_reads' HO172.out).2.1)
          (case side3 => repeat (first | exact (Kd.R_reads' HO175.out).2.2 | (with_reducible refine Kd.C_alloc ?_ _) | (with_reducible refine Kd.C_drewN ?_ _) | (with_reducible refine Kd.C_drew ?_)))
          (case side4 => exact (Kd.R_reads' HO175.out).2.1)
          rintro e w130 ⟨v188, rfl, ho0, hb⟩
          refine ⟨_, rfl, ?_⟩
          have n0_ := Aside0.mk (Kd.R_elder' (by (with_reducible repeat (first | apply Kd.R_alloc | apply Kd.R_drewN | apply Kd.R_drew)); exact HO169.out) (Kd.R_base ho0) hb)
          have n1_ := Aside0.mk (Kd.R_elder' (by (with_reducible repeat (first | apply Kd.R_alloc | apply Kd.R_drewN | apply Kd.R_drew)); exact HO172.out) (Kd.R_base ho0) hb)
          have n2_ := Aside0.mk (Kd.R_elder' (by (with_reducible repeat (first | apply Kd.R_alloc | apply Kd.R_drewN | apply Kd.R_drew)); exact HO175.out) (Kd.R_base ho0) hb)
          have n3_ := Aside0.mk (Kd.R_elder' (by (with_reducible repeat (first | apply Kd.R_alloc | apply Kd.R_drewN | apply Kd.R_drew)); exact HO178.out) (Kd.R_base ho0) hb)
          have n4_ := Aside0.mk (Kd.R_elder' (by (with_reducible repeat (first | apply Kd.R_alloc | apply Kd.R_drewN | apply Kd.R_drew)); exact HO181.out) (Kd.R_base ho0) hb)
          have n5_ := Aside0.mk (Kd.R_elder' (by (with_reducible repeat (first | apply Kd.R_alloc | apply Kd.R_drewN | apply Kd.R_drew)); exact HO185.out) (Kd.R_base ho0) hb)
          have n6_ := Aside0.mk (Kd.R_elder' (by (with_reducible repeat (first | apply Kd.R_alloc | apply Kd.R_drewN | apply Kd.R_drew)); exact HO192.out) (Kd.R_base ho0) hb)
          have n7_ := Aside0.mk (Kd.R_lower (Kd.R_newB (Kd.R_newB (Kd.R_newB (Kd.R_newB (Kd.R_new' (Kd.R_new' (Kd.R_new' (Kd.R_new' (Kd.R_new' (Kd.R_new' (Kd.R_new' ho0 (Kd.R_lt (by (with_reducible repeat (first | apply Kd.R_alloc | apply Kd.R_drewN | apply Kd.R_drew)); exact HO169.out))) (Kd.R_lt (by (with_reducible repeat (first | apply Kd.R_alloc | apply Kd.R_drewN | apply Kd.R_drew)); exact HO172.out))) (Kd.R_lt (by (with_reducible repeat (first | apply Kd.R_alloc | apply Kd.R_drewN | apply Kd.R_drew)); exact HO175.out))) (Kd.R_lt (by (with_reducible repeat (first | apply Kd.R_alloc | apply Kd.R_drewN | apply Kd.R_drew)); exact HO178.out))) (Kd.R_lt (by (with_reducible repeat (first | apply Kd.R_alloc | apply Kd.R_drewN | apply Kd.R_drew)); exact HO181.out))) (Kd.R_lt (by (with_reducible repeat (first | apply Kd.R_alloc | apply Kd.R_drewN | apply Kd.R_drew)); exact HO185.out))) (Kd.R_lt (by (with_reducible repeat (first | apply Kd.R_alloc | apply Kd.R_drewN | apply Kd.R_drew)); exact HO192.out))) (g := gb148) (o := .cells #[.int .i64 t142, .int .i64 t143] 23 (0, 0)) (by (with_reducible repeat (first | apply blk_drewN | apply blk_drew | apply blk_alloc)); exact U8.out)) (g := gb149) (o := .cells #[.int .i64 t144, .int .i64 t145] 23 (0, 0)) (by (with_reducible repeat (first | apply blk_drewN | apply blk_drew | apply blk_alloc)); exact U9.out)) (g := gb150) (o := .cells #[.int .i64 t146, .int .i64 t147] 23 (0, 0)) (by (with_reducible repeat (first | apply blk_drewN | apply blk_drew | apply blk_alloc)); exact U0.out)) (g := gb151) (o := .cells #[.int .i64 0, .int .i64 0] 23 (0, 0)) (by (with_reducible repeat (first | apply blk_drewN | apply blk_drew | apply blk_alloc)); exact U1.out)) (below_size (by repeat (first | (with_reducible first | exact HB.out | apply below_alloc | apply pw_below_drewN | apply below_drew1 | refine below_set ?_ V8.out | refine below_set ?_ V9.out | refine below_set ?_ V0.out | refine below_set ?_ V1.out) | exact HB.out))))
          have n8_ := Aside0.mk (blk_below (g := gb148) (o := .cells #[.int .i64 t142, .int .i64 t143] 23 (0, 0)) (by (with_reducible repeat (first | apply blk_drewN | apply blk_drew | apply blk_alloc)); exact U8.out) hb)
          have n9_ := Aside0.mk (blk_below (g := gb149) (o := .cells #[.int .i64 t144, .int .i64 t145] 23 (0, 0)) (by (with_reducible repeat (first | apply blk_drewN | apply blk_drew | apply blk_alloc)); exact U9.out) hb)
          have n10_ := Aside0.mk (blk_below (g := gb150) (o := .cells #[.int .i64 t146, .int .i64 t147] 23 (0, 0)) (by (with_reducible repeat (first | apply blk_drewN | apply blk_drew | apply blk_alloc)); exact U0.out) hb)
          have n11_ := Aside0.mk (blk_below (g := gb151) (o := .cells #[.int .i64 0, .int .i64 0] 23 (0, 0)) (by (with_reducible repeat (first | apply blk_drewN | apply blk_drew | apply blk_alloc)); exact U1.out) hb)
          have n12_ := Aside0.mk (below_step (by repeat (first | (with_reducible first | exact HB.out | apply below_alloc | apply pw_below_drewN | apply below_drew1 | refine below_set ?_ V8.out | refine below_set ?_ V9.out | refine below_set ?_ V0.out | refine below_set ?_ V1.out) | exact HB.out)) hb)
          clear HO169
          clear HO172
          clear HO175
          clear HO178
          clear HO181
          clear HO185
          clear HO192
          clear U8
          clear U9
          clear U0
          clear U1
          clear HB
          have HO169 := n0_
          have HO172 := n1_
          have HO175 := n2_
          have HO178 := n3_
          have HO181 := n4_
          have HO185 := n5_
          have HO192 := n6_
          have HO189 := n7_
          have U8 := n8_
          have U9 := n9_
          have U0 := n10_
          have U1 := n11_
          have HB := n12_
          clear n0_ n1_ n2_ n3_ n4_ n5_ n6_ n7_ n8_ n9_ n10_ n11_ n12_
          (try clear hb)
          (try clear hb2)
          (try clear hk)
          (try clear hi)
          (try clear ho0)
          refine hK.out _ _ ⟨(blk_cell U0.out 0).trans rfl, (blk_cell U0.out 1).trans rfl, (blk_cell U8.out 0).trans rfl, (blk_cell U8.out 1).trans rfl, (blk_cell U9.out 0).trans rfl, (blk_cell U9.out 1).trans rfl⟩ (fun hHeld => ?_)
          clear hK K
          refine norm_ (a' := ?_) ?_ ?_
          rotate_left
          ·
           show Act.put _ (some 82) _ = _
           simp only [Act.put, List.setIfInBounds_toArray, List.set_cons_zero, List.set_cons_succ, i64_w, i32_w]
           rfl
          exact norm_ (by simp only [putAll, Act.put, List.setIfInBounds_toArray, List.set_cons_zero, List.set_cons_succ]) (hCont (v188, v191) _ ⟨hHeld, (by (with_reducible repeat (first | apply Kd.R_alloc | apply Kd.R_drewN | apply Kd.R_drew)); exact Kd.R_mono HO169.out (fun _ hk => ⟨hk.1.1.1.1.2, ⟨hk.1.1.1.2, ⟨hk.1.1.2, ⟨hk.2, ⟨hk.1.2, ⟨hk.1.1.1.1.1.1, ⟨hk.1.1.1.1.1.2.1, ⟨hk.1.1.1.1.1.2.2.1, hk.1.1.1.1.1.2.2.2⟩⟩⟩⟩⟩⟩⟩⟩)), (by (with_reducible repeat (first | apply Kd.R_alloc | apply Kd.R_drewN | apply Kd.R_drew)); exact Kd.R_mono HO172.out (fun _ hk => ⟨hk.1.1.1.1.2, ⟨hk.1.1.1.2, ⟨hk.1.1.2, ⟨hk.2, ⟨hk.1.2, ⟨hk.1.1.1.1.1.1, ⟨hk.1.1.1.1.1.2.1, ⟨hk.1.1.1.1.1.2.2.1, hk.1.1.1.1.1.2.2.2⟩⟩⟩⟩⟩⟩⟩⟩)), (by (with_reducible repeat (first | apply Kd.R_alloc | apply Kd.R_drewN | apply Kd.R_drew)); exact Kd.R_mono HO175.out (fun _ hk => ⟨hk.1.1.1.1.2, ⟨hk.1.1.1.2, ⟨hk.1.1.2, ⟨hk.2, ⟨hk.1.2, ⟨hk.1.1.1.1.1.1, ⟨hk.1.1.1.1.1.2.1, ⟨hk.1.1.1.1.1.2.2.1, hk.1.1.1.1.1.2.2.2⟩⟩⟩⟩⟩⟩⟩⟩)), (by (with_reducible repeat (first | apply Kd.R_alloc | apply Kd.R_drewN | apply Kd.R_drew)); exact Kd.R_mono HO178.out (fun _ hk => ⟨hk.1.1.1.1.1.1.1.1.1.1.2, ⟨hk.1.1.1.1.1.1.1.1.1.2, ⟨hk.1.1.1.1.1.1.1.1.2, ⟨hk.1.1.1.2, ⟨hk.1.1.2, ⟨hk.2, ⟨hk.1.2, ⟨hk.1.1.1.1.1.1.1.2, ⟨hk.1.1.1.1.1.1.2, ⟨hk.1.1.1.1.1.2, hk.1.1.1.1.2⟩⟩⟩⟩⟩⟩⟩⟩⟩⟩)), (by (with_reducible repeat (first | apply Kd.R_alloc | apply Kd.R_drewN | apply Kd.R_drew)); exact Kd.R_mono HO181.out (fun _ hk => ⟨hk.1.1.1.1.1.1.1.1.1.1.2, ⟨hk.1.1.1.1.1.1.1.1.1.2, ⟨hk.1.1.1.1.1.1.1.1.2, ⟨hk.1.1.1.1.1.1.1.2, ⟨hk.1.1.2, ⟨hk.2, ⟨hk.1.2, ⟨hk.1.1.1.1.1.1.2, ⟨hk.1.1.1.1.1.2, ⟨hk.1.1.1.1.2, hk.1.1.1.2⟩⟩⟩⟩⟩⟩⟩⟩⟩⟩)), (by (with_reducible repeat (first | apply Kd.R_alloc | apply Kd.R_drewN | apply Kd.R_drew)); exact Kd.R_mono HO185.out (fun _ hk => ⟨hk.1.1.1.1.1.1.1.1.1.1.2, ⟨hk.1.1.1.1.1.1.1.1.1.2, ⟨hk.1.1.1.1.1.1.1.1.2, ⟨hk.1.1.1.1.1.1.1.2, ⟨hk.1.1.1.1.1.1.2, ⟨hk.2, ⟨hk.1.2, ⟨hk.1.1.1.1.1.2, ⟨hk.1.1.1.1.2, ⟨hk.1.1.1.2, hk.1.1.2⟩⟩⟩⟩⟩⟩⟩⟩⟩⟩)), (by (with_reducible repeat (first | apply Kd.R_alloc | apply Kd.R_drewN | apply Kd.R_drew)); exact Kd.R_mono HO189.out (fun _ hk => ⟨hk.1.1.1.1.1.1.1.1.1.1.2, ⟨hk.1.1.1.1.1.1.1.1.1.2, ⟨hk.1.1.1.1.1.1.1.1.2, ⟨hk.1.1.1.1.1.1.1.2, ⟨hk.1.1.1.1.1.1.2, ⟨hk.1.1.1.1.1.2, ⟨hk.1.1.1.1.2, ⟨hk.1.1.1.2, ⟨hk.1.1.2, ⟨hk.1.2, hk.2⟩⟩⟩⟩⟩⟩⟩⟩⟩⟩)), (by (with_reducible repeat (first | apply Kd.R_alloc | apply Kd.R_drewN | apply Kd.R_drew)); exact Kd.R_mono HO192.out (fun _ hk => ⟨hk.1.1.1.1.1.1.1.1.1.1.2, ⟨hk.1.1.1.1.1.1.1.1.1.2, ⟨hk.1.1.1.1.1.1.1.1.2, ⟨hk.1.1.1.1.1.1.1.2, ⟨hk.1.1.1.1.1.1.2, ⟨hk.1.1.1.1.1.2, ⟨hk.2, ⟨hk.1.1.1.1.2, ⟨hk.1.1.1.2, ⟨hk.1.1.2, hk.1.2⟩⟩⟩⟩⟩⟩⟩⟩⟩⟩)), (by (with_reducible repeat (first | apply blk_drewN | apply blk_drew | apply blk_alloc)); exact U8.out), (by (with_reducible repeat (first | apply blk_drewN | apply blk_drew | apply blk_alloc)); exact U9.out), (by (with_reducible repeat (first | apply blk_drewN | apply blk_drew | apply blk_alloc)); exact U0.out), (by (with_reducible repeat (first | apply blk_drewN | apply blk_drew | apply blk_alloc)); exact U1.out), (by repeat (first | (with_reducible first | exact HB.out | apply below_alloc | apply pw_below_drewN | apply below_drew1 | refine below_set ?_ V8.out | refine below_set ?_ V9.out | refine below_set ?_ V0.out | refine below_set ?_ V1.out) | exact HB.out))⟩)
        rintro ⟨v188, v191⟩ w131 ⟨hS_, h0_, h1_, h2_, h3_, h4_, h5_, h6_, h7_, h8_, h9_, h10_, h11_, h12_⟩
        have n0_ : Aside0 (Kd.R k23 23 w131 w.heap.size (fun k_ => some k_ ≠ (.slice Ao123 y176.length co123 : Value).ownBlock ∧ some k_ ≠ (.slice Ao125 t179.length co125 : Value).ownBlock ∧ some k_ ≠ (.slice Ao127 t183.length co127 : Value).ownBlock ∧ some k_ ≠ (v188 : Value).ownBlock ∧ some k_ ≠ (v191 : Value).ownBlock ∧ k_ ≠ gb148 ∧ k_ ≠ gb149 ∧ k_ ≠ gb150 ∧ k_ ≠ gb151) (.slice Ao117 y167.length co117) y167) := ⟨h0_⟩
        have n1_ : Aside0 (Kd.R k23 23 w131 w.heap.size (fun k_ => some k_ ≠ (.slice Ao123 y176.length co123 : Value).ownBlock ∧ some k_ ≠ (.slice Ao125 t179.length co125 : Value).ownBlock ∧ some k_ ≠ (.slice Ao127 t183.length co127 : Value).ownBlock ∧ some k_ ≠ (v188 : Value).ownBlock ∧ some k_ ≠ (v191 : Value).ownBlock ∧ k_ ≠ gb148 ∧ k_ ≠ gb149 ∧ k_ ≠ gb150 ∧ k_ ≠ gb151) (.slice Ao118 y170.length co118) y170) := ⟨h1_⟩
        have n2_ : Aside0 (Kd.R k23 23 w131 w.heap.size (fun k_ => some k_ ≠ (.slice Ao123 y176.length co123 : Value).ownBlock ∧ some k_ ≠ (.slice Ao125 t179.length co125 : Value).ownBlock ∧ some k_ ≠ (.slice Ao127 t183.length co127 : Value).ownBlock ∧ some k_ ≠ (v188 : Value).ownBlock ∧ some k_ ≠ (v191 : Value).ownBlock ∧ k_ ≠ gb148 ∧ k_ ≠ gb149 ∧ k_ ≠ gb150 ∧ k_ ≠ gb151) (.slice Ao119 y173.length co119) y173) := ⟨h2_⟩
        have n3_ : Aside0 (Kd.R k23 23 w131 w.heap.size (fun k_ => some k_ ≠ (.slice Ao117 y167.length co117 : Value).ownBlock ∧ some k_ ≠ (.slice Ao118 y170.length co118 : Value).ownBlock ∧ some k_ ≠ (.slice Ao119 y173.length co119 : Value).ownBlock ∧ some k_ ≠ (.slice Ao125 t179.length co125 : Value).ownBlock ∧ some k_ ≠ (.slice Ao127 t183.length co127 : Value).ownBlock ∧ some k_ ≠ (v188 : Value).ownBlock ∧ some k_ ≠ (v191 : Value).ownBlock ∧ k_ ≠ gb148 ∧ k_ ≠ gb149 ∧ k_ ≠ gb150 ∧ k_ ≠ gb151) (.slice Ao123 y176.length co123) y176) := ⟨h3_⟩
        have n4_ : Aside0 (Kd.R k23 23 w131 w.heap.size (fun k_ => some k_ ≠ (.slice Ao117 y167.length co117 : Value).ownBlock ∧ some k_ ≠ (.slice Ao118 y170.length co118 : Value).ownBlock ∧ some k_ ≠ (.slice Ao119 y173.length co119 : Value).ownBlock ∧ some k_ ≠ (.slice Ao123 y176.length co123 : Value).ownBlock ∧ some k_ ≠ (.slice Ao127 t183.length co127 : Value).ownBlock ∧ some k_ ≠ (v188 : Value).ownBlock ∧ some k_ ≠ (v191 : Value).ownBlock ∧ k_ ≠ gb148 ∧ k_ ≠ gb149 ∧ k_ ≠ gb150 ∧ k_ ≠ gb151) (.slice Ao125 t179.length co125) t179) := ⟨h4_⟩
        have n5_ : Aside0 (Kd.R k23 23 w131 w.heap.size (fun k_ => some k_ ≠ (.slice Ao117 y167.length co117 : Value).ownBlock ∧ some k_ ≠ (.slice Ao118 y170.length co118 : Value).ownBlock ∧ some k_ ≠ (.slice Ao119 y173.length co119 : Value).ownBlock ∧ some k_ ≠ (.slice Ao123 y176.length co123 : Value).ownBlock ∧ some k_ ≠ (.slice Ao125 t179.length co125 : Value).ownBlock ∧ some k_ ≠ (v188 : Value).ownBlock ∧ some k_ ≠ (v191 : Value).ownBlock ∧ k_ ≠ gb148 ∧ k_ ≠ gb149 ∧ k_ ≠ gb150 ∧ k_ ≠ gb151) (.slice Ao127 t183.length co127) t183) := ⟨h5_⟩
        have n6_ : Aside0 (Kd.R k23 23 w131 w.heap.size (fun k_ => some k_ ≠ (.slice Ao117 y167.length co117 : Value).ownBlock ∧ some k_ ≠ (.slice Ao118 y170.length co118 : Value).ownBlock ∧ some k_ ≠ (.slice Ao119 y173.length co119 : Value).ownBlock ∧ some k_ ≠ (.slice Ao123 y176.length co123 : Value).ownBlock ∧ some k_ ≠ (.slice Ao125 t179.length co125 : Value).ownBlock ∧ some k_ ≠ (.slice Ao127 t183.length co127 : Value).ownBlock ∧ some k_ ≠ (v191 : Value).ownBlock ∧ k_ ≠ gb148 ∧ k_ ≠ gb149 ∧ k_ ≠ gb150 ∧ k_ ≠ gb151) v188 t187) := ⟨h6_⟩
        have n7_ : Aside0 (Kd.R k23 23 w131 w.heap.size (fun k_ => some k_ ≠ (.slice Ao117 y167.length co117 : Value).ownBlock ∧ some k_ ≠ (.slice Ao118 y170.length co118 : Value).ownBlock ∧ some k_ ≠ (.slice Ao119 y173.length co119 : Value).ownBlock ∧ some k_ ≠ (.slice Ao123 y176.length co123 : Value).ownBlock ∧ some k_ ≠ (.slice Ao125 t179.length co125 : Value).ownBlock ∧ some k_ ≠ (.slice Ao127 t183.length co127 : Value).ownBlock ∧ some k_ ≠ (v188 : Value).ownBlock ∧ k_ ≠ gb148 ∧ k_ ≠ gb149 ∧ k_ ≠ gb150 ∧ k_ ≠ gb151) v191 y190) := ⟨h7_⟩
        have n8_ : Aside0 (w131.heap[gb148]? = some (.cells #[.int .i64 t142, .int .i64 t143] 23 (0, 0))) := ⟨h8_⟩
        have n9_ : Aside0 (w131.heap[gb149]? = some (.cells #[.int .i64 t144, .int .i64 t145] 23 (0, 0))) := ⟨h9_⟩
        have n10_ : Aside0 (w131.heap[gb150]? = some (.cells #[.int .i64 t146, .int .i64 t147] 23 (0, 0))) := ⟨h10_⟩
        have n11_ : Aside0 (w131.heap[gb151]? = some (.cells #[.int .i64 0, .int .i64 0] 23 (0, 0))) := ⟨h11_⟩
        have n12_ : Aside0 (Below w.heap.size w w131) := ⟨h12_⟩
        clear HO169
        clear HO172
        clear HO175
        clear U8
        clear U9
        clear U0
        clear U1
        clear HB
        clear h0_ h1_ h2_ h3_ h4_ h5_ h6_ h7_ h8_ h9_ h10_ h11_ h12_
        have HO169 := n0_
        have HO172 := n1_
        have HO175 := n2_
        have HO178 := n3_
        have HO181 := n4_
        have HO185 := n5_
        have HO189 := n6_
        have HO192 := n7_
        have U8 := n8_
        have U9 := n9_
        have U0 := n10_
        have U1 := n11_
        have HB := n12_
        clear n0_ n1_ n2_ n3_ n4_ n5_ n6_ n7_ n8_ n9_ n10_ n11_ n12_
        have hHeld : w131.cell? ⟨gb150, 0, none⟩ = some (.int .i64 t146) ∧ w131.cell? ⟨gb150, 1, none⟩ = some (.int .i64 t147) ∧ w131.cell? ⟨gb148, 0, none⟩ = some (.int .i64 t142) ∧ w131.cell? ⟨gb148, 1, none⟩ = some (.int .i64 t143) ∧ w131.cell? ⟨gb149, 0, none⟩ = some (.int .i64 t144) ∧ w131.cell? ⟨gb149, 1, none⟩ = some (.int .i64 t145) := hS_
        obtain ⟨Ao132, co132, eo132⟩ := Kd.R_slice HO189.out
        (first | subst eo132 | (injection eo132 with f1_ f2_ f3_; have f4_ := f1_.symm; have f5_ := f3_.symm; clear f1_ f2_ f3_; subst f4_; subst f5_))
        obtain ⟨Ao133, co133, eo133⟩ := Kd.R_slice HO192.out
        (first | subst eo133 | (injection eo133 with f1_ f2_ f3_; have f4_ := f1_.symm; have f5_ := f3_.symm; clear f1_ f2_ f3_; subst f4_; subst f5_))
        refine norm_ (a' := ?_) ?_ ?_
        rotate_left
        ·
         simp only [putAll, Act.put, List.setIfInBounds_toArray, List.set_cons_zero, List.set_cons_succ]
         rfl
        refine one_ (i := 23) (N := some 85) #[true, true, true, true, true, true, true, true, true, true, true, true, true, true, true, true, true, true, true, true, true, true, true, true, false, false, false, false, false, false, false, false] rfl rfl (one_of HT_.out (by kernel_rfl)) (by decide) (fun K hK => ?_)
        refine goes_ Tryd.func18 (by kernel_rfl) rfl #[.slice Ao132 t187.length co132, .slice Ao133 y190.length co133] (by rfl) rfl rfl (by (try simp only [List.map_toArray, List.map_cons, List.map_nil]); first | done | rfl | (simp only [List.length_drop, List.length_take]; rfl)) ?_
        with_reducible refine (redpencilref04_Same.calls kj3 _ _ t187 _ _ y190 true _ ?side1 ?side2 ?side3 ?side4 A114.out).mono ?_
        (case side1 => repeat (first | exact (Kd.R_reads' HO189.out).2.2 | (with_reducible refine Kd.C_alloc ?_ _) | (with_reducible refine Kd.C_drewN ?_ _) | (with_reducible refine Kd.C_drew ?_)))
        (case side2 => exact (Kd.R_reads' HO189.out).2.1)
        (case side3 => repeat (first | exact (Kd.R_reads' HO192.out).2.2 | (with_reducible refine Kd.C_alloc ?_ _) | (with_reducible refine Kd.C_drewN ?_ _) | (with_reducible refine Kd.C_drew ?_)))
        (case side4 => exact (Kd.R_reads' HO192.out).2.1)
        rintro e w' ⟨rfl, ⟨nd, rfl⟩⟩
        refine ⟨_, rfl, ?_⟩
        refine hK.out _ _ ⟨(blk_cell U0.out 0).trans rfl, (blk_cell U0.out 1).trans rfl, (blk_cell U8.out 0).trans rfl, (blk_cell U8.out 1).trans rfl, (blk_cell U9.out 0).trans rfl, (blk_cell U9.out 1).trans rfl⟩ (fun hHeld => ?_)
        clear hK K
        refine norm_ (a' := ?_) ?_ ?_
        rotate_left
        ·
         show Act.put _ (some 85) _ = _
         simp only [Act.put, List.setIfInBounds_toArray, List.set_cons_zero, List.set_cons_succ, i64_w, i32_w]
         rfl
        refine pure_ (i := 24) (N := some 86) (v := ?_) (a' := ?_) #[true, true, true, true, true, true, true, true, true, true, true, true, true, true, true, true, true, true, true, true, true, true, true, true, true, false, false, false, false, false, false, false] rfl rfl (any_of HT_.out (by kernel_rfl)) (fun _ _ _ h => h) (Or.inl ⟨by rfl, ?_⟩) ?_ ?_
        rotate_left
        ·
         intro w'
         go_simp
         with_reducible rfl
        rotate_left
        ·
         simp only [Act.put, List.setIfInBounds_toArray, List.set_cons_zero, List.set_cons_succ, i64_w, i32_w]
         rfl
        refine pure_ (i := 25) (N := some 87) (v := ?_) (a' := ?_) #[true, true, true, true, true, true, true, true, true, true, true, true, true, true, true, true, true, true, true, true, true, true, true, true, true, true, false, false, false, false, false, false] rfl rfl (any_of HT_.out (by kernel_rfl)) (fun _ _ _ h => h) (Or.inl ⟨by rfl, ?_⟩) ?_ ?_
        rotate_left
        ·
         intro w'
         go_simp
         with_reducible rfl
        rotate_left
        ·
         simp only [Act.put, List.setIfInBounds_toArray, List.set_cons_zero, List.set_cons_succ, i64_w, i32_w]
         rfl
        refine pure_ (i := 26) (N := some 88) (v := ?_) (a' := ?_) #[true, true, true, true, true, true, true, true, true, true, true, true, true, true, true, true, true, true, true, true, true, true, true, true, true, true, true, false, false, false, false, false] rfl rfl (any_of HT_.out (by kernel_rfl)) (fun _ _ _ h => h) (Or.inl ⟨by rfl, ?_⟩) ?_ ?_
        rotate_left
        ·
         intro w'
         go_simp
         with_reducible rfl
        rotate_left
        ·
         simp only [Act.put, List.setIfInBounds_toArray, List.set_cons_zero, List.set_cons_succ, i64_w, i32_w]
         rfl
        refine pure_ (i := 27) (N := some 89) (v := ?_) (a' := ?_) #[true, true, true, true, true, true, true, true, true, true, true, true, true, true, true, true, true, true, true, true, true, true, true, true, true, true, true, true, false, false, false, false] rfl rfl (any_of HT_.out (by kernel_rfl)) (fun _ _ _ h => h) (Or.inl ⟨by rfl, ?_⟩) ?_ ?_
        rotate_left
        ·
         intro w'
         go_simp
         with_reducible rfl
        rotate_left
        ·
         simp only [Act.put, List.setIfInBounds_toArray, List.set_cons_zero, List.set_cons_succ, i64_w, i32_w]
         rfl
        refine take_ (i := 28) (N := some 90) (v := ?_) (a' := ?_) #[true, true, true, true, true, true, true, true, true, true, true, true, true, true, true, true, true, true, true, true, true, true, true, true, true, true, true, true, true, false, false, false] rfl rfl (take_ofW HT_.out HW_.out (by kernel_rfl)) (fun _ _ _ h => h) (Or.inl ⟨by rfl, ?_⟩) hHeld ?_ ?_
        rotate_left
        ·
         rintro w' ⟨s0, s1, s2, s3, s4, s5⟩
         go_simp
         with_reducible rfl
        rotate_left
        ·
         simp only [Act.put, List.setIfInBounds_toArray, List.set_cons_zero, List.set_cons_succ, i64_w, i32_w]
         rfl
        refine one_ (i := 29) (N := some 91) #[true, true, true, true, true, true, true, true, true, true, true, true, true, true, true, true, true, true, true, true, true, true, true, true, true, true, true, true, true, true, false, false] rfl rfl (one_of HT_.out (by kernel_rfl)) (by decide) (fun K hK => ?_)
        refine goes_ Tryd.func20 (by kernel_rfl) rfl #[.slice Ao118 y170.length co118, .agg #[.int .i64 t142, .int .i64 t143]] (by rfl) rfl rfl (by (try simp only [List.map_toArray, List.map_cons, List.map_nil]); first | done | rfl | (simp only [List.length_drop, List.length_take]; rfl)) ?_
        with_reducible refine (dot_Has.calls kj3 _ _ y170 t142 t143 t194 _ ?side1 ?side2 A116.out).mono ?_
        (case side1 => repeat (first | exact (Kd.R_reads' HO172.out).2.2 | (with_reducible refine Kd.C_alloc ?_ _) | (with_reducible refine Kd.C_drewN ?_ _) | (with_reducible refine Kd.C_drew ?_)))
        (case side2 => exact (Kd.R_reads' HO172.out).2.1)
        rintro e w134 ⟨rfl, hb⟩
        refine ⟨_, rfl, ?_⟩
        have n0_ := Aside0.mk (Kd.R_below (by (with_reducible repeat (first | apply Kd.R_alloc | apply Kd.R_drewN | apply Kd.R_drew)); exact HO169.out) hb)
        have n1_ := Aside0.mk (Kd.R_below (by (with_reducible repeat (first | apply Kd.R_alloc | apply Kd.R_drewN | apply Kd.R_drew)); exact HO172.out) hb)
        have n2_ := Aside0.mk (Kd.R_below (by (with_reducible repeat (first | apply Kd.R_alloc | apply Kd.R_drewN | apply Kd.R_drew)); exact HO175.out) hb)
        have n3_ := Aside0.mk (Kd.R_below (by (with_reducible repeat (first | apply Kd.R_alloc | apply Kd.R_drewN | apply Kd.R_drew)); exact HO178.out) hb)
        have n4_ := Aside0.mk (Kd.R_below (by (with_reducible repeat (first | apply Kd.R_alloc | apply Kd.R_drewN | apply Kd.R_drew)); exact HO181.out) hb)
        have n5_ := Aside0.mk (Kd.R_below (by (with_reducible repeat (first | apply Kd.R_alloc | apply Kd.R_drewN | apply Kd.R_drew)); exact HO185.out) hb)
        have n6_ := Aside0.mk (Kd.R_below (by (with_reducible repeat (first | apply Kd.R_alloc | apply Kd.R_drewN | apply Kd.R_drew)); exact HO189.out) hb)
        have n7_ := Aside0.mk (Kd.R_below (by (with_reducible repeat (first | apply Kd.R_alloc | apply Kd.R_drewN | apply Kd.R_drew)); exact HO192.out) hb)
        have n8_ := Aside0.mk (blk_below (g := gb148) (o := .cells #[.int .i64 t142, .int .i64 t143] 23 (0, 0)) (by (with_reducible repeat (first | apply blk_drewN | apply blk_drew | apply blk_alloc)); exact U8.out) hb)
        have n9_ := Aside0.mk (blk_below (g := gb149) (o := .cells #[.int .i64 t144, .int .i64 t145] 23 (0, 0)) (by (with_reducible repeat (first | apply blk_drewN | apply blk_drew | apply blk_alloc)); exact U9.out) hb)
        have n10_ := Aside0.mk (blk_below (g := gb150) (o := .cells #[.int .i64 t146, .int .i64 t147] 23 (0, 0)) (by (with_reducible repeat (first | apply blk_drewN | apply blk_drew | apply blk_alloc)); exact U0.out) hb)
        have n11_ := Aside0.mk (blk_below (g := gb151) (o := .cells #[.int .i64 0, .int .i64 0] 23 (0, 0)) (by (with_reducible repeat (first | apply blk_drewN | apply blk_drew | apply blk_alloc)); exact U1.out) hb)
        have n12_ := Aside0.mk (below_step (by repeat (first | (with_reducible first | exact HB.out | apply below_alloc | apply pw_below_drewN | apply below_drew1 | refine below_set ?_ V8.out | refine below_set ?_ V9.out | refine below_set ?_ V0.out | refine below_set ?_ V1.out) | exact HB.out)) hb)
        clear HO169
        clear HO172
        clear HO175
        clear HO178
        clear HO181
        clear HO185
        clear HO189
        clear HO192
        clear U8
        clear U9
        clear U0
        clear U1
        clear HB
        have HO169 := n0_
        have HO172 := n1_
        have HO175 := n2_
        have HO178 := n3_
        have HO181 := n4_
        have HO185 := n5_
        have HO189 := n6_
        have HO192 := n7_
        have U8 := n8_
        have U9 := n9_
        have U0 := n10_
        have U1 := n11_
        have HB := n12_
        clear n0_ n1_ n2_ n3_ n4_ n5_ n6_ n7_ n8_ n9_ n10_ n11_ n12_
        (try clear hb)
        (try clear hb2)
        (try clear hk)
        (try clear hi)
        refine hK.out _ _ ⟨(blk_cell U0.out 0).trans rfl, (blk_cell U0.out 1).trans rfl, (blk_cell U8.out 0).trans rfl, (blk_cell U8.out 1).trans rfl, (blk_cell U9.out 0).trans rfl, (blk_cell U9.out 1).trans rfl⟩ (fun hHeld => ?_)
        clear hK K
        refine norm_ (a' := ?_) ?_ ?_
        rotate_left
        ·
         show Act.put _ (some 91) _ = _
         simp only [Act.put, List.setIfInBounds_toArray, List.set_cons_zero, List.set_cons_succ, i64_w, i32_w]
         rfl
        refine pure_ (i := 30) (N := some 92) (v := ?_) (a' := ?_) #[true, true, true, true, true, true, true, true, true, true, true, true, true, true, true, true, true, true, true, true, true, true, true, true, true, true, true, true, true, true, true, false] rfl rfl (any_of HT_.out (by kernel_rfl)) (fun _ _ _ h => h) (Or.inl ⟨by rfl, ?_⟩) ?_ ?_
        rotate_left
        ·
         intro w'
         go_simp
         with_reducible rfl
        rotate_left
        ·
         simp only [Act.put, List.setIfInBounds_toArray, List.set_cons_zero, List.set_cons_succ, i64_w, i32_w]
         rfl
        refine pure_ (i := 31) (N := some 93) (v := ?_) (a' := ?_) #[true, true, true, true, true, true, true, true, true, true, true, true, true, true, true, true, true, true, true, true, true, true, true, true, true, true, true, true, true, true, true, true] rfl rfl (any_of HT_.out (by kernel_rfl)) (fun _ _ _ h => h) (Or.inl ⟨by rfl, ?_⟩) ?_ ?_
        rotate_left
        ·
         intro w'
         go_simp
         with_reducible rfl
        rotate_left
        ·
         simp only [Act.put, List.setIfInBounds_toArray, List.set_cons_zero, List.set_cons_succ, i64_w, i32_w]
         rfl
        refine done_ (done_of HT_.out (by kernel_rfl)) ?_
        try go_wp2
        go_meet
        case rel => exact ⟨_, (!t194), (by first | rfl | (simp; done) | (simp [*]; done)), H', ⟨by have := HJ3.out; first | omega | exact Nat.le_refl _⟩, ⟨by (with_reducible repeat (first | apply blk_drewN | apply blk_drew | apply blk_alloc)); exact U8.out⟩, ⟨by (with_reducible repeat (first | apply blk_drewN | apply blk_drew | apply blk_alloc)); exact U9.out⟩, ⟨by (with_reducible repeat (first | apply blk_drewN | apply blk_drew | apply blk_alloc)); exact U0.out⟩, ⟨by (with_reducible repeat (first | apply blk_drewN | apply blk_drew | apply blk_alloc)); exact U1.out⟩, ⟨by repeat (first | (with_reducible first | exact HB.out | apply below_alloc | apply pw_below_drewN | apply below_drew1 | refine below_set ?_ V8.out | refine below_set ?_ V9.out | refine below_set ?_ V0.out | refine below_set ?_ V1.out) | exact HB.out)⟩⟩
       ·
        replace c115 := Bool.eq_false_iff.mpr c115
        subst c115
        have H1 : (redpencillaw04_known.j1 kj3 true t142 t143 0 0) = some true := by rw [if_neg (show ¬ (false = true) by decide)] at H; exact H
        exact absurd H1 (redpencillaw04_known.j1_no _ _ _ _ _)
      ·
       replace c112 := Bool.eq_false_iff.mpr c112
       subst c112
       have H1 : (redpencillaw04_known.j1 kj3 true t142 t143 0 0) = some true := by rw [if_neg (show ¬ (false = true) by decide)] at H; exact H
       exact absurd H1 (redpencillaw04_known.j1_no _ _ _ _ _)
     ·
      replace c109 := Bool.eq_false_iff.mpr c109
      subst c109
      have H1 : (redpencillaw04_known.j1 kj3 true t142 t143 0 0) = some true := by rw [if_neg (show ¬ (false = true) by decide)] at H; exact H
      exact absurd H1 (redpencillaw04_known.j1_no _ _ _ _ _)
    case rest =>
     clear HC98
     try clear c1
     try clear c2
     try clear p2
     try clear c10
     try clear c15
     try clear c18
     try clear c22
     try clear c109
     obtain ⟨kq, x93_97, rfl, HA, HJ97, U8, U9, U0, U1, HB⟩ := hcut
     cases kq with
     | zero => exact absurd HA.out (by simp [redpencillaw04_known.j1])
     | succ kj97 =>
      have H := HA.out
      clear HA
      simp only [redpencillaw04_known.j1] at H
      by_cases c170 : x93_97 = true
      ·
       subst c170
       have H1 : (some false) = some true := by rw [if_pos rfl] at H; exact H
       exact absurd H1 (by simp)
      ·
       replace c170 := Bool.eq_false_iff.mpr c170
       subst c170
       have H1 : ((redpencillaw04_of.f 64 4294967295).bind fun bt195 => ((dot_Valid.f bt195.1 bt195.2).bind fun t197 => (if t197 = true then ((redpencillaw04_of.f 65 1).bind fun bt198 => ((dot_Valid.f bt198.1 bt198.2).bind fun t200 => (if t200 = true then (redpencillaw04_known.j2 kj97 true t142 t143 0 0) else ((redpencillaw04_of.f 1 0).bind fun bt201 => ((dot_Valid.f bt201.1 bt201.2).bind fun t203 => (if t203 = true then (redpencillaw04_known.j2 kj97 true t142 t143 0 0) else ((dot_Valid.f 0 0).bind fun t204 => (if t204 = true then (redpencillaw04_known.j2 kj97 true t142 t143 0 0) else ((dot_Root.f 0 0).bind fun t205 => (redpencillaw04_known.j2 kj97 (!t205) t142 t143 0 0)))))))))) else (redpencillaw04_known.j2 kj97 true t142 t143 0 0)))) = some true := by rw [if_neg (show ¬ (false = true) by decide)] at H; exact H
       clear H
       have H := H1
       clear H1
       have HC171 := Aside0.mk H
       clear H
       go_upto_region 7 with (fail)
       go_cut [113] (fun v113 wc => ∃ (kq : Nat) (x113_170 : Bool), v113 = .bool x113_170 ∧ Aside0 (redpencillaw04_known.j2 kq x113_170 t142 t143 0 0 = some true) ∧ Aside0 (kq ≤ kj97) ∧ Aside0 (wc.heap[gb148]? = some (.cells #[.int .i64 t142, .int .i64 t143] 23 (0, 0))) ∧ Aside0 (wc.heap[gb149]? = some (.cells #[.int .i64 t144, .int .i64 t145] 23 (0, 0))) ∧ Aside0 (wc.heap[gb150]? = some (.cells #[.int .i64 t146, .int .i64 t147] 23 (0, 0))) ∧ Aside0 (wc.heap[gb151]? = some (.cells #[.int .i64 0, .int .i64 0] 23 (0, 0))) ∧ Aside0 (Below w.heap.size w wc))
       case first =>
        have H := HC171.out
        clear HC171
        replace H := Option.bind_eq_some_iff.mp H
        obtain ⟨⟨t195, t196⟩, A1720, H⟩ := H
        replace H : ((dot_Valid.f t195 t196).bind fun t197 => (if t197 = true then ((redpencillaw04_of.f 65 1).bind fun bt198 => ((dot_Valid.f bt198.1 bt198.2).bind fun t200 => (if t200 = true then (redpencillaw04_known.j2 kj97 true t142 t143 0 0) else ((redpencillaw04_of.f 1 0).bind fun bt201 => ((dot_Valid.f bt201.1 bt201.2).bind fun t203 => (if t203 = true then (redpencillaw04_known.j2 kj97 true t142 t143 0 0) else ((dot_Valid.f 0 0).bind fun t204 => (if t204 = true then (redpencillaw04_known.j2 kj97 true t142 t143 0 0) else ((dot_Root.f 0 0).bind fun t205 => (redpencillaw04_known.j2 kj97 (!t205) t142 t143 0 0)))))))))) else (redpencillaw04_known.j2 kj97 true t142 t143 0 0))) = some true := H
        have A172 := Aside0.mk A1720
        clear A1720
        replace H := Option.bind_eq_some_iff.mp H
        obtain ⟨t197, A1730, H⟩ := H
        replace H : (if t197 = true then ((redpencillaw04_of.f 65 1).bind fun bt198 => ((dot_Valid.f bt198.1 bt198.2).bind fun t200 => (if t200 = true then (redpencillaw04_known.j2 kj97 true t142 t143 0 0) else ((redpencillaw04_of.f 1 0).bind fun bt201 => ((dot_Valid.f bt201.1 bt201.2).bind fun t203 => (if t203 = true then (redpencillaw04_known.j2 kj97 true t142 t143 0 0) else ((dot_Valid.f 0 0).bind fun t204 => (if t204 = true then (redpencillaw04_known.j2 kj97 true t142 t143 0 0) else ((dot_Root.f 0 0).bind fun t205 => (redpencillaw04_known.j2 kj97 (!t205) t142 t143 0 0)))))))))) else (redpencillaw04_known.j2 kj97 true t142 t143 0 0)) = some true := H
        have A173 := Aside0.mk A1730
        clear A1730
        by_cases c174 : t197 = true
        ·
         subst c174
         have H1 : ((redpencillaw04_of.f 65 1).bind fun bt198 => ((dot_Valid.f bt198.1 bt198.2).bind fun t200 => (if t200 = true then (redpencillaw04_known.j2 kj97 true t142 t143 0 0) else ((redpencillaw04_of.f 1 0).bind fun bt201 => ((dot_Valid.f bt201.1 bt201.2).bind fun t203 => (if t203 = true then (redpencillaw04_known.j2 kj97 true t142 t143 0 0) else ((dot_Valid.f 0 0).bind fun t204 => (if t204 = true then (redpencillaw04_known.j2 kj97 true t142 t143 0 0) else ((dot_Root.f 0 0).bind fun t205 => (redpencillaw04_known.j2 kj97 (!t205) t142 t143 0 0)))))))))) = some true := by rw [if_pos rfl] at H; exact H
         clear H
         have H := H1
         clear H1
         replace H := Option.bind_eq_some_iff.mp H
         obtain ⟨⟨t198, t199⟩, A1750, H⟩ := H
         replace H : ((dot_Valid.f t198 t199).bind fun t200 => (if t200 = true then (redpencillaw04_known.j2 kj97 true t142 t143 0 0) else ((redpencillaw04_of.f 1 0).bind fun bt201 => ((dot_Valid.f bt201.1 bt201.2).bind fun t203 => (if t203 = true then (redpencillaw04_known.j2 kj97 true t142 t143 0 0) else ((dot_Valid.f 0 0).bind fun t204 => (if t204 = true then (redpencillaw04_known.j2 kj97 true t142 t143 0 0) else ((dot_Root.f 0 0).bind fun t205 => (redpencillaw04_known.j2 kj97 (!t205) t142 t143 0 0))))))))) = some true := H
         have A175 := Aside0.mk A1750
         clear A1750
         replace H := Option.bind_eq_some_iff.mp H
         obtain ⟨t200, A1760, H⟩ := H
         replace H : (if t200 = true then (redpencillaw04_known.j2 kj97 true t142 t143 0 0) else ((redpencillaw04_of.f 1 0).bind fun bt201 => ((dot_Valid.f bt201.1 bt201.2).bind fun t203 => (if t203 = true then (redpencillaw04_known.j2 kj97 true t142 t143 0 0) else ((dot_Valid.f 0 0).bind fun t204 => (if t204 = true then (redpencillaw04_known.j2 kj97 true t142 t143 0 0) else ((dot_Root.f 0 0).bind fun t205 => (redpencillaw04_known.j2 kj97 (!t205) t142 t143 0 0)))))))) = some true := H
         have A176 := Aside0.mk A1760
         clear A1760
         by_cases c177 : t200 = true
         ·
          subst c177
          have H1 : (redpencillaw04_known.j2 kj97 true t142 t143 0 0) = some true := by rw [if_pos rfl] at H; exact H
          exact absurd H1 (redpencillaw04_known.j2_no _ _ _ _ _)
         ·
          replace c177 := Bool.eq_false_iff.mpr c177
          subst c177
          have H1 : ((redpencillaw04_of.f 1 0).bind fun bt201 => ((dot_Valid.f bt201.1 bt201.2).bind fun t203 => (if t203 = true then (redpencillaw04_known.j2 kj97 true t142 t143 0 0) else ((dot_Valid.f 0 0).bind fun t204 => (if t204 = true then (redpencillaw04_known.j2 kj97 true t142 t143 0 0) else ((dot_Root.f 0 0).bind fun t205 => (redpencillaw04_known.j2 kj97 (!t205) t142 t143 0 0))))))) = some true := by rw [if_neg (show ¬ (false = true) by decide)] at H; exact H
          clear H
          have H := H1
          clear H1
          replace H := Option.bind_eq_some_iff.mp H
          obtain ⟨⟨t201, t202⟩, A1820, H⟩ := H
          replace H : ((dot_Valid.f t201 t202).bind fun t203 => (if t203 = true then (redpencillaw04_known.j2 kj97 true t142 t143 0 0) else ((dot_Valid.f 0 0).bind fun t204 => (if t204 = true then (redpencillaw04_known.j2 kj97 true t142 t143 0 0) else ((dot_Root.f 0 0).bind fun t205 => (redpencillaw04_known.j2 kj97 (!t205) t142 t143 0 0)))))) = some true := H
          have A182 := Aside0.mk A1820
          clear A1820
          replace H := Option.bind_eq_some_iff.mp H
          obtain ⟨t203, A1830, H⟩ := H
          replace H : (if t203 = true then (redpencillaw04_known.j2 kj97 true t142 t143 0 0) else ((dot_Valid.f 0 0).bind fun t204 => (if t204 = true then (redpencillaw04_known.j2 kj97 true t142 t143 0 0) else ((dot_Root.f 0 0).bind fun t205 => (redpencillaw04_known.j2 kj97 (!t205) t142 t143 0 0))))) = some true := H
          have A183 := Aside0.mk A1830
          clear A1830
          by_cases c184 : t203 = true
          ·
           subst c184
           have H1 : (redpencillaw04_known.j2 kj97 true t142 t143 0 0) = some true := by rw [if_pos rfl] at H; exact H
           exact absurd H1 (redpencillaw04_known.j2_no _ _ _ _ _)
          ·
           replace c184 := Bool.eq_false_iff.mpr c184
           subst c184
           have H1 : ((dot_Valid.f 0 0).bind fun t204 => (if t204 = true then (redpencillaw04_known.j2 kj97 true t142 t143 0 0) else ((dot_Root.f 0 0).bind fun t205 => (redpencillaw04_known.j2 kj97 (!t205) t142 t143 0 0)))) = some true := by rw [if_neg (show ¬ (false = true) by decide)] at H; exact H
           clear H
           have H := H1
           clear H1
           replace H := Option.bind_eq_some_iff.mp H
           obtain ⟨t204, A1910, H⟩ := H
           replace H : (if t204 = true then (redpencillaw04_known.j2 kj97 true t142 t143 0 0) else ((dot_Root.f 0 0).bind fun t205 => (redpencillaw04_known.j2 kj97 (!t205) t142 t143 0 0))) = some true := H
           have A191 := Aside0.mk A1910
           clear A1910
           by_cases c192 : t204 = true
           ·
            subst c192
            have H1 : (redpencillaw04_known.j2 kj97 true t142 t143 0 0) = some true := by rw [if_pos rfl] at H; exact H
            exact absurd H1 (redpencillaw04_known.j2_no _ _ _ _ _)
           ·
            replace c192 := Bool.eq_false_iff.mpr c192
            subst c192
            have H1 : ((dot_Root.f 0 0).bind fun t205 => (redpencillaw04_known.j2 kj97 (!t205) t142 t143 0 0)) = some true := by rw [if_neg (show ¬ (false = true) by decide)] at H; exact H
            clear H
            have H := H1
            clear H1
            replace H := Option.bind_eq_some_iff.mp H
            obtain ⟨t205, A2040, H⟩ := H
            replace H : (redpencillaw04_known.j2 kj97 (!t205) t142 t143 0 0) = some true := H
            have A204 := Aside0.mk A2040
            clear A2040
            have H' := Aside0.mk H
            clear H
            go_wp2_with (first | ((with_reducible refine gate_callee (f := 34) rfl ?_); refine goesL_ (some 94) rfl rfl Tryd.func34 (by kernel_rfl) rfl #[.int .i64 64, .int .i64 4294967295] rfl (by (try simp only [List.map_toArray, List.map_cons, List.map_nil]); first | done | rfl | (simp only [List.length_drop, List.length_take]; rfl)) ?_; (with_reducible refine (redpencillaw04_of.calls 64 4294967295 t195 t196 _ A172.out).mono ?_); rintro e w205 ⟨rfl, hb⟩; refine ⟨_, rfl, ?_⟩; have n0_ := Aside0.mk (blk_below (g := gb148) (o := .cells #[.int .i64 t142, .int .i64 t143] 23 (0, 0)) (by (with_reducible repeat (first | apply blk_drewN | apply blk_drew | apply blk_alloc)); exact U8.out) hb); have n1_ := Aside0.mk (blk_below (g := gb149) (o := .cells #[.int .i64 t144, .int .i64 t145] 23 (0, 0)) (by (with_reducible repeat (first | apply blk_drewN | apply blk_drew | apply blk_alloc)); exact U9.out) hb); have n2_ := Aside0.mk (blk_below (g := gb150) (o := .cells #[.int .i64 t146, .int .i64 t147] 23 (0, 0)) (by (with_reducible repeat (first | apply blk_drewN | apply blk_drew | apply blk_alloc)); exact U0.out) hb); have n3_ := Aside0.mk (blk_below (g := gb151) (o := .cells #[.int .i64 0, .int .i64 0] 23 (0, 0)) (by (with_reducible repeat (first | apply blk_drewN | apply blk_drew | apply blk_alloc)); exact U1.out) hb); have n4_ := Aside0.mk (below_step (by repeat (first | (with_reducible first | exact HB.out | apply below_alloc | apply pw_below_drewN | apply below_drew1 | refine below_set ?_ V8.out | refine below_set ?_ V9.out | refine below_set ?_ V0.out | refine below_set ?_ V1.out) | exact HB.out)) hb); clear U8; clear U9; clear U0; clear U1; clear HB; have U8 := n0_; have U9 := n1_; have U0 := n2_; have U1 := n3_; have HB := n4_; clear n0_ n1_ n2_ n3_ n4_; (try clear hb); (try clear hb2); (try clear hk); (try clear hi)) | ((with_reducible refine gate_callee (f := 8) rfl ?_); refine goesL_ (some 95) rfl rfl Tryd.func8 (by kernel_rfl) rfl #[.agg #[.int .i64 t195, .int .i64 t196]] rfl (by (try simp only [List.map_toArray, List.map_cons, List.map_nil]); first | done | rfl | (simp only [List.length_drop, List.length_take]; rfl)) ?_; (with_reducible refine (dot_Valid.calls t195 t196 true _ A173.out).mono ?_); rintro e w206 ⟨rfl, hb⟩; refine ⟨_, rfl, ?_⟩; have n0_ := Aside0.mk (blk_below (g := gb148) (o := .cells #[.int .i64 t142, .int .i64 t143] 23 (0, 0)) (by (with_reducible repeat (first | apply blk_drewN | apply blk_drew | apply blk_alloc)); exact U8.out) hb); have n1_ := Aside0.mk (blk_below (g := gb149) (o := .cells #[.int .i64 t144, .int .i64 t145] 23 (0, 0)) (by (with_reducible repeat (first | apply blk_drewN | apply blk_drew | apply blk_alloc)); exact U9.out) hb); have n2_ := Aside0.mk (blk_below (g := gb150) (o := .cells #[.int .i64 t146, .int .i64 t147] 23 (0, 0)) (by (with_reducible repeat (first | apply blk_drewN | apply blk_drew | apply blk_alloc)); exact U0.out) hb); have n3_ := Aside0.mk (blk_below (g := gb151) (o := .cells #[.int .i64 0, .int .i64 0] 23 (0, 0)) (by (with_reducible repeat (first | apply blk_drewN | apply blk_drew | apply blk_alloc)); exact U1.out) hb); have n4_ := Aside0.mk (below_step (by repeat (first | (with_reducible first | exact HB.out | apply below_alloc | apply pw_below_drewN | apply below_drew1 | refine below_set ?_ V8.out | refine below_set ?_ V9.out | refine below_set ?_ V0.out | refine below_set ?_ V1.out) | exact HB.out)) hb); clear U8; clear U9; clear U0; clear U1; clear HB; have U8 := n0_; have U9 := n1_; have U0 := n2_; have U1 := n3_; have HB := n4_; clear n0_ n1_ n2_ n3_ n4_; (try clear hb); (try clear hb2); (try clear hk); (try clear hi)) | (go_at_call 34; (with_reducible refine (redpencillaw04_of.calls 65 1 t198 t199 _ A175.out).mono ?_); rintro e w207 ⟨rfl, hb⟩; have n0_ := Aside0.mk (blk_below (g := gb148) (o := .cells #[.int .i64 t142, .int .i64 t143] 23 (0, 0)) (by (with_reducible repeat (first | apply blk_drewN | apply blk_drew | apply blk_alloc)); exact U8.out) hb); have n1_ := Aside0.mk (blk_below (g := gb149) (o := .cells #[.int .i64 t144, .int .i64 t145] 23 (0, 0)) (by (with_reducible repeat (first | apply blk_drewN | apply blk_drew | apply blk_alloc)); exact U9.out) hb); have n2_ := Aside0.mk (blk_below (g := gb150) (o := .cells #[.int .i64 t146, .int .i64 t147] 23 (0, 0)) (by (with_reducible repeat (first | apply blk_drewN | apply blk_drew | apply blk_alloc)); exact U0.out) hb); have n3_ := Aside0.mk (blk_below (g := gb151) (o := .cells #[.int .i64 0, .int .i64 0] 23 (0, 0)) (by (with_reducible repeat (first | apply blk_drewN | apply blk_drew | apply blk_alloc)); exact U1.out) hb); have n4_ := Aside0.mk (below_step (by repeat (first | (with_reducible first | exact HB.out | apply below_alloc | apply pw_below_drewN | apply below_drew1 | refine below_set ?_ V8.out | refine below_set ?_ V9.out | refine below_set ?_ V0.out | refine below_set ?_ V1.out) | exact HB.out)) hb); clear U8; clear U9; clear U0; clear U1; clear HB; have U8 := n0_; have U9 := n1_; have U0 := n2_; have U1 := n3_; have HB := n4_; clear n0_ n1_ n2_ n3_ n4_; (try clear hb); (try clear hb2); (try clear hk); (try clear hi)) | (go_at_call 8; (with_reducible refine (dot_Valid.calls t198 t199 false _ A176.out).mono ?_); rintro e w208 ⟨rfl, hb⟩; have n0_ := Aside0.mk (blk_below (g := gb148) (o := .cells #[.int .i64 t142, .int .i64 t143] 23 (0, 0)) (by (with_reducible repeat (first | apply blk_drewN | apply blk_drew | apply blk_alloc)); exact U8.out) hb); have n1_ := Aside0.mk (blk_below (g := gb149) (o := .cells #[.int .i64 t144, .int .i64 t145] 23 (0, 0)) (by (with_reducible repeat (first | apply blk_drewN | apply blk_drew | apply blk_alloc)); exact U9.out) hb); have n2_ := Aside0.mk (blk_below (g := gb150) (o := .cells #[.int .i64 t146, .int .i64 t147] 23 (0, 0)) (by (with_reducible repeat (first | apply blk_drewN | apply blk_drew | apply blk_alloc)); exact U0.out) hb); have n3_ := Aside0.mk (blk_below (g := gb151) (o := .cells #[.int .i64 0, .int .i64 0] 23 (0, 0)) (by (with_reducible repeat (first | apply blk_drewN | apply blk_drew | apply blk_alloc)); exact U1.out) hb); have n4_ := Aside0.mk (below_step (by repeat (first | (with_reducible first | exact HB.out | apply below_alloc | apply pw_below_drewN | apply below_drew1 | refine below_set ?_ V8.out | refine below_set ?_ V9.out | refine below_set ?_ V0.out | refine below_set ?_ V1.out) | exact HB.out)) hb); clear U8; clear U9; clear U0; clear U1; clear HB; have U8 := n0_; have U9 := n1_; have U0 := n2_; have U1 := n3_; have HB := n4_; clear n0_ n1_ n2_ n3_ n4_; (try clear hb); (try clear hb2); (try clear hk); (try clear hi)) | (go_at_call 34; (with_reducible refine (redpencillaw04_of.calls 1 0 t201 t202 _ A182.out).mono ?_); rintro e w209 ⟨rfl, hb⟩; have n0_ := Aside0.mk (blk_below (g := gb148) (o := .cells #[.int .i64 t142, .int .i64 t143] 23 (0, 0)) (by (with_reducible repeat (first | apply blk_drewN | apply blk_drew | apply blk_alloc)); exact U8.out) hb); have n1_ := Aside0.mk (blk_below (g := gb149) (o := .cells #[.int .i64 t144, .int .i64 t145] 23 (0, 0)) (by (with_reducible repeat (first | apply blk_drewN | apply blk_drew | apply blk_alloc)); exact U9.out) hb); have n2_ := Aside0.mk (blk_below (g := gb150) (o := .cells #[.int .i64 t146, .int .i64 t147] 23 (0, 0)) (by (with_reducible repeat (first | apply blk_drewN | apply blk_drew | apply blk_alloc)); exact U0.out) hb); have n3_ := Aside0.mk (blk_below (g := gb151) (o := .cells #[.int .i64 0, .int .i64 0] 23 (0, 0)) (by (with_reducible repeat (first | apply blk_drewN | apply blk_drew | apply blk_alloc)); exact U1.out) hb); have n4_ := Aside0.mk (below_step (by repeat (first | (with_reducible first | exact HB.out | apply below_alloc | apply pw_below_drewN | apply below_drew1 | refine below_set ?_ V8.out | refine below_set ?_ V9.out | refine below_set ?_ V0.out | refine below_set ?_ V1.out) | exact HB.out)) hb); clear U8; clear U9; clear U0; clear U1; clear HB; have U8 := n0_; have U9 := n1_; have U0 := n2_; have U1 := n3_; have HB := n4_; clear n0_ n1_ n2_ n3_ n4_; (try clear hb); (try clear hb2); (try clear hk); (try clear hi)) | (go_at_call 8; (with_reducible refine (dot_Valid.calls t201 t202 false _ A183.out).mono ?_); rintro e w210 ⟨rfl, hb⟩; have n0_ := Aside0.mk (blk_below (g := gb148) (o := .cells #[.int .i64 t142, .int .i64 t143] 23 (0, 0)) (by (with_reducible repeat (first | apply blk_drewN | apply blk_drew | apply blk_alloc)); exact U8.out) hb); have n1_ := Aside0.mk (blk_below (g := gb149) (o := .cells #[.int .i64 t144, .int .i64 t145] 23 (0, 0)) (by (with_reducible repeat (first | apply blk_drewN | apply blk_drew | apply blk_alloc)); exact U9.out) hb); have n2_ := Aside0.mk (blk_below (g := gb150) (o := .cells #[.int .i64 t146, .int .i64 t147] 23 (0, 0)) (by (with_reducible repeat (first | apply blk_drewN | apply blk_drew | apply blk_alloc)); exact U0.out) hb); have n3_ := Aside0.mk (blk_below (g := gb151) (o := .cells #[.int .i64 0, .int .i64 0] 23 (0, 0)) (by (with_reducible repeat (first | apply blk_drewN | apply blk_drew | apply blk_alloc)); exact U1.out) hb); have n4_ := Aside0.mk (below_step (by repeat (first | (with_reducible first | exact HB.out | apply below_alloc | apply pw_below_drewN | apply below_drew1 | refine below_set ?_ V8.out | refine below_set ?_ V9.out | refine below_set ?_ V0.out | refine below_set ?_ V1.out) | exact HB.out)) hb); clear U8; clear U9; clear U0; clear U1; clear HB; have U8 := n0_; have U9 := n1_; have U0 := n2_; have U1 := n3_; have HB := n4_; clear n0_ n1_ n2_ n3_ n4_; (try clear hb); (try clear hb2); (try clear hk); (try clear hi); have hnb211 := NB151_148.out; have hnc211 := NB148_151.out; have hnb212 := NB151_149.out; have hnc212 := NB149_151.out; have hnb213 := NB151_150.out; have hnc213 := NB150_151.out; have hcz214_0 : w210.cell? ⟨gb151, 0, none⟩ = some (.int .i64 0) := (blk_cell U1.out 0).trans rfl; have hcz214_1 : w210.cell? ⟨gb151, 1, none⟩ = some (.int .i64 0) := (blk_cell U1.out 1).trans rfl; have hfz214_0 := blk_frozen U1.out 0; have hfz214_1 := blk_frozen U1.out 1) | (go_at_call 8; (with_reducible refine (dot_Valid.calls 0 0 false _ A191.out).mono ?_); rintro e w215 ⟨rfl, hb⟩; have n0_ := Aside0.mk (blk_below (g := gb148) (o := .cells #[.int .i64 t142, .int .i64 t143] 23 (0, 0)) (by (with_reducible repeat (first | apply blk_drewN | apply blk_drew | apply blk_alloc)); exact U8.out) hb); have n1_ := Aside0.mk (blk_below (g := gb149) (o := .cells #[.int .i64 t144, .int .i64 t145] 23 (0, 0)) (by (with_reducible repeat (first | apply blk_drewN | apply blk_drew | apply blk_alloc)); exact U9.out) hb); have n2_ := Aside0.mk (blk_below (g := gb150) (o := .cells #[.int .i64 t146, .int .i64 t147] 23 (0, 0)) (by (with_reducible repeat (first | apply blk_drewN | apply blk_drew | apply blk_alloc)); exact U0.out) hb); have n3_ := Aside0.mk (blk_below (g := gb151) (o := .cells #[.int .i64 0, .int .i64 0] 23 (0, 0)) (by (with_reducible repeat (first | apply blk_drewN | apply blk_drew | apply blk_alloc)); exact U1.out) hb); have n4_ := Aside0.mk (below_step (by repeat (first | (with_reducible first | exact HB.out | apply below_alloc | apply pw_below_drewN | apply below_drew1 | refine below_set ?_ V8.out | refine below_set ?_ V9.out | refine below_set ?_ V0.out | refine below_set ?_ V1.out) | exact HB.out)) hb); clear U8; clear U9; clear U0; clear U1; clear HB; have U8 := n0_; have U9 := n1_; have U0 := n2_; have U1 := n3_; have HB := n4_; clear n0_ n1_ n2_ n3_ n4_; (try clear hb); (try clear hb2); (try clear hk); (try clear hi); have hcz216_0 : w215.cell? ⟨gb151, 0, none⟩ = some (.int .i64 0) := (blk_cell U1.out 0).trans rfl; have hcz216_1 : w215.cell? ⟨gb151, 1, none⟩ = some (.int .i64 0) := (blk_cell U1.out 1).trans rfl; have hfz216_0 := blk_frozen U1.out 0; have hfz216_1 := blk_frozen U1.out 1) | (go_at_call 10; (with_reducible refine (dot_Root.calls 0 0 t205 _ A204.out).mono ?_); rintro e w217 ⟨rfl, hb⟩; have n0_ := Aside0.mk (blk_below (g := gb148) (o := .cells #[.int .i64 t142, .int .i64 t143] 23 (0, 0)) (by (with_reducible repeat (first | apply blk_drewN | apply blk_drew | apply blk_alloc)); exact U8.out) hb); have n1_ := Aside0.mk (blk_below (g := gb149) (o := .cells #[.int .i64 t144, .int .i64 t145] 23 (0, 0)) (by (with_reducible repeat (first | apply blk_drewN | apply blk_drew | apply blk_alloc)); exact U9.out) hb); have n2_ := Aside0.mk (blk_below (g := gb150) (o := .cells #[.int .i64 t146, .int .i64 t147] 23 (0, 0)) (by (with_reducible repeat (first | apply blk_drewN | apply blk_drew | apply blk_alloc)); exact U0.out) hb); have n3_ := Aside0.mk (blk_below (g := gb151) (o := .cells #[.int .i64 0, .int .i64 0] 23 (0, 0)) (by (with_reducible repeat (first | apply blk_drewN | apply blk_drew | apply blk_alloc)); exact U1.out) hb); have n4_ := Aside0.mk (below_step (by repeat (first | (with_reducible first | exact HB.out | apply below_alloc | apply pw_below_drewN | apply below_drew1 | refine below_set ?_ V8.out | refine below_set ?_ V9.out | refine below_set ?_ V0.out | refine below_set ?_ V1.out) | exact HB.out)) hb); clear U8; clear U9; clear U0; clear U1; clear HB; have U8 := n0_; have U9 := n1_; have U0 := n2_; have U1 := n3_; have HB := n4_; clear n0_ n1_ n2_ n3_ n4_; (try clear hb); (try clear hb2); (try clear hk); (try clear hi)))
            go_meet
            case rel => exact ⟨_, (!t205), (by first | rfl | (simp; done) | (simp [*]; done)), H', ⟨by have := HJ3.out; have := HJ97.out; first | omega | exact Nat.le_refl _⟩, ⟨by (with_reducible repeat (first | apply blk_drewN | apply blk_drew | apply blk_alloc)); exact U8.out⟩, ⟨by (with_reducible repeat (first | apply blk_drewN | apply blk_drew | apply blk_alloc)); exact U9.out⟩, ⟨by (with_reducible repeat (first | apply blk_drewN | apply blk_drew | apply blk_alloc)); exact U0.out⟩, ⟨by (with_reducible repeat (first | apply blk_drewN | apply blk_drew | apply blk_alloc)); exact U1.out⟩, ⟨by repeat (first | (with_reducible first | exact HB.out | apply below_alloc | apply pw_below_drewN | apply below_drew1 | refine below_set ?_ V8.out | refine below_set ?_ V9.out | refine below_set ?_ V0.out | refine below_set ?_ V1.out) | exact HB.out)⟩⟩
        ·
         replace c174 := Bool.eq_false_iff.mpr c174
         subst c174
         have H1 : (redpencillaw04_known.j2 kj97 true t142 t143 0 0) = some true := by rw [if_neg (show ¬ (false = true) by decide)] at H; exact H
         exact absurd H1 (redpencillaw04_known.j2_no _ _ _ _ _)
       case rest =>
        clear HC171
        try clear c1
        try clear c2
        try clear p2
        try clear c3
        try clear c8
        try clear c10
        try clear c15
        try clear c17
        try clear c18
        try clear c19
        try clear c20
        try clear c21
        try clear c22
        try clear c34
        try clear c109
        try clear c170
        try clear c174
        try clear c177
        try clear c184
        try clear c192
        try clear c199
        try clear c200
        try clear c201
        try clear c211
        try clear c212
        try clear c213
        try clear hcz202_0
        try clear hcz202_1
        try clear hcz214_0
        try clear hcz214_1
        try clear hcz216_0
        try clear hcz216_1
        try clear hfz202_0
        try clear hfz202_1
        try clear hfz214_0
        try clear hfz214_1
        try clear hfz216_0
        try clear hfz216_1
        try clear p2
        obtain ⟨kq, x113_170, rfl, HA, HJ170, U8, U9, U0, U1, HB⟩ := hcut
        cases kq with
        | zero => exact absurd HA.out (by simp [redpencillaw04_known.j2])
        | succ kj170 =>
         have H := HA.out
         clear HA
         simp only [redpencillaw04_known.j2] at H
         by_cases c220 : x113_170 = true
         ·
          subst c220
          have H1 : (some false) = some true := by rw [if_pos rfl] at H; exact H
          exact absurd H1 (by simp)
         ·
          replace c220 := Bool.eq_false_iff.mpr c220
          subst c220
          have H1 : ((redpencillaw04_parses.f (⟨#[51, 46, 55]⟩ : ByteArray) t142 t143 0).bind fun t206 => (if t206 = true then ((redpencillaw04_parses.f (⟨#[114, 111, 111, 116]⟩ : ByteArray) 0 0 0).bind fun t207 => (if t207 = true then ((redpencillaw04_parses.f (⟨#[48, 46, 48]⟩ : ByteArray) 0 0 6).bind fun t208 => (if t208 = true then ((redpencillaw04_of.f 65 1).bind fun bt209 => ((redpencillaw04_texts.f bt209.1 bt209.2 (⟨#[]⟩ : ByteArray) 2).bind fun t211 => (if t211 = true then ((redpencillaw04_parses.f (⟨#[48, 51, 46, 55]⟩ : ByteArray) 0 0 6).bind fun t212 => (if t212 = true then ((redpencillaw04_parses.f (⟨#[51, 46, 52, 50, 57, 52, 57, 54, 55, 50, 57, 54]⟩ : ByteArray) 0 0 6).bind fun t213 => (if t213 = true then ((redpencillaw04_parses.f (⟨#[51]⟩ : ByteArray) 0 0 6).bind fun t214 => (some t214)) else (some false))) else (some false))) else (some false)))) else (some false))) else (some false))) else (some false))) = some true := by rw [if_neg (show ¬ (false = true) by decide)] at H; exact H
          clear H
          have H := H1
          clear H1
          replace H := Option.bind_eq_some_iff.mp H
          obtain ⟨t206, A2210, H⟩ := H
          replace H : (if t206 = true then ((redpencillaw04_parses.f (⟨#[114, 111, 111, 116]⟩ : ByteArray) 0 0 0).bind fun t207 => (if t207 = true then ((redpencillaw04_parses.f (⟨#[48, 46, 48]⟩ : ByteArray) 0 0 6).bind fun t208 => (if t208 = true then ((redpencillaw04_of.f 65 1).bind fun bt209 => ((redpencillaw04_texts.f bt209.1 bt209.2 (⟨#[]⟩ : ByteArray) 2).bind fun t211 => (if t211 = true then ((redpencillaw04_parses.f (⟨#[48, 51, 46, 55]⟩ : ByteArray) 0 0 6).bind fun t212 => (if t212 = true then ((redpencillaw04_parses.f (⟨#[51, 46, 52, 50, 57, 52, 57, 54, 55, 50, 57, 54]⟩ : ByteArray) 0 0 6).bind fun t213 => (if t213 = true then ((redpencillaw04_parses.f (⟨#[51]⟩ : ByteArray) 0 0 6).bind fun t214 => (some t214)) else (some false))) else (some false))) else (some false)))) else (some false))) else (some false))) else (some false)) = some true := H
          have A221 := Aside0.mk A2210
          clear A2210
          by_cases c222 : t206 = true
          ·
           subst c222
           have H1 : ((redpencillaw04_parses.f (⟨#[114, 111, 111, 116]⟩ : ByteArray) 0 0 0).bind fun t207 => (if t207 = true then ((redpencillaw04_parses.f (⟨#[48, 46, 48]⟩ : ByteArray) 0 0 6).bind fun t208 => (if t208 = true then ((redpencillaw04_of.f 65 1).bind fun bt209 => ((redpencillaw04_texts.f bt209.1 bt209.2 (⟨#[]⟩ : ByteArray) 2).bind fun t211 => (if t211 = true then ((redpencillaw04_parses.f (⟨#[48, 51, 46, 55]⟩ : ByteArray) 0 0 6).bind fun t212 => (if t212 = true then ((redpencillaw04_parses.f (⟨#[51, 46, 52, 50, 57, 52, 57, 54, 55, 50, 57, 54]⟩ : ByteArray) 0 0 6).bind fun t213 => (if t213 = true then ((redpencillaw04_parses.f (⟨#[51]⟩ : ByteArray) 0 0 6).bind fun t214 => (some t214)) else (some false))) else (some false))) else (some false)))) else (some false))) else (some false))) = some true := by rw [if_pos rfl] at H; exact H
           clear H
           have H := H1
           clear H1
           replace H := Option.bind_eq_some_iff.mp H
           obtain ⟨t207, A2230, H⟩ := H
           replace H : (if t207 = true then ((redpencillaw04_parses.f (⟨#[48, 46, 48]⟩ : ByteArray) 0 0 6).bind fun t208 => (if t208 = true then ((redpencillaw04_of.f 65 1).bind fun bt209 => ((redpencillaw04_texts.f bt209.1 bt209.2 (⟨#[]⟩ : ByteArray) 2).bind fun t211 => (if t211 = true then ((redpencillaw04_parses.f (⟨#[48, 51, 46, 55]⟩ : ByteArray) 0 0 6).bind fun t212 => (if t212 = true then ((redpencillaw04_parses.f (⟨#[51, 46, 52, 50, 57, 52, 57, 54, 55, 50, 57, 54]⟩ : ByteArray) 0 0 6).bind fun t213 => (if t213 = true then ((redpencillaw04_parses.f (⟨#[51]⟩ : ByteArray) 0 0 6).bind fun t214 => (some t214)) else (some false))) else (some false))) else (some false)))) else (some false))) else (some false)) = some true := H
           have A223 := Aside0.mk A2230
           clear A2230
           by_cases c224 : t207 = true
           ·
            subst c224
            have H1 : ((redpencillaw04_parses.f (⟨#[48, 46, 48]⟩ : ByteArray) 0 0 6).bind fun t208 => (if t208 = true then ((redpencillaw04_of.f 65 1).bind fun bt209 => ((redpencillaw04_texts.f bt209.1 bt209.2 (⟨#[]⟩ : ByteArray) 2).bind fun t211 => (if t211 = true then ((redpencillaw04_parses.f (⟨#[48, 51, 46, 55]⟩ : ByteArray) 0 0 6).bind fun t212 => (if t212 = true then ((redpencillaw04_parses.f (⟨#[51, 46, 52, 50, 57, 52, 57, 54, 55, 50, 57, 54]⟩ : ByteArray) 0 0 6).bind fun t213 => (if t213 = true then ((redpencillaw04_parses.f (⟨#[51]⟩ : ByteArray) 0 0 6).bind fun t214 => (some t214)) else (some false))) else (some false))) else (some false)))) else (some false))) = some true := by rw [if_pos rfl] at H; exact H
            clear H
            have H := H1
            clear H1
            replace H := Option.bind_eq_some_iff.mp H
            obtain ⟨t208, A2250, H⟩ := H
            replace H : (if t208 = true then ((redpencillaw04_of.f 65 1).bind fun bt209 => ((redpencillaw04_texts.f bt209.1 bt209.2 (⟨#[]⟩ : ByteArray) 2).bind fun t211 => (if t211 = true then ((redpencillaw04_parses.f (⟨#[48, 51, 46, 55]⟩ : ByteArray) 0 0 6).bind fun t212 => (if t212 = true then ((redpencillaw04_parses.f (⟨#[51, 46, 52, 50, 57, 52, 57, 54, 55, 50, 57, 54]⟩ : ByteArray) 0 0 6).bind fun t213 => (if t213 = true then ((redpencillaw04_parses.f (⟨#[51]⟩ : ByteArray) 0 0 6).bind fun t214 => (some t214)) else (some false))) else (some false))) else (some false)))) else (some false)) = some true := H
            have A225 := Aside0.mk A2250
            clear A2250
            by_cases c226 : t208 = true
            ·
             subst c226
             have H1 : ((redpencillaw04_of.f 65 1).bind fun bt209 => ((redpencillaw04_texts.f bt209.1 bt209.2 (⟨#[]⟩ : ByteArray) 2).bind fun t211 => (if t211 = true then ((redpencillaw04_parses.f (⟨#[48, 51, 46, 55]⟩ : ByteArray) 0 0 6).bind fun t212 => (if t212 = true then ((redpencillaw04_parses.f (⟨#[51, 46, 52, 50, 57, 52, 57, 54, 55, 50, 57, 54]⟩ : ByteArray) 0 0 6).bind fun t213 => (if t213 = true then ((redpencillaw04_parses.f (⟨#[51]⟩ : ByteArray) 0 0 6).bind fun t214 => (some t214)) else (some false))) else (some false))) else (some false)))) = some true := by rw [if_pos rfl] at H; exact H
             clear H
             have H := H1
             clear H1
             replace H := Option.bind_eq_some_iff.mp H
             obtain ⟨⟨t209, t210⟩, A2270, H⟩ := H
             replace H : ((redpencillaw04_texts.f t209 t210 (⟨#[]⟩ : ByteArray) 2).bind fun t211 => (if t211 = true then ((redpencillaw04_parses.f (⟨#[48, 51, 46, 55]⟩ : ByteArray) 0 0 6).bind fun t212 => (if t212 = true then ((redpencillaw04_parses.f (⟨#[51, 46, 52, 50, 57, 52, 57, 54, 55, 50, 57, 54]⟩ : ByteArray) 0 0 6).bind fun t213 => (if t213 = true then ((redpencillaw04_parses.f (⟨#[51]⟩ : ByteArray) 0 0 6).bind fun t214 => (some t214)) else (some false))) else (some false))) else (some false))) = some true := H
             have A227 := Aside0.mk A2270
             clear A2270
             replace H := Option.bind_eq_some_iff.mp H
             obtain ⟨t211, A2280, H⟩ := H
             replace H : (if t211 = true then ((redpencillaw04_parses.f (⟨#[48, 51, 46, 55]⟩ : ByteArray) 0 0 6).bind fun t212 => (if t212 = true then ((redpencillaw04_parses.f (⟨#[51, 46, 52, 50, 57, 52, 57, 54, 55, 50, 57, 54]⟩ : ByteArray) 0 0 6).bind fun t213 => (if t213 = true then ((redpencillaw04_parses.f (⟨#[51]⟩ : ByteArray) 0 0 6).bind fun t214 => (some t214)) else (some false))) else (some false))) else (some false)) = some true := H
             have A228 := Aside0.mk A2280
             clear A2280
             by_cases c229 : t211 = true
             ·
              subst c229
              have H1 : ((redpencillaw04_parses.f (⟨#[48, 51, 46, 55]⟩ : ByteArray) 0 0 6).bind fun t212 => (if t212 = true then ((redpencillaw04_parses.f (⟨#[51, 46, 52, 50, 57, 52, 57, 54, 55, 50, 57, 54]⟩ : ByteArray) 0 0 6).bind fun t213 => (if t213 = true then ((redpencillaw04_parses.f (⟨#[51]⟩ : ByteArray) 0 0 6).bind fun t214 => (some t214)) else (some false))) else (some false))) = some true := by rw [if_pos rfl] at H; exact H
              clear H
              have H := H1
              clear H1
              replace H := Option.bind_eq_some_iff.mp H
              obtain ⟨t212, A2300, H⟩ := H
              replace H : (if t212 = true then ((redpencillaw04_parses.f (⟨#[51, 46, 52, 50, 57, 52, 57, 54, 55, 50, 57, 54]⟩ : ByteArray) 0 0 6).bind fun t213 => (if t213 = true then ((redpencillaw04_parses.f (⟨#[51]⟩ : ByteArray) 0 0 6).bind fun t214 => (some t214)) else (some false))) else (some false)) = some true := H
              have A230 := Aside0.mk A2300
              clear A2300
              by_cases c231 : t212 = true
              ·
               subst c231
               have H1 : ((redpencillaw04_parses.f (⟨#[51, 46, 52, 50, 57, 52, 57, 54, 55, 50, 57, 54]⟩ : ByteArray) 0 0 6).bind fun t213 => (if t213 = true then ((redpencillaw04_parses.f (⟨#[51]⟩ : ByteArray) 0 0 6).bind fun t214 => (some t214)) else (some false))) = some true := by rw [if_pos rfl] at H; exact H
               clear H
               have H := H1
               clear H1
               replace H := Option.bind_eq_some_iff.mp H
               obtain ⟨t213, A2320, H⟩ := H
               replace H : (if t213 = true then ((redpencillaw04_parses.f (⟨#[51]⟩ : ByteArray) 0 0 6).bind fun t214 => (some t214)) else (some false)) = some true := H
               have A232 := Aside0.mk A2320
               clear A2320
               by_cases c233 : t213 = true
               ·
                subst c233
                have H1 : ((redpencillaw04_parses.f (⟨#[51]⟩ : ByteArray) 0 0 6).bind fun t214 => (some t214)) = some true := by rw [if_pos rfl] at H; exact H
                clear H
                have H := H1
                clear H1
                replace H := Option.bind_eq_some_iff.mp H
                obtain ⟨t214, A2340, H⟩ := H
                replace H : (some t214) = some true := H
                have A234 := Aside0.mk A2340
                clear A2340
                obtain rfl := Option.some.inj H
                have hnb235 := NB148_149.out
                have hnc235 := NB149_148.out
                have hnb236 := NB148_150.out
                have hnc236 := NB150_148.out
                have hnb237 := NB148_151.out
                have hnc237 := NB151_148.out
                have hcz238_0 : wc.cell? ⟨gb148, 0, none⟩ = some (.int .i64 t142) := (blk_cell U8.out 0).trans rfl
                have hcz238_1 : wc.cell? ⟨gb148, 1, none⟩ = some (.int .i64 t143) := (blk_cell U8.out 1).trans rfl
                have hfz238_0 := blk_frozen U8.out 0
                have hfz238_1 := blk_frozen U8.out 1
                go_wp2_with (first | ((with_reducible refine gate_callee (f := 29) rfl ?_); refine goesL_ (some 115) rfl rfl Tryd.func29 (by kernel_rfl) rfl #[.string (⟨#[51, 46, 55]⟩ : ByteArray), .agg #[.int .i64 t142, .int .i64 t143], .int .i64 0] rfl (by (try simp only [List.map_toArray, List.map_cons, List.map_nil]); first | done | rfl | (simp only [List.length_drop, List.length_take]; rfl)) ?_; (with_reducible refine (redpencillaw04_parses.calls (⟨#[51, 46, 55]⟩ : ByteArray) t142 t143 0 true _ ?side1 A221.out).mono ?_); (case side1 => exact GOK_below HG.out (by repeat (first | (with_reducible first | exact HB.out | apply below_alloc | apply pw_below_drewN | apply below_drew1 | refine below_set ?_ V8.out | refine below_set ?_ V9.out | refine below_set ?_ V0.out | refine below_set ?_ V1.out) | exact HB.out))); rintro e w239 ⟨rfl, hb⟩; refine ⟨_, rfl, ?_⟩; have n0_ := Aside0.mk (blk_below (g := gb148) (o := .cells #[.int .i64 t142, .int .i64 t143] 23 (0, 0)) (by (with_reducible repeat (first | apply blk_drewN | apply blk_drew | apply blk_alloc)); exact U8.out) hb); have n1_ := Aside0.mk (blk_below (g := gb149) (o := .cells #[.int .i64 t144, .int .i64 t145] 23 (0, 0)) (by (with_reducible repeat (first | apply blk_drewN | apply blk_drew | apply blk_alloc)); exact U9.out) hb); have n2_ := Aside0.mk (blk_below (g := gb150) (o := .cells #[.int .i64 t146, .int .i64 t147] 23 (0, 0)) (by (with_reducible repeat (first | apply blk_drewN | apply blk_drew | apply blk_alloc)); exact U0.out) hb); have n3_ := Aside0.mk (blk_below (g := gb151) (o := .cells #[.int .i64 0, .int .i64 0] 23 (0, 0)) (by (with_reducible repeat (first | apply blk_drewN | apply blk_drew | apply blk_alloc)); exact U1.out) hb); have n4_ := Aside0.mk (below_step (by repeat (first | (with_reducible first | exact HB.out | apply below_alloc | apply pw_below_drewN | apply below_drew1 | refine below_set ?_ V8.out | refine below_set ?_ V9.out | refine below_set ?_ V0.out | refine below_set ?_ V1.out) | exact HB.out)) hb); clear U8; clear U9; clear U0; clear U1; clear HB; have U8 := n0_; have U9 := n1_; have U0 := n2_; have U1 := n3_; have HB := n4_; clear n0_ n1_ n2_ n3_ n4_; (try clear hb); (try clear hb2); (try clear hk); (try clear hi); have hnb240 := NB151_149.out; have hnc240 := NB149_151.out; have hnb241 := NB151_150.out; have hnc241 := NB150_151.out; have hcz242_0 : w239.cell? ⟨gb151, 0, none⟩ = some (.int .i64 0) := (blk_cell U1.out 0).trans rfl; have hcz242_1 : w239.cell? ⟨gb151, 1, none⟩ = some (.int .i64 0) := (blk_cell U1.out 1).trans rfl; have hfz242_0 := blk_frozen U1.out 0; have hfz242_1 := blk_frozen U1.out 1) | (go_at_call 29; (with_reducible refine (redpencillaw04_parses.calls (⟨#[114, 111, 111, 116]⟩ : ByteArray) 0 0 0 true _ ?side1 A223.out).mono ?_); (case side1 => exact GOK_below HG.out (by repeat (first | (with_reducible first | exact HB.out | apply below_alloc | apply pw_below_drewN | apply below_drew1 | refine below_set ?_ V8.out | refine below_set ?_ V9.out | refine below_set ?_ V0.out | refine below_set ?_ V1.out) | exact HB.out))); rintro e w243 ⟨rfl, hb⟩; have n0_ := Aside0.mk (blk_below (g := gb148) (o := .cells #[.int .i64 t142, .int .i64 t143] 23 (0, 0)) (by (with_reducible repeat (first | apply blk_drewN | apply blk_drew | apply blk_alloc)); exact U8.out) hb); have n1_ := Aside0.mk (blk_below (g := gb149) (o := .cells #[.int .i64 t144, .int .i64 t145] 23 (0, 0)) (by (with_reducible repeat (first | apply blk_drewN | apply blk_drew | apply blk_alloc)); exact U9.out) hb); have n2_ := Aside0.mk (blk_below (g := gb150) (o := .cells #[.int .i64 t146, .int .i64 t147] 23 (0, 0)) (by (with_reducible repeat (first | apply blk_drewN | apply blk_drew | apply blk_alloc)); exact U0.out) hb); have n3_ := Aside0.mk (blk_below (g := gb151) (o := .cells #[.int .i64 0, .int .i64 0] 23 (0, 0)) (by (with_reducible repeat (first | apply blk_drewN | apply blk_drew | apply blk_alloc)); exact U1.out) hb); have n4_ := Aside0.mk (below_step (by repeat (first | (with_reducible first | exact HB.out | apply below_alloc | apply pw_below_drewN | apply below_drew1 | refine below_set ?_ V8.out | refine below_set ?_ V9.out | refine below_set ?_ V0.out | refine below_set ?_ V1.out) | exact HB.out)) hb); clear U8; clear U9; clear U0; clear U1; clear HB; have U8 := n0_; have U9 := n1_; have U0 := n2_; have U1 := n3_; have HB := n4_; clear n0_ n1_ n2_ n3_ n4_; (try clear hb); (try clear hb2); (try clear hk); (try clear hi); have hcz244_0 : w243.cell? ⟨gb151, 0, none⟩ = some (.int .i64 0) := (blk_cell U1.out 0).trans rfl; have hcz244_1 : w243.cell? ⟨gb151, 1, none⟩ = some (.int .i64 0) := (blk_cell U1.out 1).trans rfl; have hfz244_0 := blk_frozen U1.out 0; have hfz244_1 := blk_frozen U1.out 1) | (go_at_call 29; (with_reducible refine (redpencillaw04_parses.calls (⟨#[48, 46, 48]⟩ : ByteArray) 0 0 6 true _ ?side1 A225.out).mono ?_); (case side1 => exact GOK_below HG.out (by repeat (first | (with_reducible first | exact HB.out | apply below_alloc | apply pw_below_drewN | apply below_drew1 | refine below_set ?_ V8.out | refine below_set ?_ V9.out | refine below_set ?_ V0.out | refine below_set ?_ V1.out) | exact HB.out))); rintro e w245 ⟨rfl, hb⟩; have n0_ := Aside0.mk (blk_below (g := gb148) (o := .cells #[.int .i64 t142, .int .i64 t143] 23 (0, 0)) (by (with_reducible repeat (first | apply blk_drewN | apply blk_drew | apply blk_alloc)); exact U8.out) hb); have n1_ := Aside0.mk (blk_below (g := gb149) (o := .cells #[.int .i64 t144, .int .i64 t145] 23 (0, 0)) (by (with_reducible repeat (first | apply blk_drewN | apply blk_drew | apply blk_alloc)); exact U9.out) hb); have n2_ := Aside0.mk (blk_below (g := gb150) (o := .cells #[.int .i64 t146, .int .i64 t147] 23 (0, 0)) (by (with_reducible repeat (first | apply blk_drewN | apply blk_drew | apply blk_alloc)); exact U0.out) hb); have n3_ := Aside0.mk (blk_below (g := gb151) (o := .cells #[.int .i64 0, .int .i64 0] 23 (0, 0)) (by (with_reducible repeat (first | apply blk_drewN | apply blk_drew | apply blk_alloc)); exact U1.out) hb); have n4_ := Aside0.mk (below_step (by repeat (first | (with_reducible first | exact HB.out | apply below_alloc | apply pw_below_drewN | apply below_drew1 | refine below_set ?_ V8.out | refine below_set ?_ V9.out | refine below_set ?_ V0.out | refine below_set ?_ V1.out) | exact HB.out)) hb); clear U8; clear U9; clear U0; clear U1; clear HB; have U8 := n0_; have U9 := n1_; have U0 := n2_; have U1 := n3_; have HB := n4_; clear n0_ n1_ n2_ n3_ n4_; (try clear hb); (try clear hb2); (try clear hk); (try clear hi)) | (go_at_call 34; (with_reducible refine (redpencillaw04_of.calls 65 1 t209 t210 _ A227.out).mono ?_); rintro e w246 ⟨rfl, hb⟩; have n0_ := Aside0.mk (blk_below (g := gb148) (o := .cells #[.int .i64 t142, .int .i64 t143] 23 (0, 0)) (by (with_reducible repeat (first | apply blk_drewN | apply blk_drew | apply blk_alloc)); exact U8.out) hb); have n1_ := Aside0.mk (blk_below (g := gb149) (o := .cells #[.int .i64 t144, .int .i64 t145] 23 (0, 0)) (by (with_reducible repeat (first | apply blk_drewN | apply blk_drew | apply blk_alloc)); exact U9.out) hb); have n2_ := Aside0.mk (blk_below (g := gb150) (o := .cells #[.int .i64 t146, .int .i64 t147] 23 (0, 0)) (by (with_reducible repeat (first | apply blk_drewN | apply blk_drew | apply blk_alloc)); exact U0.out) hb); have n3_ := Aside0.mk (blk_below (g := gb151) (o := .cells #[.int .i64 0, .int .i64 0] 23 (0, 0)) (by (with_reducible repeat (first | apply blk_drewN | apply blk_drew | apply blk_alloc)); exact U1.out) hb); have n4_ := Aside0.mk (below_step (by repeat (first | (with_reducible first | exact HB.out | apply below_alloc | apply pw_below_drewN | apply below_drew1 | refine below_set ?_ V8.out | refine below_set ?_ V9.out | refine below_set ?_ V0.out | refine below_set ?_ V1.out) | exact HB.out)) hb); clear U8; clear U9; clear U0; clear U1; clear HB; have U8 := n0_; have U9 := n1_; have U0 := n2_; have U1 := n3_; have HB := n4_; clear n0_ n1_ n2_ n3_ n4_; (try clear hb); (try clear hb2); (try clear hk); (try clear hi)) | (go_at_call 26; (with_reducible refine (redpencillaw04_texts.calls t209 t210 (⟨#[]⟩ : ByteArray) 2 true _ ?side1 A228.out).mono ?_); (case side1 => exact GOK_below HG.out (by repeat (first | (with_reducible first | exact HB.out | apply below_alloc | apply pw_below_drewN | apply below_drew1 | refine below_set ?_ V8.out | refine below_set ?_ V9.out | refine below_set ?_ V0.out | refine below_set ?_ V1.out) | exact HB.out))); rintro e w247 ⟨rfl, hb⟩; have n0_ := Aside0.mk (blk_below (g := gb148) (o := .cells #[.int .i64 t142, .int .i64 t143] 23 (0, 0)) (by (with_reducible repeat (first | apply blk_drewN | apply blk_drew | apply blk_alloc)); exact U8.out) hb); have n1_ := Aside0.mk (blk_below (g := gb149) (o := .cells #[.int .i64 t144, .int .i64 t145] 23 (0, 0)) (by (with_reducible repeat (first | apply blk_drewN | apply blk_drew | apply blk_alloc)); exact U9.out) hb); have n2_ := Aside0.mk (blk_below (g := gb150) (o := .cells #[.int .i64 t146, .int .i64 t147] 23 (0, 0)) (by (with_reducible repeat (first | apply blk_drewN | apply blk_drew | apply blk_alloc)); exact U0.out) hb); have n3_ := Aside0.mk (blk_below (g := gb151) (o := .cells #[.int .i64 0, .int .i64 0] 23 (0, 0)) (by (with_reducible repeat (first | apply blk_drewN | apply blk_drew | apply blk_alloc)); exact U1.out) hb); have n4_ := Aside0.mk (below_step (by repeat (first | (with_reducible first | exact HB.out | apply below_alloc | apply pw_below_drewN | apply below_drew1 | refine below_set ?_ V8.out | refine below_set ?_ V9.out | refine below_set ?_ V0.out | refine below_set ?_ V1.out) | exact HB.out)) hb); clear U8; clear U9; clear U0; clear U1; clear HB; have U8 := n0_; have U9 := n1_; have U0 := n2_; have U1 := n3_; have HB := n4_; clear n0_ n1_ n2_ n3_ n4_; (try clear hb); (try clear hb2); (try clear hk); (try clear hi); have hcz248_0 : w247.cell? ⟨gb151, 0, none⟩ = some (.int .i64 0) := (blk_cell U1.out 0).trans rfl; have hcz248_1 : w247.cell? ⟨gb151, 1, none⟩ = some (.int .i64 0) := (blk_cell U1.out 1).trans rfl; have hfz248_0 := blk_frozen U1.out 0; have hfz248_1 := blk_frozen U1.out 1) | (go_at_call 29; (with_reducible refine (redpencillaw04_parses.calls (⟨#[48, 51, 46, 55]⟩ : ByteArray) 0 0 6 true _ ?side1 A230.out).mono ?_); (case side1 => exact GOK_below HG.out (by repeat (first | (with_reducible first | exact HB.out | apply below_alloc | apply pw_below_drewN | apply below_drew1 | refine below_set ?_ V8.out | refine below_set ?_ V9.out | refine below_set ?_ V0.out | refine below_set ?_ V1.out) | exact HB.out))); rintro e w249 ⟨rfl, hb⟩; have n0_ := Aside0.mk (blk_below (g := gb148) (o := .cells #[.int .i64 t142, .int .i64 t143] 23 (0, 0)) (by (with_reducible repeat (first | apply blk_drewN | apply blk_drew | apply blk_alloc)); exact U8.out) hb); have n1_ := Aside0.mk (blk_below (g := gb149) (o := .cells #[.int .i64 t144, .int .i64 t145] 23 (0, 0)) (by (with_reducible repeat (first | apply blk_drewN | apply blk_drew | apply blk_alloc)); exact U9.out) hb); have n2_ := Aside0.mk (blk_below (g := gb150) (o := .cells #[.int .i64 t146, .int .i64 t147] 23 (0, 0)) (by (with_reducible repeat (first | apply blk_drewN | apply blk_drew | apply blk_alloc)); exact U0.out) hb); have n3_ := Aside0.mk (blk_below (g := gb151) (o := .cells #[.int .i64 0, .int .i64 0] 23 (0, 0)) (by (with_reducible repeat (first | apply blk_drewN | apply blk_drew | apply blk_alloc)); exact U1.out) hb); have n4_ := Aside0.mk (below_step (by repeat (first | (with_reducible first | exact HB.out | apply below_alloc | apply pw_below_drewN | apply below_drew1 | refine below_set ?_ V8.out | refine below_set ?_ V9.out | refine below_set ?_ V0.out | refine below_set ?_ V1.out) | exact HB.out)) hb); clear U8; clear U9; clear U0; clear U1; clear HB; have U8 := n0_; have U9 := n1_; have U0 := n2_; have U1 := n3_; have HB := n4_; clear n0_ n1_ n2_ n3_ n4_; (try clear hb); (try clear hb2); (try clear hk); (try clear hi); have hcz250_0 : w249.cell? ⟨gb151, 0, none⟩ = some (.int .i64 0) := (blk_cell U1.out 0).trans rfl; have hcz250_1 : w249.cell? ⟨gb151, 1, none⟩ = some (.int .i64 0) := (blk_cell U1.out 1).trans rfl; have hfz250_0 := blk_frozen U1.out 0; have hfz250_1 := blk_frozen U1.out 1) | (go_at_call 29; (with_reducible refine (redpencillaw04_parses.calls (⟨#[51, 46, 52, 50, 57, 52, 57, 54, 55, 50, 57, 54]⟩ : ByteArray) 0 0 6 true _ ?side1 A232.out).mono ?_); (case side1 => exact GOK_below HG.out (by repeat (first | (with_reducible first | exact HB.out | apply below_alloc | apply pw_below_drewN | apply below_drew1 | refine below_set ?_ V8.out | refine below_set ?_ V9.out | refine below_set ?_ V0.out | refine below_set ?_ V1.out) | exact HB.out))); rintro e w251 ⟨rfl, hb⟩; have n0_ := Aside0.mk (blk_below (g := gb148) (o := .cells #[.int .i64 t142, .int .i64 t143] 23 (0, 0)) (by (with_reducible repeat (first | apply blk_drewN | apply blk_drew | apply blk_alloc)); exact U8.out) hb); have n1_ := Aside0.mk (blk_below (g := gb149) (o := .cells #[.int .i64 t144, .int .i64 t145] 23 (0, 0)) (by (with_reducible repeat (first | apply blk_drewN | apply blk_drew | apply blk_alloc)); exact U9.out) hb); have n2_ := Aside0.mk (blk_below (g := gb150) (o := .cells #[.int .i64 t146, .int .i64 t147] 23 (0, 0)) (by (with_reducible repeat (first | apply blk_drewN | apply blk_drew | apply blk_alloc)); exact U0.out) hb); have n3_ := Aside0.mk (blk_below (g := gb151) (o := .cells #[.int .i64 0, .int .i64 0] 23 (0, 0)) (by (with_reducible repeat (first | apply blk_drewN | apply blk_drew | apply blk_alloc)); exact U1.out) hb); have n4_ := Aside0.mk (below_step (by repeat (first | (with_reducible first | exact HB.out | apply below_alloc | apply pw_below_drewN | apply below_drew1 | refine below_set ?_ V8.out | refine below_set ?_ V9.out | refine below_set ?_ V0.out | refine below_set ?_ V1.out) | exact HB.out)) hb); clear U8; clear U9; clear U0; clear U1; clear HB; have U8 := n0_; have U9 := n1_; have U0 := n2_; have U1 := n3_; have HB := n4_; clear n0_ n1_ n2_ n3_ n4_; (try clear hb); (try clear hb2); (try clear hk); (try clear hi); have hcz252_0 : w251.cell? ⟨gb151, 0, none⟩ = some (.int .i64 0) := (blk_cell U1.out 0).trans rfl; have hcz252_1 : w251.cell? ⟨gb151, 1, none⟩ = some (.int .i64 0) := (blk_cell U1.out 1).trans rfl; have hfz252_0 := blk_frozen U1.out 0; have hfz252_1 := blk_frozen U1.out 1) | (go_at_call 29; (with_reducible refine (redpencillaw04_parses.calls (⟨#[51]⟩ : ByteArray) 0 0 6 true _ ?side1 A234.out).mono ?_); (case side1 => exact GOK_below HG.out (by repeat (first | (with_reducible first | exact HB.out | apply below_alloc | apply pw_below_drewN | apply below_drew1 | refine below_set ?_ V8.out | refine below_set ?_ V9.out | refine below_set ?_ V0.out | refine below_set ?_ V1.out) | exact HB.out))); rintro e w253 ⟨rfl, hb⟩; have n0_ := Aside0.mk (blk_below (g := gb148) (o := .cells #[.int .i64 t142, .int .i64 t143] 23 (0, 0)) (by (with_reducible repeat (first | apply blk_drewN | apply blk_drew | apply blk_alloc)); exact U8.out) hb); have n1_ := Aside0.mk (blk_below (g := gb149) (o := .cells #[.int .i64 t144, .int .i64 t145] 23 (0, 0)) (by (with_reducible repeat (first | apply blk_drewN | apply blk_drew | apply blk_alloc)); exact U9.out) hb); have n2_ := Aside0.mk (blk_below (g := gb150) (o := .cells #[.int .i64 t146, .int .i64 t147] 23 (0, 0)) (by (with_reducible repeat (first | apply blk_drewN | apply blk_drew | apply blk_alloc)); exact U0.out) hb); have n3_ := Aside0.mk (blk_below (g := gb151) (o := .cells #[.int .i64 0, .int .i64 0] 23 (0, 0)) (by (with_reducible repeat (first | apply blk_drewN | apply blk_drew | apply blk_alloc)); exact U1.out) hb); have n4_ := Aside0.mk (below_step (by repeat (first | (with_reducible first | exact HB.out | apply below_alloc | apply pw_below_drewN | apply below_drew1 | refine below_set ?_ V8.out | refine below_set ?_ V9.out | refine below_set ?_ V0.out | refine below_set ?_ V1.out) | exact HB.out)) hb); clear U8; clear U9; clear U0; clear U1; clear HB; have U8 := n0_; have U9 := n1_; have U0 := n2_; have U1 := n3_; have HB := n4_; clear n0_ n1_ n2_ n3_ n4_; (try clear hb); (try clear hb2); (try clear hk); (try clear hi)))
                go_ret
                exact ⟨by first | rfl | (simp [errW_none, errW_some] <;> rfl) | (simp [*, errW_none, errW_some] <;> rfl), by repeat (first | (with_reducible first | exact HB.out | apply below_alloc | apply pw_below_drewN | apply below_drew1 | refine below_set ?_ V8.out | refine below_set ?_ V9.out | refine below_set ?_ V0.out | refine below_set ?_ V1.out) | exact HB.out)⟩
               ·
                replace c233 := Bool.eq_false_iff.mpr c233
                subst c233
                have H1 : (some false) = some true := by rw [if_neg (show ¬ (false = true) by decide)] at H; exact H
                exact absurd H1 (by simp)
              ·
               replace c231 := Bool.eq_false_iff.mpr c231
               subst c231
               have H1 : (some false) = some true := by rw [if_neg (show ¬ (false = true) by decide)] at H; exact H
               exact absurd H1 (by simp)
             ·
              replace c229 := Bool.eq_false_iff.mpr c229
              subst c229
              have H1 : (some false) = some true := by rw [if_neg (show ¬ (false = true) by decide)] at H; exact H
              exact absurd H1 (by simp)
            ·
             replace c226 := Bool.eq_false_iff.mpr c226
             subst c226
             have H1 : (some false) = some true := by rw [if_neg (show ¬ (false = true) by decide)] at H; exact H
             exact absurd H1 (by simp)
           ·
            replace c224 := Bool.eq_false_iff.mpr c224
            subst c224
            have H1 : (some false) = some true := by rw [if_neg (show ¬ (false = true) by decide)] at H; exact H
            exact absurd H1 (by simp)
          ·
           replace c222 := Bool.eq_false_iff.mpr c222
           subst c222
           have H1 : (some false) = some true := by rw [if_neg (show ¬ (false = true) by decide)] at H; exact H
           exact absurd H1 (by simp)
theorem redpencillaw04_known.at_ : redpencillaw04_known.f 60 = some true := by decide +kernel
theorem redpencillaw04_known.up_ : ∀ n, redpencillaw04_known.f (60 + n) = some true
  | 0 => redpencillaw04_known.at_
  | n + 1 => redpencillaw04_known.mono (60 + n) _ (redpencillaw04_known.up_ n)
theorem redpencillaw04_known.calls (k : Nat)  (r : Bool) (w : World) (hG : GOK w) (h : redpencillaw04_known.f k  = some r) :
  Calls Tryd.prog 14 #[] w fun e w' => e = .returned (.bool r) ∧ Below w.heap.size w w' := by
  have hr : r = true := by
    have hm : ∀ n, redpencillaw04_known.f (k + n) = some r := by
      intro n
      induction n with
      | zero => exact h
      | succ n ih => exact redpencillaw04_known.mono (k + n) _ ih
    have h1 := hm 60
    have h2 := redpencillaw04_known.up_ k
    rw [Nat.add_comm] at h1
    rw [h1] at h2
    exact Option.some.inj h2
  subst hr
  exact redpencillaw04_known.callsT k w hG h
end Go.Proofs.YtcmicaheakkgdaaDoor.PAll
