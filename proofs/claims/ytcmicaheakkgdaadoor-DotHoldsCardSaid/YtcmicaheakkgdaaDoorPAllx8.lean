-- Printed by a program of this session (wip/tools/mkprint2.py) out of the translation; Lean checks it. -- narrowed
import Derived.Test.YtcmicaheakkgdaaDoorPAllx0
import Derived.Test.YtcmicaheakkgdaaDoorPAllx1
import Derived.Test.YtcmicaheakkgdaaDoorPAllx2
import Derived.Test.YtcmicaheakkgdaaDoorPAllx3k
import Derived.Test.YtcmicaheakkgdaaDoorDmb
namespace Go.Proofs.YtcmicaheakkgdaaDoor.PAll
open Go.RowKit Go.Proofs.YtcmicaheakkgdaaDoorW.PrintWords Go.Proofs.YtcmicaheakkgdaaDoorW.PrintLast Go.Proofs.YtcmicaheakkgdaaDoorW.PrintMore
attribute [local go_sem] max2_int min2_int max_two min_two max_three min_three max_four min_four   -- for this text's walks alone
set_option linter.unusedVariables false
set_option linter.unusedSimpArgs false

attribute [local go_sem high] eqA23
/-! ### redpencillaw04_DotHolds: function 7 -/
mutual
def redpencillaw04_DotHolds.j0 : Nat → List (S23) → List (S23) → Bool → Int → Int → Int → Int → Int → Int → Option (Bool)
 | 0, _, _, _, _, _, _, _, _, _ => none
 | k + 1, x0, x1, x27, x297000, x297001, x298000, x298001, x299000, x299001 => if x27 = true then ((redpencillaw04_known.f k).bind fun t299 => (some t299)) else ((dot_Compare.f k x297000 x297001 x298000 x298001).bind fun t300 => ((dot_Compare.f k x298000 x298001 x299000 x299001).bind fun t301 => ((dot_Compare.f k x297000 x297001 x299000 x299001).bind fun t302 => (if t300 < 0 then (if t301 < 0 then (if t302 ≥ 0 then (redpencillaw04_DotHolds.j1 k x0 x1 true x297000 x297001) else (if t300 > 0 then (if t301 > 0 then (if t302 ≤ 0 then (redpencillaw04_DotHolds.j1 k x0 x1 true x297000 x297001) else (if ((t300 == 0) != (x297000 == x298000 && (x297001 == x298001))) = true then (redpencillaw04_DotHolds.j1 k x0 x1 true x297000 x297001) else ((dot_Compare.f k x298000 x298001 x297000 x297001).bind fun t303 => (redpencillaw04_DotHolds.j1 k x0 x1 (t303 != (wrap64 (-t300))) x297000 x297001)))) else (if ((t300 == 0) != (x297000 == x298000 && (x297001 == x298001))) = true then (redpencillaw04_DotHolds.j1 k x0 x1 true x297000 x297001) else ((dot_Compare.f k x298000 x298001 x297000 x297001).bind fun t304 => (redpencillaw04_DotHolds.j1 k x0 x1 (t304 != (wrap64 (-t300))) x297000 x297001)))) else (if ((t300 == 0) != (x297000 == x298000 && (x297001 == x298001))) = true then (redpencillaw04_DotHolds.j1 k x0 x1 true x297000 x297001) else ((dot_Compare.f k x298000 x298001 x297000 x297001).bind fun t305 => (redpencillaw04_DotHolds.j1 k x0 x1 (t305 != (wrap64 (-t300))) x297000 x297001))))) else (if t300 > 0 then (if t301 > 0 then (if t302 ≤ 0 then (redpencillaw04_DotHolds.j1 k x0 x1 true x297000 x297001) else (if ((t300 == 0) != (x297000 == x298000 && (x297001 == x298001))) = true then (redpencillaw04_DotHolds.j1 k x0 x1 true x297000 x297001) else ((dot_Compare.f k x298000 x298001 x297000 x297001).bind fun t306 => (redpencillaw04_DotHolds.j1 k x0 x1 (t306 != (wrap64 (-t300))) x297000 x297001)))) else (if ((t300 == 0) != (x297000 == x298000 && (x297001 == x298001))) = true then (redpencillaw04_DotHolds.j1 k x0 x1 true x297000 x297001) else ((dot_Compare.f k x298000 x298001 x297000 x297001).bind fun t307 => (redpencillaw04_DotHolds.j1 k x0 x1 (t307 != (wrap64 (-t300))) x297000 x297001)))) else (if ((t300 == 0) != (x297000 == x298000 && (x297001 == x298001))) = true then (redpencillaw04_DotHolds.j1 k x0 x1 true x297000 x297001) else ((dot_Compare.f k x298000 x298001 x297000 x297001).bind fun t308 => (redpencillaw04_DotHolds.j1 k x0 x1 (t308 != (wrap64 (-t300))) x297000 x297001))))) else (if t300 > 0 then (if t301 > 0 then (if t302 ≤ 0 then (redpencillaw04_DotHolds.j1 k x0 x1 true x297000 x297001) else (if ((t300 == 0) != (x297000 == x298000 && (x297001 == x298001))) = true then (redpencillaw04_DotHolds.j1 k x0 x1 true x297000 x297001) else ((dot_Compare.f k x298000 x298001 x297000 x297001).bind fun t309 => (redpencillaw04_DotHolds.j1 k x0 x1 (t309 != (wrap64 (-t300))) x297000 x297001)))) else (if ((t300 == 0) != (x297000 == x298000 && (x297001 == x298001))) = true then (redpencillaw04_DotHolds.j1 k x0 x1 true x297000 x297001) else ((dot_Compare.f k x298000 x298001 x297000 x297001).bind fun t310 => (redpencillaw04_DotHolds.j1 k x0 x1 (t310 != (wrap64 (-t300))) x297000 x297001)))) else (if ((t300 == 0) != (x297000 == x298000 && (x297001 == x298001))) = true then (redpencillaw04_DotHolds.j1 k x0 x1 true x297000 x297001) else ((dot_Compare.f k x298000 x298001 x297000 x297001).bind fun t311 => (redpencillaw04_DotHolds.j1 k x0 x1 (t311 != (wrap64 (-t300))) x297000 x297001))))))))
def redpencillaw04_DotHolds.j1 : Nat → List (S23) → List (S23) → Bool → Int → Int → Option (Bool)
 | 0, _, _, _, _, _ => none
 | k + 1, x0, x1, x75, x297000, x297001 => if x75 = true then (some false) else ((dot_Set.f x0).bind fun t312 => ((dot_IsSet.f k t312).bind fun t315 => (if t315 = true then ((dot_Set.f t312).bind fun t316 => ((redpencilref04_Same.f k t316 t312).bind fun t319 => (if t319 = true then ((dot_Union.f x0 x1).bind fun t320 => ((dot_Union.f x1 x0).bind fun t323 => ((redpencilref04_Same.f k t320 t323).bind fun t326 => (redpencillaw04_DotHolds.j2 k x0 x1 t312 (!t326) x297000 x297001)))) else (redpencillaw04_DotHolds.j2 k x0 x1 t312 true x297000 x297001)))) else (redpencillaw04_DotHolds.j2 k x0 x1 t312 true x297000 x297001))))
def redpencillaw04_DotHolds.j2 : Nat → List (S23) → List (S23) → List (S23) → Bool → Int → Int → Option (Bool)
 | 0, _, _, _, _, _, _ => none
 | k + 1, x0, x1, x14, x97, x297000, x297001 => if x97 = true then (some false) else ((dot_Minus.f x0 x1).bind fun t327 => ((dot_Union.f t327 x1).bind fun t330 => ((dot_Union.f x0 x1).bind fun t333 => ((redpencilref04_Same.f k t330 t333).bind fun t336 => (if t336 = true then ((dot_IsSet.f k t327).bind fun t337 => (if t337 = true then ((dot_Minus.f t327 x14).bind fun t338 => (redpencillaw04_DotHolds.j3 k x1 t327 ((t338.length : Int) != 0) x297000 x297001)) else (redpencillaw04_DotHolds.j3 k x1 t327 true x297000 x297001))) else (redpencillaw04_DotHolds.j3 k x1 t327 true x297000 x297001))))))
def redpencillaw04_DotHolds.j3 : Nat → List (S23) → List (S23) → Bool → Int → Int → Option (Bool)
 | 0, _, _, _, _, _ => none
 | k + 1, x1, x15, x120, x297000, x297001 => if x120 = true then (some false) else (redpencillaw04_DotHolds.l0 k x15 x1 (x1.length : Int) 0 x297000 x297001)
def redpencillaw04_DotHolds.l0 : Nat → List (S23) → List (S23) → Int → Int → Int → Int → Option (Bool)
 | 0, _, _, _, _, _, _ => none
 | k + 1, x15, x121, x122, x123, x297000, x297001 => if x123 < x122 then (if 0 ≤ x123 then (if x123 < (x121.length : Int) then ((dot_Has.f k x15 ((rd_T23 x121 x123).f0) ((rd_T23 x121 x123).f1)).bind fun t343 => (if t343 = true then (some false) else (redpencillaw04_DotHolds.l0 k x15 x121 x122 (wrap64 (x123 + 1)) x297000 x297001))) else (none)) else (none)) else ((dot_Text.f x297000 x297001).bind fun bt344 => ((dot_Valid.f x297000 x297001).bind fun t346 => (if t346 = true then (if ((bt344.2 == 0) != true) = true then (some false) else (if bt344.2 = 0 then ((redpencillaw04_parses.f bt344.1 x297000 x297001 0).bind fun t347 => (if t347 = true then ((redpencillaw04_known.f k).bind fun t348 => (some t348)) else (some false))) else ((redpencillaw04_known.f k).bind fun t349 => (some t349)))) else ((dot_Root.f x297000 x297001).bind fun t350 => (if ((bt344.2 == 0) != t350) = true then (some false) else (if bt344.2 = 0 then ((redpencillaw04_parses.f bt344.1 x297000 x297001 0).bind fun t351 => (if t351 = true then ((redpencillaw04_known.f k).bind fun t352 => (some t352)) else (some false))) else ((redpencillaw04_known.f k).bind fun t353 => (some t353))))))))
end
def redpencillaw04_DotHolds.f (k : Nat) (l0 : List (S23)) (l1 : List (S23)) (a2_0 : Int) (a2_1 : Int) (a3_0 : Int) (a3_1 : Int) (a4_0 : Int) (a4_1 : Int) : Option (Bool) := if (l0.length : Int) > 60 then (redpencillaw04_DotHolds.j0 k l0 l1 true a2_0 a2_1 a3_0 a3_1 a4_0 a4_1) else (redpencillaw04_DotHolds.j0 k l0 l1 (decide ((l1.length : Int) > 60)) a2_0 a2_1 a3_0 a3_1 a4_0 a4_1)
def redpencillaw04_DotHolds.T3 : Bool × List (List Nat × List Nat) := (true, [([], []), ([], []), ([0, 1], [0, 1]), ([], []), ([], []), ([3, 4, 2], [3, 4]), ([], []), ([], []), ([6, 7, 5], [6, 7]), ([2, 8, 0, 1, 2], [2]), ([5, 9, 0, 1, 2, 3, 4, 5, 9], [5]), ([8, 10, 0, 1, 2, 3, 4, 5, 6, 7, 8, 9, 10], [8])])
def redpencillaw04_DotHolds.B3 : List Nat := [0, 0, 3, 0, 0, 31, 0, 0, 255, 511, 1023, 2047]
theorem redpencillaw04_DotHolds.tab3 : rtab .any (opsOf Tryd.f7 3) = redpencillaw04_DotHolds.T3 := by kernel_rfl
theorem redpencillaw04_DotHolds.bits3 : waitsOk redpencillaw04_DotHolds.T3.2 redpencillaw04_DotHolds.B3 = true := by kernel_rfl
theorem redpencillaw04_DotHolds.j1_no : ∀ k y0 y1 y3 y4, ¬ redpencillaw04_DotHolds.j1 k y0 y1 true y3 y4 = some true := by
  intro k y0 y1 y3 y4
  cases k with
  | zero => rw [redpencillaw04_DotHolds.j1]; simp
  | succ k => rw [redpencillaw04_DotHolds.j1]; simp
theorem redpencillaw04_DotHolds.j2_no : ∀ k y0 y1 y2 y4 y5, ¬ redpencillaw04_DotHolds.j2 k y0 y1 y2 true y4 y5 = some true := by
  intro k y0 y1 y2 y4 y5
  cases k with
  | zero => rw [redpencillaw04_DotHolds.j2]; simp
  | succ k => rw [redpencillaw04_DotHolds.j2]; simp
theorem redpencillaw04_DotHolds.j3_no : ∀ k y0 y1 y3 y4, ¬ redpencillaw04_DotHolds.j3 k y0 y1 true y3 y4 = some true := by
  intro k y0 y1 y3 y4
  cases k with
  | zero => rw [redpencillaw04_DotHolds.j3]; simp
  | succ k => rw [redpencillaw04_DotHolds.j3]; simp
set_option maxHeartbeats 8000000 in
set_option maxRecDepth 100000 in
theorem redpencillaw04_DotHolds.calls (k : Nat) (A0 : Option Addr) (c0 : Nat) (l0 : List (S23)) (A1 : Option Addr) (c1 : Nat) (l1 : List (S23)) (a2_0 : Int) (a2_1 : Int) (a3_0 : Int) (a3_1 : Int) (a4_0 : Int) (a4_1 : Int) (w : World) (hG : GOK w) (hr0 : Kd.C k23 w A0 l0.length l0) (hc0 : l0.length ≤ c0) (hr1 : Kd.C k23 w A1 l1.length l1) (hc1 : l1.length ≤ c1) (h : redpencillaw04_DotHolds.f k l0 l1 a2_0 a2_1 a3_0 a3_1 a4_0 a4_1 = some true) :
  Calls Tryd.prog 7 #[.slice A0 l0.length c0, .slice A1 l1.length c1, .agg #[.int .i64 a2_0, .int .i64 a2_1], .agg #[.int .i64 a3_0, .int .i64 a3_1], .agg #[.int .i64 a4_0, .int .i64 a4_1]] w fun e w' => e = .returned (.bool true) ∧ Below w.heap.size w w' := by
 have hu23 := Tryd.underlying23
 have HR0 := Aside0.mk hr0
 have HC0 := Aside0.mk hc0
 clear hr0 hc0
 have HR1 := Aside0.mk hr1
 have HC1 := Aside0.mk hc1
 clear hr1 hc1
 have HB := Aside0.mk (Below.refl w.heap.size w)
 have HG := Aside0.mk hG
 clear hG
 have H : (if (l0.length : Int) > 60 then (redpencillaw04_DotHolds.j0 k l0 l1 true a2_0 a2_1 a3_0 a3_1 a4_0 a4_1) else (redpencillaw04_DotHolds.j0 k l0 l1 (decide ((l1.length : Int) > 60)) a2_0 a2_1 a3_0 a3_1 a4_0 a4_1)) = some true := h
 clear h
 have HC6 := Aside0.mk H
 clear H
 go_enter Tryd.func7, Tryd.ntmps7
 go_upto_region 1 with (first | ((with_reducible refine gate_dst (N := 7) rfl ?_); (try (refine gate_guard (by rfl) ?_; dsimp only)); refine box_event ?hg (N := 7) ?hd (cs := #[.int .i64 a2_0, .int .i64 a2_1]) (t := 23) ?hr ?_; (case hd => rfl); (case hg => rfl); (case hr => first | (go_simp; done) | (go_simp; rfl)); intro gb296 hg w7 hbox hb; have n0_ := Aside0.mk (below_step (by repeat (first | (with_reducible first | exact HB.out | apply below_alloc | apply pw_below_drewN | apply below_drew1) | exact HB.out)) hb); have n1_ := Aside0.mk (hbox); have n2_ := Aside0.mk ((by rw [hg]; exact (below_size (by repeat (first | (with_reducible first | exact HB.out | apply below_alloc | apply pw_below_drewN | apply below_drew1) | exact HB.out))) : w.heap.size ≤ gb296)); have n3_ := Aside0.mk ((by rw [hg]; exact (below_size (by repeat (first | (with_reducible first | exact HB.out | apply below_alloc | apply pw_below_drewN | apply below_drew1) | exact HB.out))) : w.heap.size ≤ gb296)); clear HB; have HB := n0_; have BK296 := n1_; have GW296 := n2_; have GE296 := n3_; clear n0_ n1_ n2_ n3_; clear hb hbox hg) | ((with_reducible refine gate_dst (N := 8) rfl ?_); (try (refine gate_guard (by rfl) ?_; dsimp only)); refine box_event ?hg (N := 8) ?hd (cs := #[.int .i64 a3_0, .int .i64 a3_1]) (t := 23) ?hr ?_; (case hd => rfl); (case hg => rfl); (case hr => first | (go_simp; done) | (go_simp; rfl)); intro gb297 hg w8 hbox hb; have n0_ := Aside0.mk (blk_below (g := gb296) (o := .cells #[.int .i64 a2_0, .int .i64 a2_1] 23 (0, 0)) (by (with_reducible repeat (first | refine blk_drewN ?_ _ | refine blk_drew ?_ | refine blk_alloc ?_ _)); exact BK296.out) hb); have n1_ := Aside0.mk (below_step (by repeat (first | (with_reducible first | exact HB.out | apply below_alloc | apply pw_below_drewN | apply below_drew1 | refine below_set ?_ GE296.out) | exact HB.out)) hb); have n2_ := Aside0.mk (hbox); have n3_ := Aside0.mk ((by rw [hg]; exact (below_size (by repeat (first | (with_reducible first | exact HB.out | apply below_alloc | apply pw_below_drewN | apply below_drew1 | refine below_set ?_ GE296.out) | exact HB.out))) : w.heap.size ≤ gb297)); have n4_ := Aside0.mk ((by rw [hg]; exact (below_size (by repeat (first | (with_reducible first | exact HB.out | apply below_alloc | apply pw_below_drewN | apply below_drew1 | refine below_set ?_ GE296.out) | exact HB.out))) : w.heap.size ≤ gb297)); have n5_ := Aside0.mk ((by rw [hg]; exact Nat.ne_of_lt (blk_lt (g := gb296) (o := .cells #[.int .i64 a2_0, .int .i64 a2_1] 23 (0, 0)) (by (with_reducible repeat (first | refine blk_drewN ?_ _ | refine blk_drew ?_ | refine blk_alloc ?_ _)); exact BK296.out)) : gb296 ≠ gb297)); have n6_ := Aside0.mk ((by rw [hg]; exact Nat.ne_of_gt (blk_lt (g := gb296) (o := .cells #[.int .i64 a2_0, .int .i64 a2_1] 23 (0, 0)) (by (with_reducible repeat (first | refine blk_drewN ?_ _ | refine blk_drew ?_ | refine blk_alloc ?_ _)); exact BK296.out)) : gb297 ≠ gb296)); clear BK296; clear HB; have BK296 := n0_; have HB := n1_; have BK297 := n2_; have GW297 := n3_; have GE297 := n4_; have NB296_297 := n5_; have NB297_296 := n6_; clear n0_ n1_ n2_ n3_ n4_ n5_ n6_; clear hb hbox hg) | ((with_reducible refine gate_dst (N := 9) rfl ?_); (try (refine gate_guard (by rfl) ?_; dsimp only)); refine box_event ?hg (N := 9) ?hd (cs := #[.int .i64 a4_0, .int .i64 a4_1]) (t := 23) ?hr ?_; (case hd => rfl); (case hg => rfl); (case hr => first | (go_simp; done) | (go_simp; rfl)); intro gb298 hg w9 hbox hb; have n0_ := Aside0.mk (blk_below (g := gb296) (o := .cells #[.int .i64 a2_0, .int .i64 a2_1] 23 (0, 0)) (by (with_reducible repeat (first | refine blk_drewN ?_ _ | refine blk_drew ?_ | refine blk_alloc ?_ _)); exact BK296.out) hb); have n1_ := Aside0.mk (blk_below (g := gb297) (o := .cells #[.int .i64 a3_0, .int .i64 a3_1] 23 (0, 0)) (by (with_reducible repeat (first | refine blk_drewN ?_ _ | refine blk_drew ?_ | refine blk_alloc ?_ _)); exact BK297.out) hb); have n2_ := Aside0.mk (below_step (by repeat (first | (with_reducible first | exact HB.out | apply below_alloc | apply pw_below_drewN | apply below_drew1 | refine below_set ?_ GE296.out | refine below_set ?_ GE297.out) | exact HB.out)) hb); have n3_ := Aside0.mk (hbox); have n4_ := Aside0.mk ((by rw [hg]; exact (below_size (by repeat (first | (with_reducible first | exact HB.out | apply below_alloc | apply pw_below_drewN | apply below_drew1 | refine below_set ?_ GE296.out | refine below_set ?_ GE297.out) | exact HB.out))) : w.heap.size ≤ gb298)); have n5_ := Aside0.mk ((by rw [hg]; exact (below_size (by repeat (first | (with_reducible first | exact HB.out | apply below_alloc | apply pw_below_drewN | apply below_drew1 | refine below_set ?_ GE296.out | refine below_set ?_ GE297.out) | exact HB.out))) : w.heap.size ≤ gb298)); have n6_ := Aside0.mk ((by rw [hg]; exact Nat.ne_of_lt (blk_lt (g := gb296) (o := .cells #[.int .i64 a2_0, .int .i64 a2_1] 23 (0, 0)) (by (with_reducible repeat (first | refine blk_drewN ?_ _ | refine blk_drew ?_ | refine blk_alloc ?_ _)); exact BK296.out)) : gb296 ≠ gb298)); have n7_ := Aside0.mk ((by rw [hg]; exact Nat.ne_of_gt (blk_lt (g := gb296) (o := .cells #[.int .i64 a2_0, .int .i64 a2_1] 23 (0, 0)) (by (with_reducible repeat (first | refine blk_drewN ?_ _ | refine blk_drew ?_ | refine blk_alloc ?_ _)); exact BK296.out)) : gb298 ≠ gb296)); have n8_ := Aside0.mk ((by rw [hg]; exact Nat.ne_of_lt (blk_lt (g := gb297) (o := .cells #[.int .i64 a3_0, .int .i64 a3_1] 23 (0, 0)) (by (with_reducible repeat (first | refine blk_drewN ?_ _ | refine blk_drew ?_ | refine blk_alloc ?_ _)); exact BK297.out)) : gb297 ≠ gb298)); have n9_ := Aside0.mk ((by rw [hg]; exact Nat.ne_of_gt (blk_lt (g := gb297) (o := .cells #[.int .i64 a3_0, .int .i64 a3_1] 23 (0, 0)) (by (with_reducible repeat (first | refine blk_drewN ?_ _ | refine blk_drew ?_ | refine blk_alloc ?_ _)); exact BK297.out)) : gb298 ≠ gb297)); clear BK296; clear BK297; clear HB; have BK296 := n0_; have BK297 := n1_; have HB := n2_; have BK298 := n3_; have GW298 := n4_; have GE298 := n5_; have NB296_298 := n6_; have NB298_296 := n7_; have NB297_298 := n8_; have NB298_297 := n9_; clear n0_ n1_ n2_ n3_ n4_ n5_ n6_ n7_ n8_ n9_; clear hb hbox hg))
 (try simp only [Act.put, List.setIfInBounds_toArray, List.set_cons_zero, List.set_cons_succ])
 go_cut [27] (fun v27 wc => ∃ (kq : Nat) (x27_5 : Bool), v27 = .bool x27_5 ∧ Aside0 (redpencillaw04_DotHolds.j0 kq l0 l1 x27_5 a2_0 a2_1 a3_0 a3_1 a4_0 a4_1 = some true) ∧ Aside0 (kq ≤ k) ∧ Aside0 (wc.heap[gb296]? = some (.cells #[.int .i64 a2_0, .int .i64 a2_1] 23 (0, 0))) ∧ Aside0 (wc.heap[gb297]? = some (.cells #[.int .i64 a3_0, .int .i64 a3_1] 23 (0, 0))) ∧ Aside0 (wc.heap[gb298]? = some (.cells #[.int .i64 a4_0, .int .i64 a4_1] 23 (0, 0))) ∧ Aside0 (Below w.heap.size w wc))
 case first =>
  have H := HC6.out
  clear HC6
  by_cases c10 : (l0.length : Int) > 60
  ·
   rw [if_pos c10] at H
   have c10b0 : decide (60 < (l0.length : Int)) = true := decide_eq_true c10
   have c10b1 : decide (60 < l0.length) = true := decide_eq_true (by omega)
   clear c10
   (first | rw [c10b0] | (simp only [i64_w, i32_w]; rw [c10b0]) | skip)
   have H' := Aside0.mk H
   clear H
   go_wp2
   go_meet
   case rel => exact ⟨_, (true), (by first | rfl | (simp; done) | (simp [*]; done)), H', ⟨by first | omega | exact Nat.le_refl _⟩, ⟨by (with_reducible repeat (first | refine blk_drewN ?_ _ | refine blk_drew ?_ | refine blk_alloc ?_ _)); exact BK296.out⟩, ⟨by (with_reducible repeat (first | refine blk_drewN ?_ _ | refine blk_drew ?_ | refine blk_alloc ?_ _)); exact BK297.out⟩, ⟨by (with_reducible repeat (first | refine blk_drewN ?_ _ | refine blk_drew ?_ | refine blk_alloc ?_ _)); exact BK298.out⟩, ⟨by repeat (first | (with_reducible first | exact HB.out | apply below_alloc | apply pw_below_drewN | apply below_drew1 | refine below_set ?_ GE296.out | refine below_set ?_ GE297.out | refine below_set ?_ GE298.out) | exact HB.out)⟩⟩
  ·
   rw [if_neg c10] at H
   have c10b0 : decide (60 < (l0.length : Int)) = false := decide_eq_false c10
   have c10b1 : decide (60 < l0.length) = false := decide_eq_false (by omega)
   clear c10
   (first | rw [c10b0] | (simp only [i64_w, i32_w]; rw [c10b0]) | skip)
   have H' := Aside0.mk H
   clear H
   go_wp2
   go_meet
   case rel => exact ⟨_, (decide ((l1.length : Int) > 60)), (by first | rfl | (simp; done) | (simp [*]; done)), H', ⟨by first | omega | exact Nat.le_refl _⟩, ⟨by (with_reducible repeat (first | refine blk_drewN ?_ _ | refine blk_drew ?_ | refine blk_alloc ?_ _)); exact BK296.out⟩, ⟨by (with_reducible repeat (first | refine blk_drewN ?_ _ | refine blk_drew ?_ | refine blk_alloc ?_ _)); exact BK297.out⟩, ⟨by (with_reducible repeat (first | refine blk_drewN ?_ _ | refine blk_drew ?_ | refine blk_alloc ?_ _)); exact BK298.out⟩, ⟨by repeat (first | (with_reducible first | exact HB.out | apply below_alloc | apply pw_below_drewN | apply below_drew1 | refine below_set ?_ GE296.out | refine below_set ?_ GE297.out | refine below_set ?_ GE298.out) | exact HB.out)⟩⟩
 case rest =>
  clear HC6
  try clear c1
  try clear p2
  try clear c7
  try clear c10
  try clear c10b0
  try clear c10b1
  obtain ⟨kq, x27_5, rfl, HA, HJ5, BK296, BK297, BK298, HB⟩ := hcut
  cases kq with
  | zero => exact absurd HA.out (by simp [redpencillaw04_DotHolds.j0])
  | succ kj5 =>
   have H := HA.out
   clear HA
   simp only [redpencillaw04_DotHolds.j0] at H
   by_cases c11 : x27_5 = true
   ·
    subst c11
    have H1 : ((redpencillaw04_known.f kj5).bind fun t299 => (some t299)) = some true := by rw [if_pos rfl] at H; exact H
    clear H
    have H := H1
    clear H1
    replace H := Option.bind_eq_some_iff.mp H
    obtain ⟨t299, A120, H⟩ := H
    replace H : (some t299) = some true := H
    have A12 := Aside0.mk A120
    clear A120
    obtain rfl := Option.some.inj H
    go_wp2_with (first | ((with_reducible refine gate_callee (f := 14) rfl ?_); refine goesL_ (some 28) rfl rfl Tryd.func14 (by kernel_rfl) rfl #[] rfl (by (try simp only [List.map_toArray, List.map_cons, List.map_nil]); first | done | rfl | (simp only [List.length_drop, List.length_take]; rfl)) ?_; (with_reducible refine (redpencillaw04_known.calls kj5  true _ ?side1 A12.out).mono ?_); (case side1 => exact GOK_below HG.out (by repeat (first | (with_reducible first | exact HB.out | apply below_alloc | apply pw_below_drewN | apply below_drew1 | refine below_set ?_ GE296.out | refine below_set ?_ GE297.out | refine below_set ?_ GE298.out) | exact HB.out))); rintro e w13 ⟨rfl, hb⟩; refine ⟨_, rfl, ?_⟩; have n0_ := Aside0.mk (blk_below (g := gb296) (o := .cells #[.int .i64 a2_0, .int .i64 a2_1] 23 (0, 0)) (by (with_reducible repeat (first | refine blk_drewN ?_ _ | refine blk_drew ?_ | refine blk_alloc ?_ _)); exact BK296.out) hb); have n1_ := Aside0.mk (blk_below (g := gb297) (o := .cells #[.int .i64 a3_0, .int .i64 a3_1] 23 (0, 0)) (by (with_reducible repeat (first | refine blk_drewN ?_ _ | refine blk_drew ?_ | refine blk_alloc ?_ _)); exact BK297.out) hb); have n2_ := Aside0.mk (blk_below (g := gb298) (o := .cells #[.int .i64 a4_0, .int .i64 a4_1] 23 (0, 0)) (by (with_reducible repeat (first | refine blk_drewN ?_ _ | refine blk_drew ?_ | refine blk_alloc ?_ _)); exact BK298.out) hb); have n3_ := Aside0.mk (below_step (by repeat (first | (with_reducible first | exact HB.out | apply below_alloc | apply pw_below_drewN | apply below_drew1 | refine below_set ?_ GE296.out | refine below_set ?_ GE297.out | refine below_set ?_ GE298.out) | exact HB.out)) hb); clear BK296; clear BK297; clear BK298; clear HB; have BK296 := n0_; have BK297 := n1_; have BK298 := n2_; have HB := n3_; clear n0_ n1_ n2_ n3_; (try clear hb); (try clear hb2); (try clear hk); (try clear hi)))
    go_ret
    exact ⟨by first | rfl | (simp [errW_none, errW_some] <;> rfl) | (simp [*, errW_none, errW_some] <;> rfl), by repeat (first | (with_reducible first | exact HB.out | apply below_alloc | apply pw_below_drewN | apply below_drew1 | refine below_set ?_ GE296.out | refine below_set ?_ GE297.out | refine below_set ?_ GE298.out) | exact HB.out)⟩
   ·
    replace c11 := Bool.eq_false_iff.mpr c11
    subst c11
    have H1 : ((dot_Compare.f kj5 a2_0 a2_1 a3_0 a3_1).bind fun t300 => ((dot_Compare.f kj5 a3_0 a3_1 a4_0 a4_1).bind fun t301 => ((dot_Compare.f kj5 a2_0 a2_1 a4_0 a4_1).bind fun t302 => (if t300 < 0 then (if t301 < 0 then (if t302 ≥ 0 then (redpencillaw04_DotHolds.j1 kj5 l0 l1 true a2_0 a2_1) else (if t300 > 0 then (if t301 > 0 then (if t302 ≤ 0 then (redpencillaw04_DotHolds.j1 kj5 l0 l1 true a2_0 a2_1) else (if ((t300 == 0) != (a2_0 == a3_0 && (a2_1 == a3_1))) = true then (redpencillaw04_DotHolds.j1 kj5 l0 l1 true a2_0 a2_1) else ((dot_Compare.f kj5 a3_0 a3_1 a2_0 a2_1).bind fun t303 => (redpencillaw04_DotHolds.j1 kj5 l0 l1 (t303 != (wrap64 (-t300))) a2_0 a2_1)))) else (if ((t300 == 0) != (a2_0 == a3_0 && (a2_1 == a3_1))) = true then (redpencillaw04_DotHolds.j1 kj5 l0 l1 true a2_0 a2_1) else ((dot_Compare.f kj5 a3_0 a3_1 a2_0 a2_1).bind fun t304 => (redpencillaw04_DotHolds.j1 kj5 l0 l1 (t304 != (wrap64 (-t300))) a2_0 a2_1)))) else (if ((t300 == 0) != (a2_0 == a3_0 && (a2_1 == a3_1))) = true then (redpencillaw04_DotHolds.j1 kj5 l0 l1 true a2_0 a2_1) else ((dot_Compare.f kj5 a3_0 a3_1 a2_0 a2_1).bind fun t305 => (redpencillaw04_DotHolds.j1 kj5 l0 l1 (t305 != (wrap64 (-t300))) a2_0 a2_1))))) else (if t300 > 0 then (if t301 > 0 then (if t302 ≤ 0 then (redpencillaw04_DotHolds.j1 kj5 l0 l1 true a2_0 a2_1) else (if ((t300 == 0) != (a2_0 == a3_0 && (a2_1 == a3_1))) = true then (redpencillaw04_DotHolds.j1 kj5 l0 l1 true a2_0 a2_1) else ((dot_Compare.f kj5 a3_0 a3_1 a2_0 a2_1).bind fun t306 => (redpencillaw04_DotHolds.j1 kj5 l0 l1 (t306 != (wrap64 (-t300))) a2_0 a2_1)))) else (if ((t300 == 0) != (a2_0 == a3_0 && (a2_1 == a3_1))) = true then (redpencillaw04_DotHolds.j1 kj5 l0 l1 true a2_0 a2_1) else ((dot_Compare.f kj5 a3_0 a3_1 a2_0 a2_1).bind fun t307 => (redpencillaw04_DotHolds.j1 kj5 l0 l1 (t307 != (wrap64 (-t300))) a2_0 a2_1)))) else (if ((t300 == 0) != (a2_0 == a3_0 && (a2_1 == a3_1))) = true then (redpencillaw04_DotHolds.j1 kj5 l0 l1 true a2_0 a2_1) else ((dot_Compare.f kj5 a3_0 a3_1 a2_0 a2_1).bind fun t308 => (redpencillaw04_DotHolds.j1 kj5 l0 l1 (t308 != (wrap64 (-t300))) a2_0 a2_1))))) else (if t300 > 0 then (if t301 > 0 then (if t302 ≤ 0 then (redpencillaw04_DotHolds.j1 kj5 l0 l1 true a2_0 a2_1) else (if ((t300 == 0) != (a2_0 == a3_0 && (a2_1 == a3_1))) = true then (redpencillaw04_DotHolds.j1 kj5 l0 l1 true a2_0 a2_1) else ((dot_Compare.f kj5 a3_0 a3_1 a2_0 a2_1).bind fun t309 => (redpencillaw04_DotHolds.j1 kj5 l0 l1 (t309 != (wrap64 (-t300))) a2_0 a2_1)))) else (if ((t300 == 0) != (a2_0 == a3_0 && (a2_1 == a3_1))) = true then (redpencillaw04_DotHolds.j1 kj5 l0 l1 true a2_0 a2_1) else ((dot_Compare.f kj5 a3_0 a3_1 a2_0 a2_1).bind fun t310 => (redpencillaw04_DotHolds.j1 kj5 l0 l1 (t310 != (wrap64 (-t300))) a2_0 a2_1)))) else (if ((t300 == 0) != (a2_0 == a3_0 && (a2_1 == a3_1))) = true then (redpencillaw04_DotHolds.j1 kj5 l0 l1 true a2_0 a2_1) else ((dot_Compare.f kj5 a3_0 a3_1 a2_0 a2_1).bind fun t311 => (redpencillaw04_DotHolds.j1 kj5 l0 l1 (t311 != (wrap64 (-t300))) a2_0 a2_1)))))))) = some true := by rw [if_neg (show ¬ (false = true) by decide)] at H; exact H
    clear H
    have H := H1
    clear H1
    replace H := Option.bind_eq_some_iff.mp H
    obtain ⟨t300, A140, H⟩ := H
    replace H : ((dot_Compare.f kj5 a3_0 a3_1 a4_0 a4_1).bind fun t301 => ((dot_Compare.f kj5 a2_0 a2_1 a4_0 a4_1).bind fun t302 => (if t300 < 0 then (if t301 < 0 then (if t302 ≥ 0 then (redpencillaw04_DotHolds.j1 kj5 l0 l1 true a2_0 a2_1) else (if t300 > 0 then (if t301 > 0 then (if t302 ≤ 0 then (redpencillaw04_DotHolds.j1 kj5 l0 l1 true a2_0 a2_1) else (if ((t300 == 0) != (a2_0 == a3_0 && (a2_1 == a3_1))) = true then (redpencillaw04_DotHolds.j1 kj5 l0 l1 true a2_0 a2_1) else ((dot_Compare.f kj5 a3_0 a3_1 a2_0 a2_1).bind fun t303 => (redpencillaw04_DotHolds.j1 kj5 l0 l1 (t303 != (wrap64 (-t300))) a2_0 a2_1)))) else (if ((t300 == 0) != (a2_0 == a3_0 && (a2_1 == a3_1))) = true then (redpencillaw04_DotHolds.j1 kj5 l0 l1 true a2_0 a2_1) else ((dot_Compare.f kj5 a3_0 a3_1 a2_0 a2_1).bind fun t304 => (redpencillaw04_DotHolds.j1 kj5 l0 l1 (t304 != (wrap64 (-t300))) a2_0 a2_1)))) else (if ((t300 == 0) != (a2_0 == a3_0 && (a2_1 == a3_1))) = true then (redpencillaw04_DotHolds.j1 kj5 l0 l1 true a2_0 a2_1) else ((dot_Compare.f kj5 a3_0 a3_1 a2_0 a2_1).bind fun t305 => (redpencillaw04_DotHolds.j1 kj5 l0 l1 (t305 != (wrap64 (-t300))) a2_0 a2_1))))) else (if t300 > 0 then (if t301 > 0 then (if t302 ≤ 0 then (redpencillaw04_DotHolds.j1 kj5 l0 l1 true a2_0 a2_1) else (if ((t300 == 0) != (a2_0 == a3_0 && (a2_1 == a3_1))) = true then (redpencillaw04_DotHolds.j1 kj5 l0 l1 true a2_0 a2_1) else ((dot_Compare.f kj5 a3_0 a3_1 a2_0 a2_1).bind fun t306 => (redpencillaw04_DotHolds.j1 kj5 l0 l1 (t306 != (wrap64 (-t300))) a2_0 a2_1)))) else (if ((t300 == 0) != (a2_0 == a3_0 && (a2_1 == a3_1))) = true then (redpencillaw04_DotHolds.j1 kj5 l0 l1 true a2_0 a2_1) else ((dot_Compare.f kj5 a3_0 a3_1 a2_0 a2_1).bind fun t307 => (redpencillaw04_DotHolds.j1 kj5 l0 l1 (t307 != (wrap64 (-t300))) a2_0 a2_1)))) else (if ((t300 == 0) != (a2_0 == a3_0 && (a2_1 == a3_1))) = true then (redpencillaw04_DotHolds.j1 kj5 l0 l1 true a2_0 a2_1) else ((dot_Compare.f kj5 a3_0 a3_1 a2_0 a2_1).bind fun t308 => (redpencillaw04_DotHolds.j1 kj5 l0 l1 (t308 != (wrap64 (-t300))) a2_0 a2_1))))) else (if t300 > 0 then (if t301 > 0 then (if t302 ≤ 0 then (redpencillaw04_DotHolds.j1 kj5 l0 l1 true a2_0 a2_1) else (if ((t300 == 0) != (a2_0 == a3_0 && (a2_1 == a3_1))) = true then (redpencillaw04_DotHolds.j1 kj5 l0 l1 true a2_0 a2_1) else ((dot_Compare.f kj5 a3_0 a3_1 a2_0 a2_1).bind fun t309 => (redpencillaw04_DotHolds.j1 kj5 l0 l1 (t309 != (wrap64 (-t300))) a2_0 a2_1)))) else (if ((t300 == 0) != (a2_0 == a3_0 && (a2_1 == a3_1))) = true then (redpencillaw04_DotHolds.j1 kj5 l0 l1 true a2_0 a2_1) else ((dot_Compare.f kj5 a3_0 a3_1 a2_0 a2_1).bind fun t310 => (redpencillaw04_DotHolds.j1 kj5 l0 l1 (t310 != (wrap64 (-t300))) a2_0 a2_1)))) else (if ((t300 == 0) != (a2_0 == a3_0 && (a2_1 == a3_1))) = true then (redpencillaw04_DotHolds.j1 kj5 l0 l1 true a2_0 a2_1) else ((dot_Compare.f kj5 a3_0 a3_1 a2_0 a2_1).bind fun t311 => (redpencillaw04_DotHolds.j1 kj5 l0 l1 (t311 != (wrap64 (-t300))) a2_0 a2_1))))))) = some true := H
    have A14 := Aside0.mk A140
    clear A140
    replace H := Option.bind_eq_some_iff.mp H
    obtain ⟨t301, A150, H⟩ := H
    replace H : ((dot_Compare.f kj5 a2_0 a2_1 a4_0 a4_1).bind fun t302 => (if t300 < 0 then (if t301 < 0 then (if t302 ≥ 0 then (redpencillaw04_DotHolds.j1 kj5 l0 l1 true a2_0 a2_1) else (if t300 > 0 then (if t301 > 0 then (if t302 ≤ 0 then (redpencillaw04_DotHolds.j1 kj5 l0 l1 true a2_0 a2_1) else (if ((t300 == 0) != (a2_0 == a3_0 && (a2_1 == a3_1))) = true then (redpencillaw04_DotHolds.j1 kj5 l0 l1 true a2_0 a2_1) else ((dot_Compare.f kj5 a3_0 a3_1 a2_0 a2_1).bind fun t303 => (redpencillaw04_DotHolds.j1 kj5 l0 l1 (t303 != (wrap64 (-t300))) a2_0 a2_1)))) else (if ((t300 == 0) != (a2_0 == a3_0 && (a2_1 == a3_1))) = true then (redpencillaw04_DotHolds.j1 kj5 l0 l1 true a2_0 a2_1) else ((dot_Compare.f kj5 a3_0 a3_1 a2_0 a2_1).bind fun t304 => (redpencillaw04_DotHolds.j1 kj5 l0 l1 (t304 != (wrap64 (-t300))) a2_0 a2_1)))) else (if ((t300 == 0) != (a2_0 == a3_0 && (a2_1 == a3_1))) = true then (redpencillaw04_DotHolds.j1 kj5 l0 l1 true a2_0 a2_1) else ((dot_Compare.f kj5 a3_0 a3_1 a2_0 a2_1).bind fun t305 => (redpencillaw04_DotHolds.j1 kj5 l0 l1 (t305 != (wrap64 (-t300))) a2_0 a2_1))))) else (if t300 > 0 then (if t301 > 0 then (if t302 ≤ 0 then (redpencillaw04_DotHolds.j1 kj5 l0 l1 true a2_0 a2_1) else (if ((t300 == 0) != (a2_0 == a3_0 && (a2_1 == a3_1))) = true then (redpencillaw04_DotHolds.j1 kj5 l0 l1 true a2_0 a2_1) else ((dot_Compare.f kj5 a3_0 a3_1 a2_0 a2_1).bind fun t306 => (redpencillaw04_DotHolds.j1 kj5 l0 l1 (t306 != (wrap64 (-t300))) a2_0 a2_1)))) else (if ((t300 == 0) != (a2_0 == a3_0 && (a2_1 == a3_1))) = true then (redpencillaw04_DotHolds.j1 kj5 l0 l1 true a2_0 a2_1) else ((dot_Compare.f kj5 a3_0 a3_1 a2_0 a2_1).bind fun t307 => (redpencillaw04_DotHolds.j1 kj5 l0 l1 (t307 != (wrap64 (-t300))) a2_0 a2_1)))) else (if ((t300 == 0) != (a2_0 == a3_0 && (a2_1 == a3_1))) = true then (redpencillaw04_DotHolds.j1 kj5 l0 l1 true a2_0 a2_1) else ((dot_Compare.f kj5 a3_0 a3_1 a2_0 a2_1).bind fun t308 => (redpencillaw04_DotHolds.j1 kj5 l0 l1 (t308 != (wrap64 (-t300))) a2_0 a2_1))))) else (if t300 > 0 then (if t301 > 0 then (if t302 ≤ 0 then (redpencillaw04_DotHolds.j1 kj5 l0 l1 true a2_0 a2_1) else (if ((t300 == 0) != (a2_0 == a3_0 && (a2_1 == a3_1))) = true then (redpencillaw04_DotHolds.j1 kj5 l0 l1 true a2_0 a2_1) else ((dot_Compare.f kj5 a3_0 a3_1 a2_0 a2_1).bind fun t309 => (redpencillaw04_DotHolds.j1 kj5 l0 l1 (t309 != (wrap64 (-t300))) a2_0 a2_1)))) else (if ((t300 == 0) != (a2_0 == a3_0 && (a2_1 == a3_1))) = true then (redpencillaw04_DotHolds.j1 kj5 l0 l1 true a2_0 a2_1) else ((dot_Compare.f kj5 a3_0 a3_1 a2_0 a2_1).bind fun t310 => (redpencillaw04_DotHolds.j1 kj5 l0 l1 (t310 != (wrap64 (-t300))) a2_0 a2_1)))) else (if ((t300 == 0) != (a2_0 == a3_0 && (a2_1 == a3_1))) = true then (redpencillaw04_DotHolds.j1 kj5 l0 l1 true a2_0 a2_1) else ((dot_Compare.f kj5 a3_0 a3_1 a2_0 a2_1).bind fun t311 => (redpencillaw04_DotHolds.j1 kj5 l0 l1 (t311 != (wrap64 (-t300))) a2_0 a2_1)))))) = some true := H
    have A15 := Aside0.mk A150
    clear A150
    replace H := Option.bind_eq_some_iff.mp H
    obtain ⟨t302, A160, H⟩ := H
    replace H : (if t300 < 0 then (if t301 < 0 then (if t302 ≥ 0 then (redpencillaw04_DotHolds.j1 kj5 l0 l1 true a2_0 a2_1) else (if t300 > 0 then (if t301 > 0 then (if t302 ≤ 0 then (redpencillaw04_DotHolds.j1 kj5 l0 l1 true a2_0 a2_1) else (if ((t300 == 0) != (a2_0 == a3_0 && (a2_1 == a3_1))) = true then (redpencillaw04_DotHolds.j1 kj5 l0 l1 true a2_0 a2_1) else ((dot_Compare.f kj5 a3_0 a3_1 a2_0 a2_1).bind fun t303 => (redpencillaw04_DotHolds.j1 kj5 l0 l1 (t303 != (wrap64 (-t300))) a2_0 a2_1)))) else (if ((t300 == 0) != (a2_0 == a3_0 && (a2_1 == a3_1))) = true then (redpencillaw04_DotHolds.j1 kj5 l0 l1 true a2_0 a2_1) else ((dot_Compare.f kj5 a3_0 a3_1 a2_0 a2_1).bind fun t304 => (redpencillaw04_DotHolds.j1 kj5 l0 l1 (t304 != (wrap64 (-t300))) a2_0 a2_1)))) else (if ((t300 == 0) != (a2_0 == a3_0 && (a2_1 == a3_1))) = true then (redpencillaw04_DotHolds.j1 kj5 l0 l1 true a2_0 a2_1) else ((dot_Compare.f kj5 a3_0 a3_1 a2_0 a2_1).bind fun t305 => (redpencillaw04_DotHolds.j1 kj5 l0 l1 (t305 != (wrap64 (-t300))) a2_0 a2_1))))) else (if t300 > 0 then (if t301 > 0 then (if t302 ≤ 0 then (redpencillaw04_DotHolds.j1 kj5 l0 l1 true a2_0 a2_1) else (if ((t300 == 0) != (a2_0 == a3_0 && (a2_1 == a3_1))) = true then (redpencillaw04_DotHolds.j1 kj5 l0 l1 true a2_0 a2_1) else ((dot_Compare.f kj5 a3_0 a3_1 a2_0 a2_1).bind fun t306 => (redpencillaw04_DotHolds.j1 kj5 l0 l1 (t306 != (wrap64 (-t300))) a2_0 a2_1)))) else (if ((t300 == 0) != (a2_0 == a3_0 && (a2_1 == a3_1))) = true then (redpencillaw04_DotHolds.j1 kj5 l0 l1 true a2_0 a2_1) else ((dot_Compare.f kj5 a3_0 a3_1 a2_0 a2_1).bind fun t307 => (redpencillaw04_DotHolds.j1 kj5 l0 l1 (t307 != (wrap64 (-t300))) a2_0 a2_1)))) else (if ((t300 == 0) != (a2_0 == a3_0 && (a2_1 == a3_1))) = true then (redpencillaw04_DotHolds.j1 kj5 l0 l1 true a2_0 a2_1) else ((dot_Compare.f kj5 a3_0 a3_1 a2_0 a2_1).bind fun t308 => (redpencillaw04_DotHolds.j1 kj5 l0 l1 (t308 != (wrap64 (-t300))) a2_0 a2_1))))) else (if t300 > 0 then (if t301 > 0 then (if t302 ≤ 0 then (redpencillaw04_DotHolds.j1 kj5 l0 l1 true a2_0 a2_1) else (if ((t300 == 0) != (a2_0 == a3_0 && (a2_1 == a3_1))) = true then (redpencillaw04_DotHolds.j1 kj5 l0 l1 true a2_0 a2_1) else ((dot_Compare.f kj5 a3_0 a3_1 a2_0 a2_1).bind fun t309 => (redpencillaw04_DotHolds.j1 kj5 l0 l1 (t309 != (wrap64 (-t300))) a2_0 a2_1)))) else (if ((t300 == 0) != (a2_0 == a3_0 && (a2_1 == a3_1))) = true then (redpencillaw04_DotHolds.j1 kj5 l0 l1 true a2_0 a2_1) else ((dot_Compare.f kj5 a3_0 a3_1 a2_0 a2_1).bind fun t310 => (redpencillaw04_DotHolds.j1 kj5 l0 l1 (t310 != (wrap64 (-t300))) a2_0 a2_1)))) else (if ((t300 == 0) != (a2_0 == a3_0 && (a2_1 == a3_1))) = true then (redpencillaw04_DotHolds.j1 kj5 l0 l1 true a2_0 a2_1) else ((dot_Compare.f kj5 a3_0 a3_1 a2_0 a2_1).bind fun t311 => (redpencillaw04_DotHolds.j1 kj5 l0 l1 (t311 != (wrap64 (-t300))) a2_0 a2_1))))) = some true := H
    have A16 := Aside0.mk A160
    clear A160
    have HC17 := Aside0.mk H
    clear H
    try go_wp2
    have n0_ := Aside0.mk (blk_drew BK296.out)
    have n1_ := Aside0.mk (blk_drew BK297.out)
    have n2_ := Aside0.mk (blk_drew BK298.out)
    have n3_ := Aside0.mk (below_drew1 HB.out)
    clear BK296
    clear BK297
    clear BK298
    clear HB
    have BK296 := n0_
    have BK297 := n1_
    have BK298 := n2_
    have HB := n3_
    clear n0_ n1_ n2_ n3_
    refine start_ (n := 12) (S := fun w' => w'.cell? ⟨gb296, 0, none⟩ = some (.int .i64 a2_0) ∧ w'.cell? ⟨gb296, 1, none⟩ = some (.int .i64 a2_1) ∧ w'.cell? ⟨gb297, 0, none⟩ = some (.int .i64 a3_0) ∧ w'.cell? ⟨gb297, 1, none⟩ = some (.int .i64 a3_1) ∧ w'.cell? ⟨gb298, 0, none⟩ = some (.int .i64 a4_0) ∧ w'.cell? ⟨gb298, 1, none⟩ = some (.int .i64 a4_1)) (ds := []) #[false, false, false, false, false, false, false, false, false, false, false, false] (by kernel_rfl) rfl rfl ⟨(blk_cell BK296.out 0).trans rfl, (blk_cell BK296.out 1).trans rfl, (blk_cell BK297.out 0).trans rfl, (blk_cell BK297.out 1).trans rfl, (blk_cell BK298.out 0).trans rfl, (blk_cell BK298.out 1).trans rfl⟩ (fun hHeld => ?_); refine with_tabW redpencillaw04_DotHolds.tab3 redpencillaw04_DotHolds.bits3 (fun HT_ HW_ => ?_)
    generalize wc.drew = w18 at BK296 BK297 BK298 HB hHeld ⊢
    refine take_ (i := 0) (N := some 29) (v := ?_) (a' := ?_) #[true, false, false, false, false, false, false, false, false, false, false, false] rfl rfl (take_ofW HT_.out HW_.out (by kernel_rfl)) (fun _ _ _ h => h) (Or.inl ⟨by rfl, ?_⟩) hHeld ?_ ?_
    rotate_left
    ·
     rintro w' ⟨s0, s1, s2, s3, s4, s5⟩
     go_simp
     with_reducible rfl
    rotate_left
    ·
     simp only [Act.put, List.setIfInBounds_toArray, List.set_cons_zero, List.set_cons_succ, i64_w, i32_w]
     rfl
    refine take_ (i := 1) (N := some 30) (v := ?_) (a' := ?_) #[true, true, false, false, false, false, false, false, false, false, false, false] rfl rfl (take_ofW HT_.out HW_.out (by kernel_rfl)) (fun _ _ _ h => h) (Or.inl ⟨by rfl, ?_⟩) hHeld ?_ ?_
    rotate_left
    ·
     rintro w' ⟨s0, s1, s2, s3, s4, s5⟩
     go_simp
     with_reducible rfl
    rotate_left
    ·
     simp only [Act.put, List.setIfInBounds_toArray, List.set_cons_zero, List.set_cons_succ, i64_w, i32_w]
     rfl
    refine take_ (i := 3) (N := some 32) (v := ?_) (a' := ?_) #[true, true, false, true, false, false, false, false, false, false, false, false] rfl rfl (take_ofW HT_.out HW_.out (by kernel_rfl)) (fun _ _ _ h => h) (Or.inl ⟨by rfl, ?_⟩) hHeld ?_ ?_
    rotate_left
    ·
     rintro w' ⟨s0, s1, s2, s3, s4, s5⟩
     go_simp
     with_reducible rfl
    rotate_left
    ·
     simp only [Act.put, List.setIfInBounds_toArray, List.set_cons_zero, List.set_cons_succ, i64_w, i32_w]
     rfl
    refine take_ (i := 4) (N := some 33) (v := ?_) (a' := ?_) #[true, true, false, true, true, false, false, false, false, false, false, false] rfl rfl (take_ofW HT_.out HW_.out (by kernel_rfl)) (fun _ _ _ h => h) (Or.inl ⟨by rfl, ?_⟩) hHeld ?_ ?_
    rotate_left
    ·
     rintro w' ⟨s0, s1, s2, s3, s4, s5⟩
     go_simp
     with_reducible rfl
    rotate_left
    ·
     simp only [Act.put, List.setIfInBounds_toArray, List.set_cons_zero, List.set_cons_succ, i64_w, i32_w]
     rfl
    refine take_ (i := 6) (N := some 35) (v := ?_) (a' := ?_) #[true, true, false, true, true, false, true, false, false, false, false, false] rfl rfl (take_ofW HT_.out HW_.out (by kernel_rfl)) (fun _ _ _ h => h) (Or.inl ⟨by rfl, ?_⟩) hHeld ?_ ?_
    rotate_left
    ·
     rintro w' ⟨s0, s1, s2, s3, s4, s5⟩
     go_simp
     with_reducible rfl
    rotate_left
    ·
     simp only [Act.put, List.setIfInBounds_toArray, List.set_cons_zero, List.set_cons_succ, i64_w, i32_w]
     rfl
    refine take_ (i := 7) (N := some 36) (v := ?_) (a' := ?_) #[true, true, false, true, true, false, true, true, false, false, false, false] rfl rfl (take_ofW HT_.out HW_.out (by kernel_rfl)) (fun _ _ _ h => h) (Or.inl ⟨by rfl, ?_⟩) hHeld ?_ ?_
    rotate_left
    ·
     rintro w' ⟨s0, s1, s2, s3, s4, s5⟩
     go_simp
     with_reducible rfl
    rotate_left
    ·
     simp only [Act.put, List.setIfInBounds_toArray, List.set_cons_zero, List.set_cons_succ, i64_w, i32_w]
     rfl
    refine one_ (i := 2) (N := some 31) #[true, true, true, true, true, false, true, true, false, false, false, false] rfl rfl (one_of HT_.out (by kernel_rfl)) (by decide) (fun K hK => ?_)
    refine goes_ Tryd.func12 (by kernel_rfl) rfl #[.agg #[.int .i64 a2_0, .int .i64 a2_1], .agg #[.int .i64 a3_0, .int .i64 a3_1]] (by rfl) rfl rfl (by (try simp only [List.map_toArray, List.map_cons, List.map_nil]); first | done | rfl | (simp only [List.length_drop, List.length_take]; rfl)) ?_
    with_reducible refine (dot_Compare.calls kj5 a2_0 a2_1 a3_0 a3_1 t300 _ A14.out).mono ?_
    rintro e w19 ⟨rfl, hb⟩
    refine ⟨_, rfl, ?_⟩
    have n0_ := Aside0.mk (blk_below (g := gb296) (o := .cells #[.int .i64 a2_0, .int .i64 a2_1] 23 (0, 0)) (by (with_reducible repeat (first | refine blk_drewN ?_ _ | refine blk_drew ?_ | refine blk_alloc ?_ _)); exact BK296.out) hb)
    have n1_ := Aside0.mk (blk_below (g := gb297) (o := .cells #[.int .i64 a3_0, .int .i64 a3_1] 23 (0, 0)) (by (with_reducible repeat (first | refine blk_drewN ?_ _ | refine blk_drew ?_ | refine blk_alloc ?_ _)); exact BK297.out) hb)
    have n2_ := Aside0.mk (blk_below (g := gb298) (o := .cells #[.int .i64 a4_0, .int .i64 a4_1] 23 (0, 0)) (by (with_reducible repeat (first | refine blk_drewN ?_ _ | refine blk_drew ?_ | refine blk_alloc ?_ _)); exact BK298.out) hb)
    have n3_ := Aside0.mk (below_step (by repeat (first | (with_reducible first | exact HB.out | apply below_alloc | apply pw_below_drewN | apply below_drew1 | refine below_set ?_ GE296.out | refine below_set ?_ GE297.out | refine below_set ?_ GE298.out) | exact HB.out)) hb)
    clear BK296
    clear BK297
    clear BK298
    clear HB
    have BK296 := n0_
    have BK297 := n1_
    have BK298 := n2_
    have HB := n3_
    clear n0_ n1_ n2_ n3_
    (try clear hb)
    (try clear hb2)
    (try clear hk)
    (try clear hi)
    refine hK.out _ _ ⟨(blk_cell BK296.out 0).trans rfl, (blk_cell BK296.out 1).trans rfl, (blk_cell BK297.out 0).trans rfl, (blk_cell BK297.out 1).trans rfl, (blk_cell BK298.out 0).trans rfl, (blk_cell BK298.out 1).trans rfl⟩ (fun hHeld => ?_)
    clear hK K
    refine norm_ (a' := ?_) ?_ ?_
    rotate_left
    ·
     show Act.put _ (some 31) _ = _
     simp only [Act.put, List.setIfInBounds_toArray, List.set_cons_zero, List.set_cons_succ, i64_w, i32_w]
     rfl
    refine one_ (i := 5) (N := some 34) #[true, true, true, true, true, true, true, true, false, false, false, false] rfl rfl (one_of HT_.out (by kernel_rfl)) (by decide) (fun K hK => ?_)
    refine goes_ Tryd.func12 (by kernel_rfl) rfl #[.agg #[.int .i64 a3_0, .int .i64 a3_1], .agg #[.int .i64 a4_0, .int .i64 a4_1]] (by rfl) rfl rfl (by (try simp only [List.map_toArray, List.map_cons, List.map_nil]); first | done | rfl | (simp only [List.length_drop, List.length_take]; rfl)) ?_
    with_reducible refine (dot_Compare.calls kj5 a3_0 a3_1 a4_0 a4_1 t301 _ A15.out).mono ?_
    rintro e w20 ⟨rfl, hb⟩
    refine ⟨_, rfl, ?_⟩
    have n0_ := Aside0.mk (blk_below (g := gb296) (o := .cells #[.int .i64 a2_0, .int .i64 a2_1] 23 (0, 0)) (by (with_reducible repeat (first | refine blk_drewN ?_ _ | refine blk_drew ?_ | refine blk_alloc ?_ _)); exact BK296.out) hb)
    have n1_ := Aside0.mk (blk_below (g := gb297) (o := .cells #[.int .i64 a3_0, .int .i64 a3_1] 23 (0, 0)) (by (with_reducible repeat (first | refine blk_drewN ?_ _ | refine blk_drew ?_ | refine blk_alloc ?_ _)); exact BK297.out) hb)
    have n2_ := Aside0.mk (blk_below (g := gb298) (o := .cells #[.int .i64 a4_0, .int .i64 a4_1] 23 (0, 0)) (by (with_reducible repeat (first | refine blk_drewN ?_ _ | refine blk_drew ?_ | refine blk_alloc ?_ _)); exact BK298.out) hb)
    have n3_ := Aside0.mk (below_step (by repeat (first | (with_reducible first | exact HB.out | apply below_alloc | apply pw_below_drewN | apply below_drew1 | refine below_set ?_ GE296.out | refine below_set ?_ GE297.out | refine below_set ?_ GE298.out) | exact HB.out)) hb)
    clear BK296
    clear BK297
    clear BK298
    clear HB
    have BK296 := n0_
    have BK297 := n1_
    have BK298 := n2_
    have HB := n3_
    clear n0_ n1_ n2_ n3_
    (try clear hb)
    (try clear hb2)
    (try clear hk)
    (try clear hi)
    refine hK.out _ _ ⟨(blk_cell BK296.out 0).trans rfl, (blk_cell BK296.out 1).trans rfl, (blk_cell BK297.out 0).trans rfl, (blk_cell BK297.out 1).trans rfl, (blk_cell BK298.out 0).trans rfl, (blk_cell BK298.out 1).trans rfl⟩ (fun hHeld => ?_)
    clear hK K
    refine norm_ (a' := ?_) ?_ ?_
    rotate_left
    ·
     show Act.put _ (some 34) _ = _
     simp only [Act.put, List.setIfInBounds_toArray, List.set_cons_zero, List.set_cons_succ, i64_w, i32_w]
     rfl
    refine one_ (i := 8) (N := some 37) #[true, true, true, true, true, true, true, true, true, false, false, false] rfl rfl (one_of HT_.out (by kernel_rfl)) (by decide) (fun K hK => ?_)
    refine goes_ Tryd.func12 (by kernel_rfl) rfl #[.agg #[.int .i64 a2_0, .int .i64 a2_1], .agg #[.int .i64 a4_0, .int .i64 a4_1]] (by rfl) rfl rfl (by (try simp only [List.map_toArray, List.map_cons, List.map_nil]); first | done | rfl | (simp only [List.length_drop, List.length_take]; rfl)) ?_
    with_reducible refine (dot_Compare.calls kj5 a2_0 a2_1 a4_0 a4_1 t302 _ A16.out).mono ?_
    rintro e w21 ⟨rfl, hb⟩
    refine ⟨_, rfl, ?_⟩
    have n0_ := Aside0.mk (blk_below (g := gb296) (o := .cells #[.int .i64 a2_0, .int .i64 a2_1] 23 (0, 0)) (by (with_reducible repeat (first | refine blk_drewN ?_ _ | refine blk_drew ?_ | refine blk_alloc ?_ _)); exact BK296.out) hb)
    have n1_ := Aside0.mk (blk_below (g := gb297) (o := .cells #[.int .i64 a3_0, .int .i64 a3_1] 23 (0, 0)) (by (with_reducible repeat (first | refine blk_drewN ?_ _ | refine blk_drew ?_ | refine blk_alloc ?_ _)); exact BK297.out) hb)
    have n2_ := Aside0.mk (blk_below (g := gb298) (o := .cells #[.int .i64 a4_0, .int .i64 a4_1] 23 (0, 0)) (by (with_reducible repeat (first | refine blk_drewN ?_ _ | refine blk_drew ?_ | refine blk_alloc ?_ _)); exact BK298.out) hb)
    have n3_ := Aside0.mk (below_step (by repeat (first | (with_reducible first | exact HB.out | apply below_alloc | apply pw_below_drewN | apply below_drew1 | refine below_set ?_ GE296.out | refine below_set ?_ GE297.out | refine below_set ?_ GE298.out) | exact HB.out)) hb)
    clear BK296
    clear BK297
    clear BK298
    clear HB
    have BK296 := n0_
    have BK297 := n1_
    have BK298 := n2_
    have HB := n3_
    clear n0_ n1_ n2_ n3_
    (try clear hb)
    (try clear hb2)
    (try clear hk)
    (try clear hi)
    refine hK.out _ _ ⟨(blk_cell BK296.out 0).trans rfl, (blk_cell BK296.out 1).trans rfl, (blk_cell BK297.out 0).trans rfl, (blk_cell BK297.out 1).trans rfl, (blk_cell BK298.out 0).trans rfl, (blk_cell BK298.out 1).trans rfl⟩ (fun hHeld => ?_)
    clear hK K
    refine norm_ (a' := ?_) ?_ ?_
    rotate_left
    ·
     show Act.put _ (some 37) _ = _
     simp only [Act.put, List.setIfInBounds_toArray, List.set_cons_zero, List.set_cons_succ, i64_w, i32_w]
     rfl
    refine pure_ (i := 9) (N := some 11) (v := ?_) (a' := ?_) #[true, true, true, true, true, true, true, true, true, true, false, false] rfl rfl (any_of HT_.out (by kernel_rfl)) (fun _ _ _ h => h) (Or.inl ⟨by rfl, ?_⟩) ?_ ?_
    rotate_left
    ·
     intro w'
     go_simp
     with_reducible rfl
    rotate_left
    ·
     simp only [Act.put, List.setIfInBounds_toArray, List.set_cons_zero, List.set_cons_succ, i64_w, i32_w]
     rfl
    refine pure_ (i := 10) (N := some 12) (v := ?_) (a' := ?_) #[true, true, true, true, true, true, true, true, true, true, true, false] rfl rfl (any_of HT_.out (by kernel_rfl)) (fun _ _ _ h => h) (Or.inl ⟨by rfl, ?_⟩) ?_ ?_
    rotate_left
    ·
     intro w'
     go_simp
     with_reducible rfl
    rotate_left
    ·
     simp only [Act.put, List.setIfInBounds_toArray, List.set_cons_zero, List.set_cons_succ, i64_w, i32_w]
     rfl
    refine pure_ (i := 11) (N := some 13) (v := ?_) (a' := ?_) #[true, true, true, true, true, true, true, true, true, true, true, true] rfl rfl (any_of HT_.out (by kernel_rfl)) (fun _ _ _ h => h) (Or.inl ⟨by rfl, ?_⟩) ?_ ?_
    rotate_left
    ·
     intro w'
     go_simp
     with_reducible rfl
    rotate_left
    ·
     simp only [Act.put, List.setIfInBounds_toArray, List.set_cons_zero, List.set_cons_succ, i64_w, i32_w]
     rfl
    refine done_ (done_of HT_.out (by kernel_rfl)) ?_
    go_upto_region 4 with (fail)
    go_cut [75] (fun v75 wc => ∃ (kq : Nat) (x75_16 : Bool), v75 = .bool x75_16 ∧ Aside0 (redpencillaw04_DotHolds.j1 kq l0 l1 x75_16 a2_0 a2_1 = some true) ∧ Aside0 (kq ≤ kj5) ∧ Aside0 (wc.heap[gb296]? = some (.cells #[.int .i64 a2_0, .int .i64 a2_1] 23 (0, 0))) ∧ Aside0 (wc.heap[gb297]? = some (.cells #[.int .i64 a3_0, .int .i64 a3_1] 23 (0, 0))) ∧ Aside0 (wc.heap[gb298]? = some (.cells #[.int .i64 a4_0, .int .i64 a4_1] 23 (0, 0))) ∧ Aside0 (Below w.heap.size w wc))
    case first =>
     have H := HC17.out
     clear HC17
     by_cases c22 : t300 < 0
     ·
      rw [if_pos c22] at H
      have c22b0 : decide (t300 < 0) = true := decide_eq_true c22
      clear c22
      (first | rw [c22b0] | (simp only [i64_w, i32_w]; rw [c22b0]) | skip)
      by_cases c23 : t301 < 0
      ·
       rw [if_pos c23] at H
       have c23b0 : decide (t301 < 0) = true := decide_eq_true c23
       clear c23
       by_cases c24 : t302 ≥ 0
       ·
        rw [if_pos c24] at H
        exact absurd H (redpencillaw04_DotHolds.j1_no _ _ _ _ _)
       ·
        rw [if_neg c24] at H
        have c24b0 : decide (0 ≤ t302) = false := decide_eq_false c24
        clear c24
        by_cases c25 : t300 > 0
        ·
         rw [if_pos c25] at H
         have c25b0 : decide (0 < t300) = true := decide_eq_true c25
         clear c25
         by_cases c26 : t301 > 0
         ·
          rw [if_pos c26] at H
          have c26b0 : decide (0 < t301) = true := decide_eq_true c26
          clear c26
          by_cases c27 : t302 ≤ 0
          ·
           rw [if_pos c27] at H
           exact absurd H (redpencillaw04_DotHolds.j1_no _ _ _ _ _)
          ·
           rw [if_neg c27] at H
           have c27b0 : decide (t302 ≤ 0) = false := decide_eq_false c27
           clear c27
           by_cases c28 : ((t300 == 0) != (a2_0 == a3_0 && (a2_1 == a3_1))) = true
           ·
            rw [if_pos c28] at H
            exact absurd H (redpencillaw04_DotHolds.j1_no _ _ _ _ _)
           ·
            rw [if_neg c28] at H
            have c28b0 : ((t300 == 0) != (a2_0 == a3_0 && (a2_1 == a3_1))) = false := by simpa using c28
            (try (have c28b1 : decide ((t300 == 0) = (a2_0 == a3_0 && (a2_1 == a3_1))) = true := by simpa using c28))
            (try (have c28b2 : ((t300 == 0) == (a2_0 == a3_0 && (a2_1 == a3_1))) = true := by simpa using c28))
            clear c28
            replace H := Option.bind_eq_some_iff.mp H
            obtain ⟨t303, A340, H⟩ := H
            replace H : (redpencillaw04_DotHolds.j1 kj5 l0 l1 (t303 != (wrap64 (-t300))) a2_0 a2_1) = some true := H
            have A34 := Aside0.mk A340
            clear A340
            have H' := Aside0.mk H
            clear H
            have hnb35 := NB296_297.out
            have hnc35 := NB297_296.out
            have hnb36 := NB296_298.out
            have hnc36 := NB298_296.out
            have hcz37_0 : w21.cell? ⟨gb296, 0, none⟩ = some (.int .i64 a2_0) := (blk_cell BK296.out 0).trans rfl
            have hcz37_1 : w21.cell? ⟨gb296, 1, none⟩ = some (.int .i64 a2_1) := (blk_cell BK296.out 1).trans rfl
            have hfz37_0 := blk_frozen BK296.out 0
            have hfz37_1 := blk_frozen BK296.out 1
            have hnb38 := NB297_298.out
            have hnc38 := NB298_297.out
            have hcz39_0 : w21.cell? ⟨gb297, 0, none⟩ = some (.int .i64 a3_0) := (blk_cell BK297.out 0).trans rfl
            have hcz39_1 : w21.cell? ⟨gb297, 1, none⟩ = some (.int .i64 a3_1) := (blk_cell BK297.out 1).trans rfl
            have hfz39_0 := blk_frozen BK297.out 0
            have hfz39_1 := blk_frozen BK297.out 1
            go_wp2_with (first | (go_at_call 12; (with_reducible refine (dot_Compare.calls kj5 a3_0 a3_1 a2_0 a2_1 t303 _ A34.out).mono ?_); rintro e w40 ⟨rfl, hb⟩; have n0_ := Aside0.mk (blk_below (g := gb296) (o := .cells #[.int .i64 a2_0, .int .i64 a2_1] 23 (0, 0)) (by (with_reducible repeat (first | refine blk_drewN ?_ _ | refine blk_drew ?_ | refine blk_alloc ?_ _)); exact BK296.out) hb); have n1_ := Aside0.mk (blk_below (g := gb297) (o := .cells #[.int .i64 a3_0, .int .i64 a3_1] 23 (0, 0)) (by (with_reducible repeat (first | refine blk_drewN ?_ _ | refine blk_drew ?_ | refine blk_alloc ?_ _)); exact BK297.out) hb); have n2_ := Aside0.mk (blk_below (g := gb298) (o := .cells #[.int .i64 a4_0, .int .i64 a4_1] 23 (0, 0)) (by (with_reducible repeat (first | refine blk_drewN ?_ _ | refine blk_drew ?_ | refine blk_alloc ?_ _)); exact BK298.out) hb); have n3_ := Aside0.mk (below_step (by repeat (first | (with_reducible first | exact HB.out | apply below_alloc | apply pw_below_drewN | apply below_drew1 | refine below_set ?_ GE296.out | refine below_set ?_ GE297.out | refine below_set ?_ GE298.out) | exact HB.out)) hb); clear BK296; clear BK297; clear BK298; clear HB; have BK296 := n0_; have BK297 := n1_; have BK298 := n2_; have HB := n3_; clear n0_ n1_ n2_ n3_; (try clear hb); (try clear hb2); (try clear hk); (try clear hi)))
            go_meet
            case rel => exact ⟨_, ((t303 != (wrap64 (-t300)))), (by first | rfl | (simp; done) | (simp [*]; done)), H', ⟨by have := HJ5.out; first | omega | exact Nat.le_refl _⟩, ⟨by (with_reducible repeat (first | refine blk_drewN ?_ _ | refine blk_drew ?_ | refine blk_alloc ?_ _)); exact BK296.out⟩, ⟨by (with_reducible repeat (first | refine blk_drewN ?_ _ | refine blk_drew ?_ | refine blk_alloc ?_ _)); exact BK297.out⟩, ⟨by (with_reducible repeat (first | refine blk_drewN ?_ _ | refine blk_drew ?_ | refine blk_alloc ?_ _)); exact BK298.out⟩, ⟨by repeat (first | (with_reducible first | exact HB.out | apply below_alloc | apply pw_below_drewN | apply below_drew1 | refine below_set ?_ GE296.out | refine below_set ?_ GE297.out | refine below_set ?_ GE298.out) | exact HB.out)⟩⟩
         ·
          rw [if_neg c26] at H
          have c26b0 : decide (0 < t301) = false := decide_eq_false c26
          clear c26
          by_cases c41 : ((t300 == 0) != (a2_0 == a3_0 && (a2_1 == a3_1))) = true
          ·
           rw [if_pos c41] at H
           exact absurd H (redpencillaw04_DotHolds.j1_no _ _ _ _ _)
          ·
           rw [if_neg c41] at H
           have c41b0 : ((t300 == 0) != (a2_0 == a3_0 && (a2_1 == a3_1))) = false := by simpa using c41
           (try (have c41b1 : decide ((t300 == 0) = (a2_0 == a3_0 && (a2_1 == a3_1))) = true := by simpa using c41))
           (try (have c41b2 : ((t300 == 0) == (a2_0 == a3_0 && (a2_1 == a3_1))) = true := by simpa using c41))
           clear c41
           replace H := Option.bind_eq_some_iff.mp H
           obtain ⟨t304, A470, H⟩ := H
           replace H : (redpencillaw04_DotHolds.j1 kj5 l0 l1 (t304 != (wrap64 (-t300))) a2_0 a2_1) = some true := H
           have A47 := Aside0.mk A470
           clear A470
           have H' := Aside0.mk H
           clear H
           have hnb48 := NB296_297.out
           have hnc48 := NB297_296.out
           have hnb49 := NB296_298.out
           have hnc49 := NB298_296.out
           have hcz50_0 : w21.cell? ⟨gb296, 0, none⟩ = some (.int .i64 a2_0) := (blk_cell BK296.out 0).trans rfl
           have hcz50_1 : w21.cell? ⟨gb296, 1, none⟩ = some (.int .i64 a2_1) := (blk_cell BK296.out 1).trans rfl
           have hfz50_0 := blk_frozen BK296.out 0
           have hfz50_1 := blk_frozen BK296.out 1
           have hnb51 := NB297_298.out
           have hnc51 := NB298_297.out
           have hcz52_0 : w21.cell? ⟨gb297, 0, none⟩ = some (.int .i64 a3_0) := (blk_cell BK297.out 0).trans rfl
           have hcz52_1 : w21.cell? ⟨gb297, 1, none⟩ = some (.int .i64 a3_1) := (blk_cell BK297.out 1).trans rfl
           have hfz52_0 := blk_frozen BK297.out 0
           have hfz52_1 := blk_frozen BK297.out 1
           go_wp2_with (first | (go_at_call 12; (with_reducible refine (dot_Compare.calls kj5 a3_0 a3_1 a2_0 a2_1 t304 _ A47.out).mono ?_); rintro e w53 ⟨rfl, hb⟩; have n0_ := Aside0.mk (blk_below (g := gb296) (o := .cells #[.int .i64 a2_0, .int .i64 a2_1] 23 (0, 0)) (by (with_reducible repeat (first | refine blk_drewN ?_ _ | refine blk_drew ?_ | refine blk_alloc ?_ _)); exact BK296.out) hb); have n1_ := Aside0.mk (blk_below (g := gb297) (o := .cells #[.int .i64 a3_0, .int .i64 a3_1] 23 (0, 0)) (by (with_reducible repeat (first | refine blk_drewN ?_ _ | refine blk_drew ?_ | refine blk_alloc ?_ _)); exact BK297.out) hb); have n2_ := Aside0.mk (blk_below (g := gb298) (o := .cells #[.int .i64 a4_0, .int .i64 a4_1] 23 (0, 0)) (by (with_reducible repeat (first | refine blk_drewN ?_ _ | refine blk_drew ?_ | refine blk_alloc ?_ _)); exact BK298.out) hb); have n3_ := Aside0.mk (below_step (by repeat (first | (with_reducible first | exact HB.out | apply below_alloc | apply pw_below_drewN | apply below_drew1 | refine below_set ?_ GE296.out | refine below_set ?_ GE297.out | refine below_set ?_ GE298.out) | exact HB.out)) hb); clear BK296; clear BK297; clear BK298; clear HB; have BK296 := n0_; have BK297 := n1_; have BK298 := n2_; have HB := n3_; clear n0_ n1_ n2_ n3_; (try clear hb); (try clear hb2); (try clear hk); (try clear hi)))
           go_meet
           case rel => exact ⟨_, ((t304 != (wrap64 (-t300)))), (by first | rfl | (simp; done) | (simp [*]; done)), H', ⟨by have := HJ5.out; first | omega | exact Nat.le_refl _⟩, ⟨by (with_reducible repeat (first | refine blk_drewN ?_ _ | refine blk_drew ?_ | refine blk_alloc ?_ _)); exact BK296.out⟩, ⟨by (with_reducible repeat (first | refine blk_drewN ?_ _ | refine blk_drew ?_ | refine blk_alloc ?_ _)); exact BK297.out⟩, ⟨by (with_reducible repeat (first | refine blk_drewN ?_ _ | refine blk_drew ?_ | refine blk_alloc ?_ _)); exact BK298.out⟩, ⟨by repeat (first | (with_reducible first | exact HB.out | apply below_alloc | apply pw_below_drewN | apply below_drew1 | refine below_set ?_ GE296.out | refine below_set ?_ GE297.out | refine below_set ?_ GE298.out) | exact HB.out)⟩⟩
        ·
         rw [if_neg c25] at H
         have c25b0 : decide (0 < t300) = false := decide_eq_false c25
         clear c25
         by_cases c54 : ((t300 == 0) != (a2_0 == a3_0 && (a2_1 == a3_1))) = true
         ·
          rw [if_pos c54] at H
          exact absurd H (redpencillaw04_DotHolds.j1_no _ _ _ _ _)
         ·
          rw [if_neg c54] at H
          have c54b0 : ((t300 == 0) != (a2_0 == a3_0 && (a2_1 == a3_1))) = false := by simpa using c54
          (try (have c54b1 : decide ((t300 == 0) = (a2_0 == a3_0 && (a2_1 == a3_1))) = true := by simpa using c54))
          (try (have c54b2 : ((t300 == 0) == (a2_0 == a3_0 && (a2_1 == a3_1))) = true := by simpa using c54))
          clear c54
          replace H := Option.bind_eq_some_iff.mp H
          obtain ⟨t305, A600, H⟩ := H
          replace H : (redpencillaw04_DotHolds.j1 kj5 l0 l1 (t305 != (wrap64 (-t300))) a2_0 a2_1) = some true := H
          have A60 := Aside0.mk A600
          clear A600
          have H' := Aside0.mk H
          clear H
          have hnb61 := NB296_297.out
          have hnc61 := NB297_296.out
          have hnb62 := NB296_298.out
          have hnc62 := NB298_296.out
          have hcz63_0 : w21.cell? ⟨gb296, 0, none⟩ = some (.int .i64 a2_0) := (blk_cell BK296.out 0).trans rfl
          have hcz63_1 : w21.cell? ⟨gb296, 1, none⟩ = some (.int .i64 a2_1) := (blk_cell BK296.out 1).trans rfl
          have hfz63_0 := blk_frozen BK296.out 0
          have hfz63_1 := blk_frozen BK296.out 1
          have hnb64 := NB297_298.out
          have hnc64 := NB298_297.out
          have hcz65_0 : w21.cell? ⟨gb297, 0, none⟩ = some (.int .i64 a3_0) := (blk_cell BK297.out 0).trans rfl
          have hcz65_1 : w21.cell? ⟨gb297, 1, none⟩ = some (.int .i64 a3_1) := (blk_cell BK297.out 1).trans rfl
          have hfz65_0 := blk_frozen BK297.out 0
          have hfz65_1 := blk_frozen BK297.out 1
          go_wp2_with (first | (go_at_call 12; (with_reducible refine (dot_Compare.calls kj5 a3_0 a3_1 a2_0 a2_1 t305 _ A60.out).mono ?_); rintro e w66 ⟨rfl, hb⟩; have n0_ := Aside0.mk (blk_below (g := gb296) (o := .cells #[.int .i64 a2_0, .int .i64 a2_1] 23 (0, 0)) (by (with_reducible repeat (first | refine blk_drewN ?_ _ | refine blk_drew ?_ | refine blk_alloc ?_ _)); exact BK296.out) hb); have n1_ := Aside0.mk (blk_below (g := gb297) (o := .cells #[.int .i64 a3_0, .int .i64 a3_1] 23 (0, 0)) (by (with_reducible repeat (first | refine blk_drewN ?_ _ | refine blk_drew ?_ | refine blk_alloc ?_ _)); exact BK297.out) hb); have n2_ := Aside0.mk (blk_below (g := gb298) (o := .cells #[.int .i64 a4_0, .int .i64 a4_1] 23 (0, 0)) (by (with_reducible repeat (first | refine blk_drewN ?_ _ | refine blk_drew ?_ | refine blk_alloc ?_ _)); exact BK298.out) hb); have n3_ := Aside0.mk (below_step (by repeat (first | (with_reducible first | exact HB.out | apply below_alloc | apply pw_below_drewN | apply below_drew1 | refine below_set ?_ GE296.out | refine below_set ?_ GE297.out | refine below_set ?_ GE298.out) | exact HB.out)) hb); clear BK296; clear BK297; clear BK298; clear HB; have BK296 := n0_; have BK297 := n1_; have BK298 := n2_; have HB := n3_; clear n0_ n1_ n2_ n3_; (try clear hb); (try clear hb2); (try clear hk); (try clear hi)))
          go_meet
          case rel => exact ⟨_, ((t305 != (wrap64 (-t300)))), (by first | rfl | (simp; done) | (simp [*]; done)), H', ⟨by have := HJ5.out; first | omega | exact Nat.le_refl _⟩, ⟨by (with_reducible repeat (first | refine blk_drewN ?_ _ | refine blk_drew ?_ | refine blk_alloc ?_ _)); exact BK296.out⟩, ⟨by (with_reducible repeat (first | refine blk_drewN ?_ _ | refine blk_drew ?_ | refine blk_alloc ?_ _)); exact BK297.out⟩, ⟨by (with_reducible repeat (first | refine blk_drewN ?_ _ | refine blk_drew ?_ | refine blk_alloc ?_ _)); exact BK298.out⟩, ⟨by repeat (first | (with_reducible first | exact HB.out | apply below_alloc | apply pw_below_drewN | apply below_drew1 | refine below_set ?_ GE296.out | refine below_set ?_ GE297.out | refine below_set ?_ GE298.out) | exact HB.out)⟩⟩
      ·
       rw [if_neg c23] at H
       have c23b0 : decide (t301 < 0) = false := decide_eq_false c23
       clear c23
       by_cases c67 : t300 > 0
       ·
        rw [if_pos c67] at H
        have c67b0 : decide (0 < t300) = true := decide_eq_true c67
        clear c67
        by_cases c68 : t301 > 0
        ·
         rw [if_pos c68] at H
         have c68b0 : decide (0 < t301) = true := decide_eq_true c68
         clear c68
         by_cases c69 : t302 ≤ 0
         ·
          rw [if_pos c69] at H
          exact absurd H (redpencillaw04_DotHolds.j1_no _ _ _ _ _)
         ·
          rw [if_neg c69] at H
          have c69b0 : decide (t302 ≤ 0) = false := decide_eq_false c69
          clear c69
          by_cases c70 : ((t300 == 0) != (a2_0 == a3_0 && (a2_1 == a3_1))) = true
          ·
           rw [if_pos c70] at H
           exact absurd H (redpencillaw04_DotHolds.j1_no _ _ _ _ _)
          ·
           rw [if_neg c70] at H
           have c70b0 : ((t300 == 0) != (a2_0 == a3_0 && (a2_1 == a3_1))) = false := by simpa using c70
           (try (have c70b1 : decide ((t300 == 0) = (a2_0 == a3_0 && (a2_1 == a3_1))) = true := by simpa using c70))
           (try (have c70b2 : ((t300 == 0) == (a2_0 == a3_0 && (a2_1 == a3_1))) = true := by simpa using c70))
           clear c70
           replace H := Option.bind_eq_some_iff.mp H
           obtain ⟨t306, A760, H⟩ := H
           replace H : (redpencillaw04_DotHolds.j1 kj5 l0 l1 (t306 != (wrap64 (-t300))) a2_0 a2_1) = some true := H
           have A76 := Aside0.mk A760
           clear A760
           have H' := Aside0.mk H
           clear H
           have hnb77 := NB296_297.out
           have hnc77 := NB297_296.out
           have hnb78 := NB296_298.out
           have hnc78 := NB298_296.out
           have hcz79_0 : w21.cell? ⟨gb296, 0, none⟩ = some (.int .i64 a2_0) := (blk_cell BK296.out 0).trans rfl
           have hcz79_1 : w21.cell? ⟨gb296, 1, none⟩ = some (.int .i64 a2_1) := (blk_cell BK296.out 1).trans rfl
           have hfz79_0 := blk_frozen BK296.out 0
           have hfz79_1 := blk_frozen BK296.out 1
           have hnb80 := NB297_298.out
           have hnc80 := NB298_297.out
           have hcz81_0 : w21.cell? ⟨gb297, 0, none⟩ = some (.int .i64 a3_0) := (blk_cell BK297.out 0).trans rfl
           have hcz81_1 : w21.cell? ⟨gb297, 1, none⟩ = some (.int .i64 a3_1) := (blk_cell BK297.out 1).trans rfl
           have hfz81_0 := blk_frozen BK297.out 0
           have hfz81_1 := blk_frozen BK297.out 1
           go_wp2_with (first | (go_at_call 12; (with_reducible refine (dot_Compare.calls kj5 a3_0 a3_1 a2_0 a2_1 t306 _ A76.out).mono ?_); rintro e w82 ⟨rfl, hb⟩; have n0_ := Aside0.mk (blk_below (g := gb296) (o := .cells #[.int .i64 a2_0, .int .i64 a2_1] 23 (0, 0)) (by (with_reducible repeat (first | refine blk_drewN ?_ _ | refine blk_drew ?_ | refine blk_alloc ?_ _)); exact BK296.out) hb); have n1_ := Aside0.mk (blk_below (g := gb297) (o := .cells #[.int .i64 a3_0, .int .i64 a3_1] 23 (0, 0)) (by (with_reducible repeat (first | refine blk_drewN ?_ _ | refine blk_drew ?_ | refine blk_alloc ?_ _)); exact BK297.out) hb); have n2_ := Aside0.mk (blk_below (g := gb298) (o := .cells #[.int .i64 a4_0, .int .i64 a4_1] 23 (0, 0)) (by (with_reducible repeat (first | refine blk_drewN ?_ _ | refine blk_drew ?_ | refine blk_alloc ?_ _)); exact BK298.out) hb); have n3_ := Aside0.mk (below_step (by repeat (first | (with_reducible first | exact HB.out | apply below_alloc | apply pw_below_drewN | apply below_drew1 | refine below_set ?_ GE296.out | refine below_set ?_ GE297.out | refine below_set ?_ GE298.out) | exact HB.out)) hb); clear BK296; clear BK297; clear BK298; clear HB; have BK296 := n0_; have BK297 := n1_; have BK298 := n2_; have HB := n3_; clear n0_ n1_ n2_ n3_; (try clear hb); (try clear hb2); (try clear hk); (try clear hi)))
           go_meet
           case rel => exact ⟨_, ((t306 != (wrap64 (-t300)))), (by first | rfl | (simp; done) | (simp [*]; done)), H', ⟨by have := HJ5.out; first | omega | exact Nat.le_refl _⟩, ⟨by (with_reducible repeat (first | refine blk_drewN ?_ _ | refine blk_drew ?_ | refine blk_alloc ?_ _)); exact BK296.out⟩, ⟨by (with_reducible repeat (first | refine blk_drewN ?_ _ | refine blk_drew ?_ | refine blk_alloc ?_ _)); exact BK297.out⟩, ⟨by (with_reducible repeat (first | refine blk_drewN ?_ _ | refine blk_drew ?_ | refine blk_alloc ?_ _)); exact BK298.out⟩, ⟨by repeat (first | (with_reducible first | exact HB.out | apply below_alloc | apply pw_below_drewN | apply below_drew1 | refine below_set ?_ GE296.out | refine below_set ?_ GE297.out | refine below_set ?_ GE298.out) | exact HB.out)⟩⟩
        ·
         rw [if_neg c68] at H
         have c68b0 : decide (0 < t301) = false := decide_eq_false c68
         clear c68
         by_cases c83 : ((t300 == 0) != (a2_0 == a3_0 && (a2_1 == a3_1))) = true
         ·
          rw [if_pos c83] at H
          exact absurd H (redpencillaw04_DotHolds.j1_no _ _ _ _ _)
         ·
          rw [if_neg c83] at H
          have c83b0 : ((t300 == 0) != (a2_0 == a3_0 && (a2_1 == a3_1))) = false := by simpa using c83
          (try (have c83b1 : decide ((t300 == 0) = (a2_0 == a3_0 && (a2_1 == a3_1))) = true := by simpa using c83))
          (try (have c83b2 : ((t300 == 0) == (a2_0 == a3_0 && (a2_1 == a3_1))) = true := by simpa using c83))
          clear c83
          replace H := Option.bind_eq_some_iff.mp H
          obtain ⟨t307, A890, H⟩ := H
          replace H : (redpencillaw04_DotHolds.j1 kj5 l0 l1 (t307 != (wrap64 (-t300))) a2_0 a2_1) = some true := H
          have A89 := Aside0.mk A890
          clear A890
          have H' := Aside0.mk H
          clear H
          have hnb90 := NB296_297.out
          have hnc90 := NB297_296.out
          have hnb91 := NB296_298.out
          have hnc91 := NB298_296.out
          have hcz92_0 : w21.cell? ⟨gb296, 0, none⟩ = some (.int .i64 a2_0) := (blk_cell BK296.out 0).trans rfl
          have hcz92_1 : w21.cell? ⟨gb296, 1, none⟩ = some (.int .i64 a2_1) := (blk_cell BK296.out 1).trans rfl
          have hfz92_0 := blk_frozen BK296.out 0
          have hfz92_1 := blk_frozen BK296.out 1
          have hnb93 := NB297_298.out
          have hnc93 := NB298_297.out
          have hcz94_0 : w21.cell? ⟨gb297, 0, none⟩ = some (.int .i64 a3_0) := (blk_cell BK297.out 0).trans rfl
          have hcz94_1 : w21.cell? ⟨gb297, 1, none⟩ = some (.int .i64 a3_1) := (blk_cell BK297.out 1).trans rfl
          have hfz94_0 := blk_frozen BK297.out 0
          have hfz94_1 := blk_frozen BK297.out 1
          go_wp2_with (first | (go_at_call 12; (with_reducible refine (dot_Compare.calls kj5 a3_0 a3_1 a2_0 a2_1 t307 _ A89.out).mono ?_); rintro e w95 ⟨rfl, hb⟩; have n0_ := Aside0.mk (blk_below (g := gb296) (o := .cells #[.int .i64 a2_0, .int .i64 a2_1] 23 (0, 0)) (by (with_reducible repeat (first | refine blk_drewN ?_ _ | refine blk_drew ?_ | refine blk_alloc ?_ _)); exact BK296.out) hb); have n1_ := Aside0.mk (blk_below (g := gb297) (o := .cells #[.int .i64 a3_0, .int .i64 a3_1] 23 (0, 0)) (by (with_reducible repeat (first | refine blk_drewN ?_ _ | refine blk_drew ?_ | refine blk_alloc ?_ _)); exact BK297.out) hb); have n2_ := Aside0.mk (blk_below (g := gb298) (o := .cells #[.int .i64 a4_0, .int .i64 a4_1] 23 (0, 0)) (by (with_reducible repeat (first | refine blk_drewN ?_ _ | refine blk_drew ?_ | refine blk_alloc ?_ _)); exact BK298.out) hb); have n3_ := Aside0.mk (below_step (by repeat (first | (with_reducible first | exact HB.out | apply below_alloc | apply pw_below_drewN | apply below_drew1 | refine below_set ?_ GE296.out | refine below_set ?_ GE297.out | refine below_set ?_ GE298.out) | exact HB.out)) hb); clear BK296; clear BK297; clear BK298; clear HB; have BK296 := n0_; have BK297 := n1_; have BK298 := n2_; have HB := n3_; clear n0_ n1_ n2_ n3_; (try clear hb); (try clear hb2); (try clear hk); (try clear hi)))
          go_meet
          case rel => exact ⟨_, ((t307 != (wrap64 (-t300)))), (by first | rfl | (simp; done) | (simp [*]; done)), H', ⟨by have := HJ5.out; first | omega | exact Nat.le_refl _⟩, ⟨by (with_reducible repeat (first | refine blk_drewN ?_ _ | refine blk_drew ?_ | refine blk_alloc ?_ _)); exact BK296.out⟩, ⟨by (with_reducible repeat (first | refine blk_drewN ?_ _ | refine blk_drew ?_ | refine blk_alloc ?_ _)); exact BK297.out⟩, ⟨by (with_reducible repeat (first | refine blk_drewN ?_ _ | refine blk_drew ?_ | refine blk_alloc ?_ _)); exact BK298.out⟩, ⟨by repeat (first | (with_reducible first | exact HB.out | apply below_alloc | apply pw_below_drewN | apply below_drew1 | refine below_set ?_ GE296.out | refine below_set ?_ GE297.out | refine below_set ?_ GE298.out) | exact HB.out)⟩⟩
       ·
        rw [if_neg c67] at H
        have c67b0 : decide (0 < t300) = false := decide_eq_false c67
        clear c67
        by_cases c96 : ((t300 == 0) != (a2_0 == a3_0 && (a2_1 == a3_1))) = true
        ·
         rw [if_pos c96] at H
         exact absurd H (redpencillaw04_DotHolds.j1_no _ _ _ _ _)
        ·
         rw [if_neg c96] at H
         have c96b0 : ((t300 == 0) != (a2_0 == a3_0 && (a2_1 == a3_1))) = false := by simpa using c96
         (try (have c96b1 : decide ((t300 == 0) = (a2_0 == a3_0 && (a2_1 == a3_1))) = true := by simpa using c96))
         (try (have c96b2 : ((t300 == 0) == (a2_0 == a3_0 && (a2_1 == a3_1))) = true := by simpa using c96))
         clear c96
         replace H := Option.bind_eq_some_iff.mp H
         obtain ⟨t308, A1020, H⟩ := H
         replace H : (redpencillaw04_DotHolds.j1 kj5 l0 l1 (t308 != (wrap64 (-t300))) a2_0 a2_1) = some true := H
         have A102 := Aside0.mk A1020
         clear A1020
         have H' := Aside0.mk H
         clear H
         have hnb103 := NB296_297.out
         have hnc103 := NB297_296.out
         have hnb104 := NB296_298.out
         have hnc104 := NB298_296.out
         have hcz105_0 : w21.cell? ⟨gb296, 0, none⟩ = some (.int .i64 a2_0) := (blk_cell BK296.out 0).trans rfl
         have hcz105_1 : w21.cell? ⟨gb296, 1, none⟩ = some (.int .i64 a2_1) := (blk_cell BK296.out 1).trans rfl
         have hfz105_0 := blk_frozen BK296.out 0
         have hfz105_1 := blk_frozen BK296.out 1
         have hnb106 := NB297_298.out
         have hnc106 := NB298_297.out
         have hcz107_0 : w21.cell? ⟨gb297, 0, none⟩ = some (.int .i64 a3_0) := (blk_cell BK297.out 0).trans rfl
         have hcz107_1 : w21.cell? ⟨gb297, 1, none⟩ = some (.int .i64 a3_1) := (blk_cell BK297.out 1).trans rfl
         have hfz107_0 := blk_frozen BK297.out 0
         have hfz107_1 := blk_frozen BK297.out 1
         go_wp2_with (first | (go_at_call 12; (with_reducible refine (dot_Compare.calls kj5 a3_0 a3_1 a2_0 a2_1 t308 _ A102.out).mono ?_); rintro e w108 ⟨rfl, hb⟩; have n0_ := Aside0.mk (blk_below (g := gb296) (o := .cells #[.int .i64 a2_0, .int .i64 a2_1] 23 (0, 0)) (by (with_reducible repeat (first | refine blk_drewN ?_ _ | refine blk_drew ?_ | refine blk_alloc ?_ _)); exact BK296.out) hb); have n1_ := Aside0.mk (blk_below (g := gb297) (o := .cells #[.int .i64 a3_0, .int .i64 a3_1] 23 (0, 0)) (by (with_reducible repeat (first | refine blk_drewN ?_ _ | refine blk_drew ?_ | refine blk_alloc ?_ _)); exact BK297.out) hb); have n2_ := Aside0.mk (blk_below (g := gb298) (o := .cells #[.int .i64 a4_0, .int .i64 a4_1] 23 (0, 0)) (by (with_reducible repeat (first | refine blk_drewN ?_ _ | refine blk_drew ?_ | refine blk_alloc ?_ _)); exact BK298.out) hb); have n3_ := Aside0.mk (below_step (by repeat (first | (with_reducible first | exact HB.out | apply below_alloc | apply pw_below_drewN | apply below_drew1 | refine below_set ?_ GE296.out | refine below_set ?_ GE297.out | refine below_set ?_ GE298.out) | exact HB.out)) hb); clear BK296; clear BK297; clear BK298; clear HB; have BK296 := n0_; have BK297 := n1_; have BK298 := n2_; have HB := n3_; clear n0_ n1_ n2_ n3_; (try clear hb); (try clear hb2); (try clear hk); (try clear hi)))
         go_meet
         case rel => exact ⟨_, ((t308 != (wrap64 (-t300)))), (by first | rfl | (simp; done) | (simp [*]; done)), H', ⟨by have := HJ5.out; first | omega | exact Nat.le_refl _⟩, ⟨by (with_reducible repeat (first | refine blk_drewN ?_ _ | refine blk_drew ?_ | refine blk_alloc ?_ _)); exact BK296.out⟩, ⟨by (with_reducible repeat (first | refine blk_drewN ?_ _ | refine blk_drew ?_ | refine blk_alloc ?_ _)); exact BK297.out⟩, ⟨by (with_reducible repeat (first | refine blk_drewN ?_ _ | refine blk_drew ?_ | refine blk_alloc ?_ _)); exact BK298.out⟩, ⟨by repeat (first | (with_reducible first | exact HB.out | apply below_alloc | apply pw_below_drewN | apply below_drew1 | refine below_set ?_ GE296.out | refine below_set ?_ GE297.out | refine below_set ?_ GE298.out) | exact HB.out)⟩⟩
     ·
      rw [if_neg c22] at H
      have c22b0 : decide (t300 < 0) = false := decide_eq_false c22
      clear c22
      (first | rw [c22b0] | (simp only [i64_w, i32_w]; rw [c22b0]) | skip)
      by_cases c109 : t300 > 0
      ·
       rw [if_pos c109] at H
       have c109b0 : decide (0 < t300) = true := decide_eq_true c109
       clear c109
       by_cases c110 : t301 > 0
       ·
        rw [if_pos c110] at H
        have c110b0 : decide (0 < t301) = true := decide_eq_true c110
        clear c110
        by_cases c111 : t302 ≤ 0
        ·
         rw [if_pos c111] at H
         exact absurd H (redpencillaw04_DotHolds.j1_no _ _ _ _ _)
        ·
         rw [if_neg c111] at H
         have c111b0 : decide (t302 ≤ 0) = false := decide_eq_false c111
         clear c111
         by_cases c112 : ((t300 == 0) != (a2_0 == a3_0 && (a2_1 == a3_1))) = true
         ·
          rw [if_pos c112] at H
          exact absurd H (redpencillaw04_DotHolds.j1_no _ _ _ _ _)
         ·
          rw [if_neg c112] at H
          have c112b0 : ((t300 == 0) != (a2_0 == a3_0 && (a2_1 == a3_1))) = false := by simpa using c112
          (try (have c112b1 : decide ((t300 == 0) = (a2_0 == a3_0 && (a2_1 == a3_1))) = true := by simpa using c112))
          (try (have c112b2 : ((t300 == 0) == (a2_0 == a3_0 && (a2_1 == a3_1))) = true := by simpa using c112))
          clear c112
          replace H := Option.bind_eq_some_iff.mp H
          obtain ⟨t309, A1180, H⟩ := H
          replace H : (redpencillaw04_DotHolds.j1 kj5 l0 l1 (t309 != (wrap64 (-t300))) a2_0 a2_1) = some true := H
          have A118 := Aside0.mk A1180
          clear A1180
          have H' := Aside0.mk H
          clear H
          have hnb119 := NB296_297.out
          have hnc119 := NB297_296.out
          have hnb120 := NB296_298.out
          have hnc120 := NB298_296.out
          have hcz121_0 : w21.cell? ⟨gb296, 0, none⟩ = some (.int .i64 a2_0) := (blk_cell BK296.out 0).trans rfl
          have hcz121_1 : w21.cell? ⟨gb296, 1, none⟩ = some (.int .i64 a2_1) := (blk_cell BK296.out 1).trans rfl
          have hfz121_0 := blk_frozen BK296.out 0
          have hfz121_1 := blk_frozen BK296.out 1
          have hnb122 := NB297_298.out
          have hnc122 := NB298_297.out
          have hcz123_0 : w21.cell? ⟨gb297, 0, none⟩ = some (.int .i64 a3_0) := (blk_cell BK297.out 0).trans rfl
          have hcz123_1 : w21.cell? ⟨gb297, 1, none⟩ = some (.int .i64 a3_1) := (blk_cell BK297.out 1).trans rfl
          have hfz123_0 := blk_frozen BK297.out 0
          have hfz123_1 := blk_frozen BK297.out 1
          go_wp2_with (first | (go_at_call 12; (with_reducible refine (dot_Compare.calls kj5 a3_0 a3_1 a2_0 a2_1 t309 _ A118.out).mono ?_); rintro e w124 ⟨rfl, hb⟩; have n0_ := Aside0.mk (blk_below (g := gb296) (o := .cells #[.int .i64 a2_0, .int .i64 a2_1] 23 (0, 0)) (by (with_reducible repeat (first | refine blk_drewN ?_ _ | refine blk_drew ?_ | refine blk_alloc ?_ _)); exact BK296.out) hb); have n1_ := Aside0.mk (blk_below (g := gb297) (o := .cells #[.int .i64 a3_0, .int .i64 a3_1] 23 (0, 0)) (by (with_reducible repeat (first | refine blk_drewN ?_ _ | refine blk_drew ?_ | refine blk_alloc ?_ _)); exact BK297.out) hb); have n2_ := Aside0.mk (blk_below (g := gb298) (o := .cells #[.int .i64 a4_0, .int .i64 a4_1] 23 (0, 0)) (by (with_reducible repeat (first | refine blk_drewN ?_ _ | refine blk_drew ?_ | refine blk_alloc ?_ _)); exact BK298.out) hb); have n3_ := Aside0.mk (below_step (by repeat (first | (with_reducible first | exact HB.out | apply below_alloc | apply pw_below_drewN | apply below_drew1 | refine below_set ?_ GE296.out | refine below_set ?_ GE297.out | refine below_set ?_ GE298.out) | exact HB.out)) hb); clear BK296; clear BK297; clear BK298; clear HB; have BK296 := n0_; have BK297 := n1_; have BK298 := n2_; have HB := n3_; clear n0_ n1_ n2_ n3_; (try clear hb); (try clear hb2); (try clear hk); (try clear hi)))
          go_meet
          case rel => exact ⟨_, ((t309 != (wrap64 (-t300)))), (by first | rfl | (simp; done) | (simp [*]; done)), H', ⟨by have := HJ5.out; first | omega | exact Nat.le_refl _⟩, ⟨by (with_reducible repeat (first | refine blk_drewN ?_ _ | refine blk_drew ?_ | refine blk_alloc ?_ _)); exact BK296.out⟩, ⟨by (with_reducible repeat (first | refine blk_drewN ?_ _ | refine blk_drew ?_ | refine blk_alloc ?_ _)); exact BK297.out⟩, ⟨by (with_reducible repeat (first | refine blk_drewN ?_ _ | refine blk_drew ?_ | refine blk_alloc ?_ _)); exact BK298.out⟩, ⟨by repeat (first | (with_reducible first | exact HB.out | apply below_alloc | apply pw_below_drewN | apply below_drew1 | refine below_set ?_ GE296.out | refine below_set ?_ GE297.out | refine below_set ?_ GE298.out) | exact HB.out)⟩⟩
       ·
        rw [if_neg c110] at H
        have c110b0 : decide (0 < t301) = false := decide_eq_false c110
        clear c110
        by_cases c125 : ((t300 == 0) != (a2_0 == a3_0 && (a2_1 == a3_1))) = true
        ·
         rw [if_pos c125] at H
         exact absurd H (redpencillaw04_DotHolds.j1_no _ _ _ _ _)
        ·
         rw [if_neg c125] at H
         have c125b0 : ((t300 == 0) != (a2_0 == a3_0 && (a2_1 == a3_1))) = false := by simpa using c125
         (try (have c125b1 : decide ((t300 == 0) = (a2_0 == a3_0 && (a2_1 == a3_1))) = true := by simpa using c125))
         (try (have c125b2 : ((t300 == 0) == (a2_0 == a3_0 && (a2_1 == a3_1))) = true := by simpa using c125))
         clear c125
         replace H := Option.bind_eq_some_iff.mp H
         obtain ⟨t310, A1310, H⟩ := H
         replace H : (redpencillaw04_DotHolds.j1 kj5 l0 l1 (t310 != (wrap64 (-t300))) a2_0 a2_1) = some true := H
         have A131 := Aside0.mk A1310
         clear A1310
         have H' := Aside0.mk H
         clear H
         have hnb132 := NB296_297.out
         have hnc132 := NB297_296.out
         have hnb133 := NB296_298.out
         have hnc133 := NB298_296.out
         have hcz134_0 : w21.cell? ⟨gb296, 0, none⟩ = some (.int .i64 a2_0) := (blk_cell BK296.out 0).trans rfl
         have hcz134_1 : w21.cell? ⟨gb296, 1, none⟩ = some (.int .i64 a2_1) := (blk_cell BK296.out 1).trans rfl
         have hfz134_0 := blk_frozen BK296.out 0
         have hfz134_1 := blk_frozen BK296.out 1
         have hnb135 := NB297_298.out
         have hnc135 := NB298_297.out
         have hcz136_0 : w21.cell? ⟨gb297, 0, none⟩ = some (.int .i64 a3_0) := (blk_cell BK297.out 0).trans rfl
         have hcz136_1 : w21.cell? ⟨gb297, 1, none⟩ = some (.int .i64 a3_1) := (blk_cell BK297.out 1).trans rfl
         have hfz136_0 := blk_frozen BK297.out 0
         have hfz136_1 := blk_frozen BK297.out 1
         go_wp2_with (first | (go_at_call 12; (with_reducible refine (dot_Compare.calls kj5 a3_0 a3_1 a2_0 a2_1 t310 _ A131.out).mono ?_); rintro e w137 ⟨rfl, hb⟩; have n0_ := Aside0.mk (blk_below (g := gb296) (o := .cells #[.int .i64 a2_0, .int .i64 a2_1] 23 (0, 0)) (by (with_reducible repeat (first | refine blk_drewN ?_ _ | refine blk_drew ?_ | refine blk_alloc ?_ _)); exact BK296.out) hb); have n1_ := Aside0.mk (blk_below (g := gb297) (o := .cells #[.int .i64 a3_0, .int .i64 a3_1] 23 (0, 0)) (by (with_reducible repeat (first | refine blk_drewN ?_ _ | refine blk_drew ?_ | refine blk_alloc ?_ _)); exact BK297.out) hb); have n2_ := Aside0.mk (blk_below (g := gb298) (o := .cells #[.int .i64 a4_0, .int .i64 a4_1] 23 (0, 0)) (by (with_reducible repeat (first | refine blk_drewN ?_ _ | refine blk_drew ?_ | refine blk_alloc ?_ _)); exact BK298.out) hb); have n3_ := Aside0.mk (below_step (by repeat (first | (with_reducible first | exact HB.out | apply below_alloc | apply pw_below_drewN | apply below_drew1 | refine below_set ?_ GE296.out | refine below_set ?_ GE297.out | refine below_set ?_ GE298.out) | exact HB.out)) hb); clear BK296; clear BK297; clear BK298; clear HB; have BK296 := n0_; have BK297 := n1_; have BK298 := n2_; have HB := n3_; clear n0_ n1_ n2_ n3_; (try clear hb); (try clear hb2); (try clear hk); (try clear hi)))
         go_meet
         case rel => exact ⟨_, ((t310 != (wrap64 (-t300)))), (by first | rfl | (simp; done) | (simp [*]; done)), H', ⟨by have := HJ5.out; first | omega | exact Nat.le_refl _⟩, ⟨by (with_reducible repeat (first | refine blk_drewN ?_ _ | refine blk_drew ?_ | refine blk_alloc ?_ _)); exact BK296.out⟩, ⟨by (with_reducible repeat (first | refine blk_drewN ?_ _ | refine blk_drew ?_ | refine blk_alloc ?_ _)); exact BK297.out⟩, ⟨by (with_reducible repeat (first | refine blk_drewN ?_ _ | refine blk_drew ?_ | refine blk_alloc ?_ _)); exact BK298.out⟩, ⟨by repeat (first | (with_reducible first | exact HB.out | apply below_alloc | apply pw_below_drewN | apply below_drew1 | refine below_set ?_ GE296.out | refine below_set ?_ GE297.out | refine below_set ?_ GE298.out) | exact HB.out)⟩⟩
      ·
       rw [if_neg c109] at H
       have c109b0 : decide (0 < t300) = false := decide_eq_false c109
       clear c109
       by_cases c138 : ((t300 == 0) != (a2_0 == a3_0 && (a2_1 == a3_1))) = true
       ·
        rw [if_pos c138] at H
        exact absurd H (redpencillaw04_DotHolds.j1_no _ _ _ _ _)
       ·
        rw [if_neg c138] at H
        have c138b0 : ((t300 == 0) != (a2_0 == a3_0 && (a2_1 == a3_1))) = false := by simpa using c138
        (try (have c138b1 : decide ((t300 == 0) = (a2_0 == a3_0 && (a2_1 == a3_1))) = true := by simpa using c138))
        (try (have c138b2 : ((t300 == 0) == (a2_0 == a3_0 && (a2_1 == a3_1))) = true := by simpa using c138))
        clear c138
        replace H := Option.bind_eq_some_iff.mp H
        obtain ⟨t311, A1440, H⟩ := H
        replace H : (redpencillaw04_DotHolds.j1 kj5 l0 l1 (t311 != (wrap64 (-t300))) a2_0 a2_1) = some true := H
        have A144 := Aside0.mk A1440
        clear A1440
        have H' := Aside0.mk H
        clear H
        have hnb145 := NB296_297.out
        have hnc145 := NB297_296.out
        have hnb146 := NB296_298.out
        have hnc146 := NB298_296.out
        have hcz147_0 : w21.cell? ⟨gb296, 0, none⟩ = some (.int .i64 a2_0) := (blk_cell BK296.out 0).trans rfl
        have hcz147_1 : w21.cell? ⟨gb296, 1, none⟩ = some (.int .i64 a2_1) := (blk_cell BK296.out 1).trans rfl
        have hfz147_0 := blk_frozen BK296.out 0
        have hfz147_1 := blk_frozen BK296.out 1
        have hnb148 := NB297_298.out
        have hnc148 := NB298_297.out
        have hcz149_0 : w21.cell? ⟨gb297, 0, none⟩ = some (.int .i64 a3_0) := (blk_cell BK297.out 0).trans rfl
        have hcz149_1 : w21.cell? ⟨gb297, 1, none⟩ = some (.int .i64 a3_1) := (blk_cell BK297.out 1).trans rfl
        have hfz149_0 := blk_frozen BK297.out 0
        have hfz149_1 := blk_frozen BK297.out 1
        go_wp2_with (first | (go_at_call 12; (with_reducible refine (dot_Compare.calls kj5 a3_0 a3_1 a2_0 a2_1 t311 _ A144.out).mono ?_); rintro e w150 ⟨rfl, hb⟩; have n0_ := Aside0.mk (blk_below (g := gb296) (o := .cells #[.int .i64 a2_0, .int .i64 a2_1] 23 (0, 0)) (by (with_reducible repeat (first | refine blk_drewN ?_ _ | refine blk_drew ?_ | refine blk_alloc ?_ _)); exact BK296.out) hb); have n1_ := Aside0.mk (blk_below (g := gb297) (o := .cells #[.int .i64 a3_0, .int .i64 a3_1] 23 (0, 0)) (by (with_reducible repeat (first | refine blk_drewN ?_ _ | refine blk_drew ?_ | refine blk_alloc ?_ _)); exact BK297.out) hb); have n2_ := Aside0.mk (blk_below (g := gb298) (o := .cells #[.int .i64 a4_0, .int .i64 a4_1] 23 (0, 0)) (by (with_reducible repeat (first | refine blk_drewN ?_ _ | refine blk_drew ?_ | refine blk_alloc ?_ _)); exact BK298.out) hb); have n3_ := Aside0.mk (below_step (by repeat (first | (with_reducible first | exact HB.out | apply below_alloc | apply pw_below_drewN | apply below_drew1 | refine below_set ?_ GE296.out | refine below_set ?_ GE297.out | refine below_set ?_ GE298.out) | exact HB.out)) hb); clear BK296; clear BK297; clear BK298; clear HB; have BK296 := n0_; have BK297 := n1_; have BK298 := n2_; have HB := n3_; clear n0_ n1_ n2_ n3_; (try clear hb); (try clear hb2); (try clear hk); (try clear hi)))
        go_meet
        case rel => exact ⟨_, ((t311 != (wrap64 (-t300)))), (by first | rfl | (simp; done) | (simp [*]; done)), H', ⟨by have := HJ5.out; first | omega | exact Nat.le_refl _⟩, ⟨by (with_reducible repeat (first | refine blk_drewN ?_ _ | refine blk_drew ?_ | refine blk_alloc ?_ _)); exact BK296.out⟩, ⟨by (with_reducible repeat (first | refine blk_drewN ?_ _ | refine blk_drew ?_ | refine blk_alloc ?_ _)); exact BK297.out⟩, ⟨by (with_reducible repeat (first | refine blk_drewN ?_ _ | refine blk_drew ?_ | refine blk_alloc ?_ _)); exact BK298.out⟩, ⟨by repeat (first | (with_reducible first | exact HB.out | apply below_alloc | apply pw_below_drewN | apply below_drew1 | refine below_set ?_ GE296.out | refine below_set ?_ GE297.out | refine below_set ?_ GE298.out) | exact HB.out)⟩⟩
    case rest =>
     clear HC17
     try clear c1
     try clear c2
     try clear p2
     try clear c3
     try clear c4
     try clear c5
     try clear c6
     try clear p6
     try clear c7
     try clear c8
     try clear c9
     try clear c10
     try clear c11
     try clear c12
     try clear c13
     try clear c14
     try clear c22
     try clear c22b0
     try clear c23
     try clear c23b0
     try clear c24
     try clear c24b0
     try clear c25
     try clear c25b0
     try clear c26
     try clear c26b0
     try clear c27
     try clear c27b0
     try clear c28
     try clear c28b0
     try clear c28b1
     try clear c28b2
     try clear c29
     try clear c30
     try clear c32
     try clear c35
     try clear c36
     try clear c38
     try clear c41
     try clear c41b0
     try clear c41b1
     try clear c41b2
     try clear c42
     try clear c43
     try clear c45
     try clear c48
     try clear c49
     try clear c51
     try clear c54
     try clear c54b0
     try clear c54b1
     try clear c54b2
     try clear c55
     try clear c56
     try clear c58
     try clear c61
     try clear c62
     try clear c64
     try clear p64
     try clear c67
     try clear c67b0
     try clear c68
     try clear c68b0
     try clear c69
     try clear c69b0
     try clear c70
     try clear c70b0
     try clear c70b1
     try clear c70b2
     try clear c71
     try clear c72
     try clear c74
     try clear c77
     try clear c78
     try clear c80
     try clear c83
     try clear c83b0
     try clear c83b1
     try clear c83b2
     try clear c84
     try clear c85
     try clear c87
     try clear c90
     try clear c91
     try clear c93
     try clear c96
     try clear c96b0
     try clear c96b1
     try clear c96b2
     try clear c97
     try clear c98
     try clear c100
     try clear c103
     try clear c104
     try clear c106
     try clear c109
     try clear c109b0
     try clear c110
     try clear c110b0
     try clear c111
     try clear c111b0
     try clear c112
     try clear c112b0
     try clear c112b1
     try clear c112b2
     try clear c113
     try clear c114
     try clear c116
     try clear c119
     try clear c120
     try clear c122
     try clear c125
     try clear c125b0
     try clear c125b1
     try clear c125b2
     try clear c126
     try clear c127
     try clear c129
     try clear c132
     try clear c133
     try clear c135
     try clear c138
     try clear c138b0
     try clear c138b1
     try clear c138b2
     try clear c139
     try clear c140
     try clear c142
     try clear c145
     try clear c146
     try clear c148
     try clear hcz101_0
     try clear hcz101_1
     try clear hcz105_0
     try clear hcz105_1
     try clear hcz107_0
     try clear hcz107_1
     try clear hcz115_0
     try clear hcz115_1
     try clear hcz117_0
     try clear hcz117_1
     try clear hcz121_0
     try clear hcz121_1
     try clear hcz123_0
     try clear hcz123_1
     try clear hcz128_0
     try clear hcz128_1
     try clear hcz130_0
     try clear hcz130_1
     try clear hcz134_0
     try clear hcz134_1
     try clear hcz136_0
     try clear hcz136_1
     try clear hcz141_0
     try clear hcz141_1
     try clear hcz143_0
     try clear hcz143_1
     try clear hcz147_0
     try clear hcz147_1
     try clear hcz149_0
     try clear hcz149_1
     try clear hcz31_0
     try clear hcz31_1
     try clear hcz33_0
     try clear hcz33_1
     try clear hcz37_0
     try clear hcz37_1
     try clear hcz39_0
     try clear hcz39_1
     try clear hcz44_0
     try clear hcz44_1
     try clear hcz46_0
     try clear hcz46_1
     try clear hcz50_0
     try clear hcz50_1
     try clear hcz52_0
     try clear hcz52_1
     try clear hcz57_0
     try clear hcz57_1
     try clear hcz59_0
     try clear hcz59_1
     try clear hcz63_0
     try clear hcz63_1
     try clear hcz65_0
     try clear hcz65_1
     try clear hcz73_0
     try clear hcz73_1
     try clear hcz75_0
     try clear hcz75_1
     try clear hcz79_0
     try clear hcz79_1
     try clear hcz81_0
     try clear hcz81_1
     try clear hcz86_0
     try clear hcz86_1
     try clear hcz88_0
     try clear hcz88_1
     try clear hcz92_0
     try clear hcz92_1
     try clear hcz94_0
     try clear hcz94_1
     try clear hcz99_0
     try clear hcz99_1
     try clear hfz101_0
     try clear hfz101_1
     try clear hfz105_0
     try clear hfz105_1
     try clear hfz107_0
     try clear hfz107_1
     try clear hfz115_0
     try clear hfz115_1
     try clear hfz117_0
     try clear hfz117_1
     try clear hfz121_0
     try clear hfz121_1
     try clear hfz123_0
     try clear hfz123_1
     try clear hfz128_0
     try clear hfz128_1
     try clear hfz130_0
     try clear hfz130_1
     try clear hfz134_0
     try clear hfz134_1
     try clear hfz136_0
     try clear hfz136_1
     try clear hfz141_0
     try clear hfz141_1
     try clear hfz143_0
     try clear hfz143_1
     try clear hfz147_0
     try clear hfz147_1
     try clear hfz149_0
     try clear hfz149_1
     try clear hfz31_0
     try clear hfz31_1
     try clear hfz33_0
     try clear hfz33_1
     try clear hfz37_0
     try clear hfz37_1
     try clear hfz39_0
     try clear hfz39_1
     try clear hfz44_0
     try clear hfz44_1
     try clear hfz46_0
     try clear hfz46_1
     try clear hfz50_0
     try clear hfz50_1
     try clear hfz52_0
     try clear hfz52_1
     try clear hfz57_0
     try clear hfz57_1
     try clear hfz59_0
     try clear hfz59_1
     try clear hfz63_0
     try clear hfz63_1
     try clear hfz65_0
     try clear hfz65_1
     try clear hfz73_0
     try clear hfz73_1
     try clear hfz75_0
     try clear hfz75_1
     try clear hfz79_0
     try clear hfz79_1
     try clear hfz81_0
     try clear hfz81_1
     try clear hfz86_0
     try clear hfz86_1
     try clear hfz88_0
     try clear hfz88_1
     try clear hfz92_0
     try clear hfz92_1
     try clear hfz94_0
     try clear hfz94_1
     try clear hfz99_0
     try clear hfz99_1
     obtain ⟨kq, x75_16, rfl, HA, HJ16, BK296, BK297, BK298, HB⟩ := hcut
     cases kq with
     | zero => exact absurd HA.out (by simp [redpencillaw04_DotHolds.j1])
     | succ kj16 =>
      have H := HA.out
      clear HA
      simp only [redpencillaw04_DotHolds.j1] at H
      by_cases c151 : x75_16 = true
      ·
       subst c151
       have H1 : (some false) = some true := by rw [if_pos rfl] at H; exact H
       exact absurd H1 (by simp)
      ·
       replace c151 := Bool.eq_false_iff.mpr c151
       subst c151
       have H1 : ((dot_Set.f l0).bind fun t312 => ((dot_IsSet.f kj16 t312).bind fun t315 => (if t315 = true then ((dot_Set.f t312).bind fun t316 => ((redpencilref04_Same.f kj16 t316 t312).bind fun t319 => (if t319 = true then ((dot_Union.f l0 l1).bind fun t320 => ((dot_Union.f l1 l0).bind fun t323 => ((redpencilref04_Same.f kj16 t320 t323).bind fun t326 => (redpencillaw04_DotHolds.j2 kj16 l0 l1 t312 (!t326) a2_0 a2_1)))) else (redpencillaw04_DotHolds.j2 kj16 l0 l1 t312 true a2_0 a2_1)))) else (redpencillaw04_DotHolds.j2 kj16 l0 l1 t312 true a2_0 a2_1)))) = some true := by rw [if_neg (show ¬ (false = true) by decide)] at H; exact H
       clear H
       have H := H1
       clear H1
       replace H := Option.bind_eq_some_iff.mp H
       obtain ⟨t312, A1520, H⟩ := H
       replace H : ((dot_IsSet.f kj16 t312).bind fun t315 => (if t315 = true then ((dot_Set.f t312).bind fun t316 => ((redpencilref04_Same.f kj16 t316 t312).bind fun t319 => (if t319 = true then ((dot_Union.f l0 l1).bind fun t320 => ((dot_Union.f l1 l0).bind fun t323 => ((redpencilref04_Same.f kj16 t320 t323).bind fun t326 => (redpencillaw04_DotHolds.j2 kj16 l0 l1 t312 (!t326) a2_0 a2_1)))) else (redpencillaw04_DotHolds.j2 kj16 l0 l1 t312 true a2_0 a2_1)))) else (redpencillaw04_DotHolds.j2 kj16 l0 l1 t312 true a2_0 a2_1))) = some true := H
       have A152 := Aside0.mk A1520
       clear A1520
       have HC153 := Aside0.mk H
       clear H
       go_upto_region 7 with (first | ((with_reducible refine gate_callee (f := 15) rfl ?_); refine goesL_ (some 77) rfl rfl Tryd.func15 (by kernel_rfl) rfl #[.slice A0 l0.length c0] rfl (by (try simp only [List.map_toArray, List.map_cons, List.map_nil]); first | done | rfl | (simp only [List.length_drop, List.length_take]; rfl)) ?_; (with_reducible refine (dot_Set.calls _ _ l0 t312 _ ?side1 ?side2 A152.out).mono ?_); (case side1 => repeat (first | exact (Kd.C_below HR0.out HB.out) | (with_reducible refine Kd.C_alloc ?_ _) | (with_reducible refine Kd.C_drewN ?_ _) | (with_reducible refine Kd.C_drew ?_))); (case side2 => exact HC0.out); rintro e w154 ⟨v313, rfl, ho0, hb⟩; refine ⟨_, rfl, ?_⟩; have n0_ := Aside0.mk (Kd.R_lower (Kd.R_newB (Kd.R_newB (Kd.R_newB ho0 (g := gb296) (o := .cells #[.int .i64 a2_0, .int .i64 a2_1] 23 (0, 0)) (by (with_reducible repeat (first | refine blk_drewN ?_ _ | refine blk_drew ?_ | refine blk_alloc ?_ _)); exact BK296.out)) (g := gb297) (o := .cells #[.int .i64 a3_0, .int .i64 a3_1] 23 (0, 0)) (by (with_reducible repeat (first | refine blk_drewN ?_ _ | refine blk_drew ?_ | refine blk_alloc ?_ _)); exact BK297.out)) (g := gb298) (o := .cells #[.int .i64 a4_0, .int .i64 a4_1] 23 (0, 0)) (by (with_reducible repeat (first | refine blk_drewN ?_ _ | refine blk_drew ?_ | refine blk_alloc ?_ _)); exact BK298.out)) (below_size (by repeat (first | (with_reducible first | exact HB.out | apply below_alloc | apply pw_below_drewN | apply below_drew1 | refine below_set ?_ GE296.out | refine below_set ?_ GE297.out | refine below_set ?_ GE298.out) | exact HB.out)))); have n1_ := Aside0.mk (blk_below (g := gb296) (o := .cells #[.int .i64 a2_0, .int .i64 a2_1] 23 (0, 0)) (by (with_reducible repeat (first | refine blk_drewN ?_ _ | refine blk_drew ?_ | refine blk_alloc ?_ _)); exact BK296.out) hb); have n2_ := Aside0.mk (blk_below (g := gb297) (o := .cells #[.int .i64 a3_0, .int .i64 a3_1] 23 (0, 0)) (by (with_reducible repeat (first | refine blk_drewN ?_ _ | refine blk_drew ?_ | refine blk_alloc ?_ _)); exact BK297.out) hb); have n3_ := Aside0.mk (blk_below (g := gb298) (o := .cells #[.int .i64 a4_0, .int .i64 a4_1] 23 (0, 0)) (by (with_reducible repeat (first | refine blk_drewN ?_ _ | refine blk_drew ?_ | refine blk_alloc ?_ _)); exact BK298.out) hb); have n4_ := Aside0.mk (below_step (by repeat (first | (with_reducible first | exact HB.out | apply below_alloc | apply pw_below_drewN | apply below_drew1 | refine below_set ?_ GE296.out | refine below_set ?_ GE297.out | refine below_set ?_ GE298.out) | exact HB.out)) hb); clear BK296; clear BK297; clear BK298; clear HB; have HO314 := n0_; have BK296 := n1_; have BK297 := n2_; have BK298 := n3_; have HB := n4_; clear n0_ n1_ n2_ n3_ n4_; (try clear hb); (try clear hb2); (try clear hk); (try clear hi); (try clear ho0)))
       (try simp only [Act.put, List.setIfInBounds_toArray, List.set_cons_zero, List.set_cons_succ])
       go_cut [97] (fun v97 wc => ∃ (kq : Nat) (x97_152 : Bool), v97 = .bool x97_152 ∧ Aside0 (redpencillaw04_DotHolds.j2 kq l0 l1 t312 x97_152 a2_0 a2_1 = some true) ∧ Aside0 (kq ≤ kj16) ∧ Aside0 (Kd.R k23 23 wc w.heap.size (fun k_ => k_ ≠ gb296 ∧ k_ ≠ gb297 ∧ k_ ≠ gb298) v313 t312) ∧ Aside0 (wc.heap[gb296]? = some (.cells #[.int .i64 a2_0, .int .i64 a2_1] 23 (0, 0))) ∧ Aside0 (wc.heap[gb297]? = some (.cells #[.int .i64 a3_0, .int .i64 a3_1] 23 (0, 0))) ∧ Aside0 (wc.heap[gb298]? = some (.cells #[.int .i64 a4_0, .int .i64 a4_1] 23 (0, 0))) ∧ Aside0 (Below w.heap.size w wc))
       case first =>
        have H := HC153.out
        clear HC153
        replace H := Option.bind_eq_some_iff.mp H
        obtain ⟨t315, A1550, H⟩ := H
        replace H : (if t315 = true then ((dot_Set.f t312).bind fun t316 => ((redpencilref04_Same.f kj16 t316 t312).bind fun t319 => (if t319 = true then ((dot_Union.f l0 l1).bind fun t320 => ((dot_Union.f l1 l0).bind fun t323 => ((redpencilref04_Same.f kj16 t320 t323).bind fun t326 => (redpencillaw04_DotHolds.j2 kj16 l0 l1 t312 (!t326) a2_0 a2_1)))) else (redpencillaw04_DotHolds.j2 kj16 l0 l1 t312 true a2_0 a2_1)))) else (redpencillaw04_DotHolds.j2 kj16 l0 l1 t312 true a2_0 a2_1)) = some true := H
        have A155 := Aside0.mk A1550
        clear A1550
        by_cases c156 : t315 = true
        ·
         subst c156
         have H1 : ((dot_Set.f t312).bind fun t316 => ((redpencilref04_Same.f kj16 t316 t312).bind fun t319 => (if t319 = true then ((dot_Union.f l0 l1).bind fun t320 => ((dot_Union.f l1 l0).bind fun t323 => ((redpencilref04_Same.f kj16 t320 t323).bind fun t326 => (redpencillaw04_DotHolds.j2 kj16 l0 l1 t312 (!t326) a2_0 a2_1)))) else (redpencillaw04_DotHolds.j2 kj16 l0 l1 t312 true a2_0 a2_1)))) = some true := by rw [if_pos rfl] at H; exact H
         clear H
         have H := H1
         clear H1
         replace H := Option.bind_eq_some_iff.mp H
         obtain ⟨t316, A1570, H⟩ := H
         replace H : ((redpencilref04_Same.f kj16 t316 t312).bind fun t319 => (if t319 = true then ((dot_Union.f l0 l1).bind fun t320 => ((dot_Union.f l1 l0).bind fun t323 => ((redpencilref04_Same.f kj16 t320 t323).bind fun t326 => (redpencillaw04_DotHolds.j2 kj16 l0 l1 t312 (!t326) a2_0 a2_1)))) else (redpencillaw04_DotHolds.j2 kj16 l0 l1 t312 true a2_0 a2_1))) = some true := H
         have A157 := Aside0.mk A1570
         clear A1570
         replace H := Option.bind_eq_some_iff.mp H
         obtain ⟨t319, A1580, H⟩ := H
         replace H : (if t319 = true then ((dot_Union.f l0 l1).bind fun t320 => ((dot_Union.f l1 l0).bind fun t323 => ((redpencilref04_Same.f kj16 t320 t323).bind fun t326 => (redpencillaw04_DotHolds.j2 kj16 l0 l1 t312 (!t326) a2_0 a2_1)))) else (redpencillaw04_DotHolds.j2 kj16 l0 l1 t312 true a2_0 a2_1)) = some true := H
         have A158 := Aside0.mk A1580
         clear A1580
         by_cases c159 : t319 = true
         ·
          subst c159
          have H1 : ((dot_Union.f l0 l1).bind fun t320 => ((dot_Union.f l1 l0).bind fun t323 => ((redpencilref04_Same.f kj16 t320 t323).bind fun t326 => (redpencillaw04_DotHolds.j2 kj16 l0 l1 t312 (!t326) a2_0 a2_1)))) = some true := by rw [if_pos rfl] at H; exact H
          clear H
          have H := H1
          clear H1
          replace H := Option.bind_eq_some_iff.mp H
          obtain ⟨t320, A1600, H⟩ := H
          replace H : ((dot_Union.f l1 l0).bind fun t323 => ((redpencilref04_Same.f kj16 t320 t323).bind fun t326 => (redpencillaw04_DotHolds.j2 kj16 l0 l1 t312 (!t326) a2_0 a2_1))) = some true := H
          have A160 := Aside0.mk A1600
          clear A1600
          replace H := Option.bind_eq_some_iff.mp H
          obtain ⟨t323, A1610, H⟩ := H
          replace H : ((redpencilref04_Same.f kj16 t320 t323).bind fun t326 => (redpencillaw04_DotHolds.j2 kj16 l0 l1 t312 (!t326) a2_0 a2_1)) = some true := H
          have A161 := Aside0.mk A1610
          clear A1610
          replace H := Option.bind_eq_some_iff.mp H
          obtain ⟨t326, A1620, H⟩ := H
          replace H : (redpencillaw04_DotHolds.j2 kj16 l0 l1 t312 (!t326) a2_0 a2_1) = some true := H
          have A162 := Aside0.mk A1620
          clear A1620
          have H' := Aside0.mk H
          clear H
          obtain ⟨Ao163, co163, eo163⟩ := Kd.R_slice HO314.out
          subst eo163
          go_wp2_with (first | ((with_reducible refine gate_callee (f := 16) rfl ?_); refine goesL_ (some 79) rfl rfl Tryd.func16 (by kernel_rfl) rfl #[.slice Ao163 t312.length co163] rfl (by (try simp only [List.map_toArray, List.map_cons, List.map_nil]); first | done | rfl | (simp only [List.length_drop, List.length_take]; rfl)) ?_; (with_reducible refine (dot_IsSet.calls kj16 _ _ t312 true _ ?side1 ?side2 A155.out).mono ?_); (case side1 => repeat (first | exact (Kd.R_reads' HO314.out).2.2 | (with_reducible refine Kd.C_alloc ?_ _) | (with_reducible refine Kd.C_drewN ?_ _) | (with_reducible refine Kd.C_drew ?_))); (case side2 => exact (Kd.R_reads' HO314.out).2.1); rintro e w164 ⟨rfl, hb⟩; refine ⟨_, rfl, ?_⟩; have n0_ := Aside0.mk (Kd.R_below (by (with_reducible repeat (first | apply Kd.R_alloc | apply Kd.R_drewN | apply Kd.R_drew)); exact HO314.out) hb); have n1_ := Aside0.mk (blk_below (g := gb296) (o := .cells #[.int .i64 a2_0, .int .i64 a2_1] 23 (0, 0)) (by (with_reducible repeat (first | refine blk_drewN ?_ _ | refine blk_drew ?_ | refine blk_alloc ?_ _)); exact BK296.out) hb); have n2_ := Aside0.mk (blk_below (g := gb297) (o := .cells #[.int .i64 a3_0, .int .i64 a3_1] 23 (0, 0)) (by (with_reducible repeat (first | refine blk_drewN ?_ _ | refine blk_drew ?_ | refine blk_alloc ?_ _)); exact BK297.out) hb); have n3_ := Aside0.mk (blk_below (g := gb298) (o := .cells #[.int .i64 a4_0, .int .i64 a4_1] 23 (0, 0)) (by (with_reducible repeat (first | refine blk_drewN ?_ _ | refine blk_drew ?_ | refine blk_alloc ?_ _)); exact BK298.out) hb); have n4_ := Aside0.mk (below_step (by repeat (first | (with_reducible first | exact HB.out | apply below_alloc | apply pw_below_drewN | apply below_drew1 | refine below_set ?_ GE296.out | refine below_set ?_ GE297.out | refine below_set ?_ GE298.out) | exact HB.out)) hb); clear HO314; clear BK296; clear BK297; clear BK298; clear HB; have HO314 := n0_; have BK296 := n1_; have BK297 := n2_; have BK298 := n3_; have HB := n4_; clear n0_ n1_ n2_ n3_ n4_; (try clear hb); (try clear hb2); (try clear hk); (try clear hi)) | (go_at_call 15; (with_reducible refine (dot_Set.calls _ _ t312 t316 _ ?side1 ?side2 A157.out).mono ?_); (case side1 => repeat (first | exact (Kd.R_reads' HO314.out).2.2 | (with_reducible refine Kd.C_alloc ?_ _) | (with_reducible refine Kd.C_drewN ?_ _) | (with_reducible refine Kd.C_drew ?_))); (case side2 => exact (Kd.R_reads' HO314.out).2.1); rintro e w165 ⟨v317, rfl, ho0, hb⟩; have n0_ := Aside0.mk (Kd.R_elder' (by (with_reducible repeat (first | apply Kd.R_alloc | apply Kd.R_drewN | apply Kd.R_drew)); exact HO314.out) (Kd.R_base ho0) hb); have n1_ := Aside0.mk (Kd.R_lower (Kd.R_newB (Kd.R_newB (Kd.R_newB (Kd.R_new' ho0 (Kd.R_lt (by (with_reducible repeat (first | apply Kd.R_alloc | apply Kd.R_drewN | apply Kd.R_drew)); exact HO314.out))) (g := gb296) (o := .cells #[.int .i64 a2_0, .int .i64 a2_1] 23 (0, 0)) (by (with_reducible repeat (first | refine blk_drewN ?_ _ | refine blk_drew ?_ | refine blk_alloc ?_ _)); exact BK296.out)) (g := gb297) (o := .cells #[.int .i64 a3_0, .int .i64 a3_1] 23 (0, 0)) (by (with_reducible repeat (first | refine blk_drewN ?_ _ | refine blk_drew ?_ | refine blk_alloc ?_ _)); exact BK297.out)) (g := gb298) (o := .cells #[.int .i64 a4_0, .int .i64 a4_1] 23 (0, 0)) (by (with_reducible repeat (first | refine blk_drewN ?_ _ | refine blk_drew ?_ | refine blk_alloc ?_ _)); exact BK298.out)) (below_size (by repeat (first | (with_reducible first | exact HB.out | apply below_alloc | apply pw_below_drewN | apply below_drew1 | refine below_set ?_ GE296.out | refine below_set ?_ GE297.out | refine below_set ?_ GE298.out) | exact HB.out)))); have n2_ := Aside0.mk (blk_below (g := gb296) (o := .cells #[.int .i64 a2_0, .int .i64 a2_1] 23 (0, 0)) (by (with_reducible repeat (first | refine blk_drewN ?_ _ | refine blk_drew ?_ | refine blk_alloc ?_ _)); exact BK296.out) hb); have n3_ := Aside0.mk (blk_below (g := gb297) (o := .cells #[.int .i64 a3_0, .int .i64 a3_1] 23 (0, 0)) (by (with_reducible repeat (first | refine blk_drewN ?_ _ | refine blk_drew ?_ | refine blk_alloc ?_ _)); exact BK297.out) hb); have n4_ := Aside0.mk (blk_below (g := gb298) (o := .cells #[.int .i64 a4_0, .int .i64 a4_1] 23 (0, 0)) (by (with_reducible repeat (first | refine blk_drewN ?_ _ | refine blk_drew ?_ | refine blk_alloc ?_ _)); exact BK298.out) hb); have n5_ := Aside0.mk (below_step (by repeat (first | (with_reducible first | exact HB.out | apply below_alloc | apply pw_below_drewN | apply below_drew1 | refine below_set ?_ GE296.out | refine below_set ?_ GE297.out | refine below_set ?_ GE298.out) | exact HB.out)) hb); clear HO314; clear BK296; clear BK297; clear BK298; clear HB; have HO314 := n0_; have HO318 := n1_; have BK296 := n2_; have BK297 := n3_; have BK298 := n4_; have HB := n5_; clear n0_ n1_ n2_ n3_ n4_ n5_; (try clear hb); (try clear hb2); (try clear hk); (try clear hi); (try clear ho0); obtain ⟨Ao166, co166, eo166⟩ := Kd.R_slice HO318.out; subst eo166) | (go_at_call 18; (with_reducible refine (redpencilref04_Same.calls kj16 _ _ t316 _ _ t312 true _ ?side1 ?side2 ?side3 ?side4 A158.out).mono ?_); (case side1 => repeat (first | exact (Kd.R_reads' HO318.out).2.2 | (with_reducible refine Kd.C_alloc ?_ _) | (with_reducible refine Kd.C_drewN ?_ _) | (with_reducible refine Kd.C_drew ?_))); (case side2 => exact (Kd.R_reads' HO318.out).2.1); (case side3 => repeat (first | exact (Kd.R_reads' HO314.out).2.2 | (with_reducible refine Kd.C_alloc ?_ _) | (with_reducible refine Kd.C_drewN ?_ _) | (with_reducible refine Kd.C_drew ?_))); (case side4 => exact (Kd.R_reads' HO314.out).2.1); rintro e w' ⟨rfl, ⟨nd, rfl⟩⟩) | (go_at_call 22; (with_reducible refine (dot_Union.calls _ _ l0 _ _ l1 t320 _ ?side1 ?side2 ?side3 ?side4 A160.out).mono ?_); (case side1 => repeat (first | exact (Kd.C_below HR0.out (by repeat (first | (with_reducible first | exact HB.out | apply below_alloc | apply pw_below_drewN | apply below_drew1 | refine below_set ?_ GE296.out | refine below_set ?_ GE297.out | refine below_set ?_ GE298.out) | exact HB.out))) | (with_reducible refine Kd.C_alloc ?_ _) | (with_reducible refine Kd.C_drewN ?_ _) | (with_reducible refine Kd.C_drew ?_))); (case side2 => exact HC0.out); (case side3 => repeat (first | exact (Kd.C_below HR1.out (by repeat (first | (with_reducible first | exact HB.out | apply below_alloc | apply pw_below_drewN | apply below_drew1 | refine below_set ?_ GE296.out | refine below_set ?_ GE297.out | refine below_set ?_ GE298.out) | exact HB.out))) | (with_reducible refine Kd.C_alloc ?_ _) | (with_reducible refine Kd.C_drewN ?_ _) | (with_reducible refine Kd.C_drew ?_))); (case side4 => exact HC1.out); rintro e w167 ⟨v321, rfl, ho0, hb⟩; have n0_ := Aside0.mk (Kd.R_elder' (by (with_reducible repeat (first | apply Kd.R_alloc | apply Kd.R_drewN | apply Kd.R_drew)); exact HO314.out) (Kd.R_base ho0) hb); have n1_ := Aside0.mk (Kd.R_elder' (by (with_reducible repeat (first | apply Kd.R_alloc | apply Kd.R_drewN | apply Kd.R_drew)); exact HO318.out) (Kd.R_base ho0) hb); have n2_ := Aside0.mk (Kd.R_lower (Kd.R_newB (Kd.R_newB (Kd.R_newB (Kd.R_new' (Kd.R_new' ho0 (Kd.R_lt (by (with_reducible repeat (first | apply Kd.R_alloc | apply Kd.R_drewN | apply Kd.R_drew)); exact HO314.out))) (Kd.R_lt (by (with_reducible repeat (first | apply Kd.R_alloc | apply Kd.R_drewN | apply Kd.R_drew)); exact HO318.out))) (g := gb296) (o := .cells #[.int .i64 a2_0, .int .i64 a2_1] 23 (0, 0)) (by (with_reducible repeat (first | refine blk_drewN ?_ _ | refine blk_drew ?_ | refine blk_alloc ?_ _)); exact BK296.out)) (g := gb297) (o := .cells #[.int .i64 a3_0, .int .i64 a3_1] 23 (0, 0)) (by (with_reducible repeat (first | refine blk_drewN ?_ _ | refine blk_drew ?_ | refine blk_alloc ?_ _)); exact BK297.out)) (g := gb298) (o := .cells #[.int .i64 a4_0, .int .i64 a4_1] 23 (0, 0)) (by (with_reducible repeat (first | refine blk_drewN ?_ _ | refine blk_drew ?_ | refine blk_alloc ?_ _)); exact BK298.out)) (below_size (by repeat (first | (with_reducible first | exact HB.out | apply below_alloc | apply pw_below_drewN | apply below_drew1 | refine below_set ?_ GE296.out | refine below_set ?_ GE297.out | refine below_set ?_ GE298.out) | exact HB.out)))); have n3_ := Aside0.mk (blk_below (g := gb296) (o := .cells #[.int .i64 a2_0, .int .i64 a2_1] 23 (0, 0)) (by (with_reducible repeat (first | refine blk_drewN ?_ _ | refine blk_drew ?_ | refine blk_alloc ?_ _)); exact BK296.out) hb); have n4_ := Aside0.mk (blk_below (g := gb297) (o := .cells #[.int .i64 a3_0, .int .i64 a3_1] 23 (0, 0)) (by (with_reducible repeat (first | refine blk_drewN ?_ _ | refine blk_drew ?_ | refine blk_alloc ?_ _)); exact BK297.out) hb); have n5_ := Aside0.mk (blk_below (g := gb298) (o := .cells #[.int .i64 a4_0, .int .i64 a4_1] 23 (0, 0)) (by (with_reducible repeat (first | refine blk_drewN ?_ _ | refine blk_drew ?_ | refine blk_alloc ?_ _)); exact BK298.out) hb); have n6_ := Aside0.mk (below_step (by repeat (first | (with_reducible first | exact HB.out | apply below_alloc | apply pw_below_drewN | apply below_drew1 | refine below_set ?_ GE296.out | refine below_set ?_ GE297.out | refine below_set ?_ GE298.out) | exact HB.out)) hb); clear HO314; clear HO318; clear BK296; clear BK297; clear BK298; clear HB; have HO314 := n0_; have HO318 := n1_; have HO322 := n2_; have BK296 := n3_; have BK297 := n4_; have BK298 := n5_; have HB := n6_; clear n0_ n1_ n2_ n3_ n4_ n5_ n6_; (try clear hb); (try clear hb2); (try clear hk); (try clear hi); (try clear ho0)) | (go_at_call 22; (with_reducible refine (dot_Union.calls _ _ l1 _ _ l0 t323 _ ?side1 ?side2 ?side3 ?side4 A161.out).mono ?_); (case side1 => repeat (first | exact (Kd.C_below HR1.out HB.out) | (with_reducible refine Kd.C_alloc ?_ _) | (with_reducible refine Kd.C_drewN ?_ _) | (with_reducible refine Kd.C_drew ?_))); (case side2 => exact HC1.out); (case side3 => repeat (first | exact (Kd.C_below HR0.out HB.out) | (with_reducible refine Kd.C_alloc ?_ _) | (with_reducible refine Kd.C_drewN ?_ _) | (with_reducible refine Kd.C_drew ?_))); (case side4 => exact HC0.out); rintro e w168 ⟨v324, rfl, ho0, hb⟩; have n0_ := Aside0.mk (Kd.R_elder' (by (with_reducible repeat (first | apply Kd.R_alloc | apply Kd.R_drewN | apply Kd.R_drew)); exact HO314.out) (Kd.R_base ho0) hb); have n1_ := Aside0.mk (Kd.R_elder' (by (with_reducible repeat (first | apply Kd.R_alloc | apply Kd.R_drewN | apply Kd.R_drew)); exact HO318.out) (Kd.R_base ho0) hb); have n2_ := Aside0.mk (Kd.R_elder' (by (with_reducible repeat (first | apply Kd.R_alloc | apply Kd.R_drewN | apply Kd.R_drew)); exact HO322.out) (Kd.R_base ho0) hb); have n3_ := Aside0.mk (Kd.R_lower (Kd.R_newB (Kd.R_newB (Kd.R_newB (Kd.R_new' (Kd.R_new' (Kd.R_new' ho0 (Kd.R_lt (by (with_reducible repeat (first | apply Kd.R_alloc | apply Kd.R_drewN | apply Kd.R_drew)); exact HO314.out))) (Kd.R_lt (by (with_reducible repeat (first | apply Kd.R_alloc | apply Kd.R_drewN | apply Kd.R_drew)); exact HO318.out))) (Kd.R_lt (by (with_reducible repeat (first | apply Kd.R_alloc | apply Kd.R_drewN | apply Kd.R_drew)); exact HO322.out))) (g := gb296) (o := .cells #[.int .i64 a2_0, .int .i64 a2_1] 23 (0, 0)) (by (with_reducible repeat (first | refine blk_drewN ?_ _ | refine blk_drew ?_ | refine blk_alloc ?_ _)); exact BK296.out)) (g := gb297) (o := .cells #[.int .i64 a3_0, .int .i64 a3_1] 23 (0, 0)) (by (with_reducible repeat (first | refine blk_drewN ?_ _ | refine blk_drew ?_ | refine blk_alloc ?_ _)); exact BK297.out)) (g := gb298) (o := .cells #[.int .i64 a4_0, .int .i64 a4_1] 23 (0, 0)) (by (with_reducible repeat (first | refine blk_drewN ?_ _ | refine blk_drew ?_ | refine blk_alloc ?_ _)); exact BK298.out)) (below_size (by repeat (first | (with_reducible first | exact HB.out | apply below_alloc | apply pw_below_drewN | apply below_drew1 | refine below_set ?_ GE296.out | refine below_set ?_ GE297.out | refine below_set ?_ GE298.out) | exact HB.out)))); have n4_ := Aside0.mk (blk_below (g := gb296) (o := .cells #[.int .i64 a2_0, .int .i64 a2_1] 23 (0, 0)) (by (with_reducible repeat (first | refine blk_drewN ?_ _ | refine blk_drew ?_ | refine blk_alloc ?_ _)); exact BK296.out) hb); have n5_ := Aside0.mk (blk_below (g := gb297) (o := .cells #[.int .i64 a3_0, .int .i64 a3_1] 23 (0, 0)) (by (with_reducible repeat (first | refine blk_drewN ?_ _ | refine blk_drew ?_ | refine blk_alloc ?_ _)); exact BK297.out) hb); have n6_ := Aside0.mk (blk_below (g := gb298) (o := .cells #[.int .i64 a4_0, .int .i64 a4_1] 23 (0, 0)) (by (with_reducible repeat (first | refine blk_drewN ?_ _ | refine blk_drew ?_ | refine blk_alloc ?_ _)); exact BK298.out) hb); have n7_ := Aside0.mk (below_step (by repeat (first | (with_reducible first | exact HB.out | apply below_alloc | apply pw_below_drewN | apply below_drew1 | refine below_set ?_ GE296.out | refine below_set ?_ GE297.out | refine below_set ?_ GE298.out) | exact HB.out)) hb); clear HO314; clear HO318; clear HO322; clear BK296; clear BK297; clear BK298; clear HB; have HO314 := n0_; have HO318 := n1_; have HO322 := n2_; have HO325 := n3_; have BK296 := n4_; have BK297 := n5_; have BK298 := n6_; have HB := n7_; clear n0_ n1_ n2_ n3_ n4_ n5_ n6_ n7_; (try clear hb); (try clear hb2); (try clear hk); (try clear hi); (try clear ho0); obtain ⟨Ao169, co169, eo169⟩ := Kd.R_slice HO322.out; subst eo169; obtain ⟨Ao170, co170, eo170⟩ := Kd.R_slice HO325.out; subst eo170) | (go_at_call 18; (with_reducible refine (redpencilref04_Same.calls kj16 _ _ t320 _ _ t323 t326 _ ?side1 ?side2 ?side3 ?side4 A162.out).mono ?_); (case side1 => repeat (first | exact (Kd.R_reads' HO322.out).2.2 | (with_reducible refine Kd.C_alloc ?_ _) | (with_reducible refine Kd.C_drewN ?_ _) | (with_reducible refine Kd.C_drew ?_))); (case side2 => exact (Kd.R_reads' HO322.out).2.1); (case side3 => repeat (first | exact (Kd.R_reads' HO325.out).2.2 | (with_reducible refine Kd.C_alloc ?_ _) | (with_reducible refine Kd.C_drewN ?_ _) | (with_reducible refine Kd.C_drew ?_))); (case side4 => exact (Kd.R_reads' HO325.out).2.1); rintro e w' ⟨rfl, ⟨nd, rfl⟩⟩))
          go_meet
          case rel => exact ⟨_, (!t326), (by first | rfl | (simp; done) | (simp [*]; done)), H', ⟨by have := HJ5.out; have := HJ16.out; first | omega | exact Nat.le_refl _⟩, ⟨by (with_reducible repeat (first | apply Kd.R_alloc | apply Kd.R_drewN | apply Kd.R_drew)); exact Kd.R_mono HO314.out (fun _ hk => ⟨hk.1.1.1.1.1.2, ⟨hk.1.1.1.1.2, hk.1.1.1.2⟩⟩)⟩, ⟨by (with_reducible repeat (first | refine blk_drewN ?_ _ | refine blk_drew ?_ | refine blk_alloc ?_ _)); exact BK296.out⟩, ⟨by (with_reducible repeat (first | refine blk_drewN ?_ _ | refine blk_drew ?_ | refine blk_alloc ?_ _)); exact BK297.out⟩, ⟨by (with_reducible repeat (first | refine blk_drewN ?_ _ | refine blk_drew ?_ | refine blk_alloc ?_ _)); exact BK298.out⟩, ⟨by repeat (first | (with_reducible first | exact HB.out | apply below_alloc | apply pw_below_drewN | apply below_drew1 | refine below_set ?_ GE296.out | refine below_set ?_ GE297.out | refine below_set ?_ GE298.out) | exact HB.out)⟩⟩
         ·
          replace c159 := Bool.eq_false_iff.mpr c159
          subst c159
          have H1 : (redpencillaw04_DotHolds.j2 kj16 l0 l1 t312 true a2_0 a2_1) = some true := by rw [if_neg (show ¬ (false = true) by decide)] at H; exact H
          exact absurd H1 (redpencillaw04_DotHolds.j2_no _ _ _ _ _ _)
        ·
         replace c156 := Bool.eq_false_iff.mpr c156
         subst c156
         have H1 : (redpencillaw04_DotHolds.j2 kj16 l0 l1 t312 true a2_0 a2_1) = some true := by rw [if_neg (show ¬ (false = true) by decide)] at H; exact H
         exact absurd H1 (redpencillaw04_DotHolds.j2_no _ _ _ _ _ _)
       case rest =>
        clear HC153
        try clear c1
        try clear c2
        try clear p2
        try clear c3
        try clear c4
        try clear c5
        try clear c6
        try clear p6
        try clear c7
        try clear c8
        try clear c9
        try clear c10
        try clear c11
        try clear c12
        try clear c13
        try clear c14
        try clear c15
        try clear c16
        try clear c22
        try clear c22b0
        try clear c23
        try clear c23b0
        try clear c24
        try clear c24b0
        try clear c25
        try clear c25b0
        try clear c26
        try clear c26b0
        try clear c27
        try clear c27b0
        try clear c28
        try clear c28b0
        try clear c28b1
        try clear c28b2
        try clear c29
        try clear c30
        try clear c32
        try clear c35
        try clear c36
        try clear c38
        try clear c41
        try clear c41b0
        try clear c41b1
        try clear c41b2
        try clear c42
        try clear c43
        try clear c45
        try clear c48
        try clear c49
        try clear c51
        try clear c54
        try clear c54b0
        try clear c54b1
        try clear c54b2
        try clear c55
        try clear c56
        try clear c58
        try clear c61
        try clear c62
        try clear c64
        try clear p64
        try clear c67
        try clear c67b0
        try clear c68
        try clear c68b0
        try clear c69
        try clear c69b0
        try clear c70
        try clear c70b0
        try clear c70b1
        try clear c70b2
        try clear c71
        try clear c72
        try clear c74
        try clear c77
        try clear c78
        try clear c80
        try clear c83
        try clear c83b0
        try clear c83b1
        try clear c83b2
        try clear c84
        try clear c85
        try clear c87
        try clear c90
        try clear c91
        try clear c93
        try clear c96
        try clear c96b0
        try clear c96b1
        try clear c96b2
        try clear c97
        try clear c98
        try clear c100
        try clear c103
        try clear c104
        try clear c106
        try clear c109
        try clear c109b0
        try clear c110
        try clear c110b0
        try clear c111
        try clear c111b0
        try clear c112
        try clear c112b0
        try clear c112b1
        try clear c112b2
        try clear c113
        try clear c114
        try clear c116
        try clear c119
        try clear c120
        try clear c122
        try clear c125
        try clear c125b0
        try clear c125b1
        try clear c125b2
        try clear c126
        try clear c127
        try clear c129
        try clear c132
        try clear c133
        try clear c135
        try clear c138
        try clear c138b0
        try clear c138b1
        try clear c138b2
        try clear c139
        try clear c140
        try clear c142
        try clear c145
        try clear c146
        try clear c148
        try clear c151
        try clear c156
        try clear c159
        try clear hcz101_0
        try clear hcz101_1
        try clear hcz105_0
        try clear hcz105_1
        try clear hcz107_0
        try clear hcz107_1
        try clear hcz115_0
        try clear hcz115_1
        try clear hcz117_0
        try clear hcz117_1
        try clear hcz121_0
        try clear hcz121_1
        try clear hcz123_0
        try clear hcz123_1
        try clear hcz128_0
        try clear hcz128_1
        try clear hcz130_0
        try clear hcz130_1
        try clear hcz134_0
        try clear hcz134_1
        try clear hcz136_0
        try clear hcz136_1
        try clear hcz141_0
        try clear hcz141_1
        try clear hcz143_0
        try clear hcz143_1
        try clear hcz147_0
        try clear hcz147_1
        try clear hcz149_0
        try clear hcz149_1
        try clear hcz31_0
        try clear hcz31_1
        try clear hcz33_0
        try clear hcz33_1
        try clear hcz37_0
        try clear hcz37_1
        try clear hcz39_0
        try clear hcz39_1
        try clear hcz44_0
        try clear hcz44_1
        try clear hcz46_0
        try clear hcz46_1
        try clear hcz50_0
        try clear hcz50_1
        try clear hcz52_0
        try clear hcz52_1
        try clear hcz57_0
        try clear hcz57_1
        try clear hcz59_0
        try clear hcz59_1
        try clear hcz63_0
        try clear hcz63_1
        try clear hcz65_0
        try clear hcz65_1
        try clear hcz73_0
        try clear hcz73_1
        try clear hcz75_0
        try clear hcz75_1
        try clear hcz79_0
        try clear hcz79_1
        try clear hcz81_0
        try clear hcz81_1
        try clear hcz86_0
        try clear hcz86_1
        try clear hcz88_0
        try clear hcz88_1
        try clear hcz92_0
        try clear hcz92_1
        try clear hcz94_0
        try clear hcz94_1
        try clear hcz99_0
        try clear hcz99_1
        try clear hfz101_0
        try clear hfz101_1
        try clear hfz105_0
        try clear hfz105_1
        try clear hfz107_0
        try clear hfz107_1
        try clear hfz115_0
        try clear hfz115_1
        try clear hfz117_0
        try clear hfz117_1
        try clear hfz121_0
        try clear hfz121_1
        try clear hfz123_0
        try clear hfz123_1
        try clear hfz128_0
        try clear hfz128_1
        try clear hfz130_0
        try clear hfz130_1
        try clear hfz134_0
        try clear hfz134_1
        try clear hfz136_0
        try clear hfz136_1
        try clear hfz141_0
        try clear hfz141_1
        try clear hfz143_0
        try clear hfz143_1
        try clear hfz147_0
        try clear hfz147_1
        try clear hfz149_0
        try clear hfz149_1
        try clear hfz31_0
        try clear hfz31_1
        try clear hfz33_0
        try clear hfz33_1
        try clear hfz37_0
        try clear hfz37_1
        try clear hfz39_0
        try clear hfz39_1
        try clear hfz44_0
        try clear hfz44_1
        try clear hfz46_0
        try clear hfz46_1
        try clear hfz50_0
        try clear hfz50_1
        try clear hfz52_0
        try clear hfz52_1
        try clear hfz57_0
        try clear hfz57_1
        try clear hfz59_0
        try clear hfz59_1
        try clear hfz63_0
        try clear hfz63_1
        try clear hfz65_0
        try clear hfz65_1
        try clear hfz73_0
        try clear hfz73_1
        try clear hfz75_0
        try clear hfz75_1
        try clear hfz79_0
        try clear hfz79_1
        try clear hfz81_0
        try clear hfz81_1
        try clear hfz86_0
        try clear hfz86_1
        try clear hfz88_0
        try clear hfz88_1
        try clear hfz92_0
        try clear hfz92_1
        try clear hfz94_0
        try clear hfz94_1
        try clear hfz99_0
        try clear hfz99_1
        try clear p2
        try clear p6
        try clear p64
        obtain ⟨kq, x97_152, rfl, HA, HJ152, HO_14, BK296, BK297, BK298, HB⟩ := hcut
        cases kq with
        | zero => exact absurd HA.out (by simp [redpencillaw04_DotHolds.j2])
        | succ kj152 =>
         have H := HA.out
         clear HA
         simp only [redpencillaw04_DotHolds.j2] at H
         by_cases c177 : x97_152 = true
         ·
          subst c177
          have H1 : (some false) = some true := by rw [if_pos rfl] at H; exact H
          exact absurd H1 (by simp)
         ·
          replace c177 := Bool.eq_false_iff.mpr c177
          subst c177
          have H1 : ((dot_Minus.f l0 l1).bind fun t327 => ((dot_Union.f t327 l1).bind fun t330 => ((dot_Union.f l0 l1).bind fun t333 => ((redpencilref04_Same.f kj152 t330 t333).bind fun t336 => (if t336 = true then ((dot_IsSet.f kj152 t327).bind fun t337 => (if t337 = true then ((dot_Minus.f t327 t312).bind fun t338 => (redpencillaw04_DotHolds.j3 kj152 l1 t327 ((t338.length : Int) != 0) a2_0 a2_1)) else (redpencillaw04_DotHolds.j3 kj152 l1 t327 true a2_0 a2_1))) else (redpencillaw04_DotHolds.j3 kj152 l1 t327 true a2_0 a2_1)))))) = some true := by rw [if_neg (show ¬ (false = true) by decide)] at H; exact H
          clear H
          have H := H1
          clear H1
          replace H := Option.bind_eq_some_iff.mp H
          obtain ⟨t327, A1780, H⟩ := H
          replace H : ((dot_Union.f t327 l1).bind fun t330 => ((dot_Union.f l0 l1).bind fun t333 => ((redpencilref04_Same.f kj152 t330 t333).bind fun t336 => (if t336 = true then ((dot_IsSet.f kj152 t327).bind fun t337 => (if t337 = true then ((dot_Minus.f t327 t312).bind fun t338 => (redpencillaw04_DotHolds.j3 kj152 l1 t327 ((t338.length : Int) != 0) a2_0 a2_1)) else (redpencillaw04_DotHolds.j3 kj152 l1 t327 true a2_0 a2_1))) else (redpencillaw04_DotHolds.j3 kj152 l1 t327 true a2_0 a2_1))))) = some true := H
          have A178 := Aside0.mk A1780
          clear A1780
          have HC179 := Aside0.mk H
          clear H
          go_upto_region 10 with (first | ((with_reducible refine gate_callee (f := 24) rfl ?_); refine goesL_ (some 100) rfl rfl Tryd.func24 (by kernel_rfl) rfl #[.slice A0 l0.length c0, .slice A1 l1.length c1] rfl (by (try simp only [List.map_toArray, List.map_cons, List.map_nil]); first | done | rfl | (simp only [List.length_drop, List.length_take]; rfl)) ?_; (with_reducible refine (dot_Minus.calls _ _ l0 _ _ l1 t327 _ ?side1 ?side2 ?side3 ?side4 A178.out).mono ?_); (case side1 => repeat (first | exact (Kd.C_below HR0.out HB.out) | (with_reducible refine Kd.C_alloc ?_ _) | (with_reducible refine Kd.C_drewN ?_ _) | (with_reducible refine Kd.C_drew ?_))); (case side2 => exact HC0.out); (case side3 => repeat (first | exact (Kd.C_below HR1.out HB.out) | (with_reducible refine Kd.C_alloc ?_ _) | (with_reducible refine Kd.C_drewN ?_ _) | (with_reducible refine Kd.C_drew ?_))); (case side4 => exact HC1.out); rintro e w180 ⟨v328, rfl, ho0, hb⟩; refine ⟨_, rfl, ?_⟩; have n0_ := Aside0.mk (Kd.R_elder' (by (with_reducible repeat (first | apply Kd.R_alloc | apply Kd.R_drewN | apply Kd.R_drew)); exact HO_14.out) (Kd.R_base ho0) hb); have n1_ := Aside0.mk (Kd.R_lower (Kd.R_newB (Kd.R_newB (Kd.R_newB (Kd.R_new' ho0 (Kd.R_lt (by (with_reducible repeat (first | apply Kd.R_alloc | apply Kd.R_drewN | apply Kd.R_drew)); exact HO_14.out))) (g := gb296) (o := .cells #[.int .i64 a2_0, .int .i64 a2_1] 23 (0, 0)) (by (with_reducible repeat (first | refine blk_drewN ?_ _ | refine blk_drew ?_ | refine blk_alloc ?_ _)); exact BK296.out)) (g := gb297) (o := .cells #[.int .i64 a3_0, .int .i64 a3_1] 23 (0, 0)) (by (with_reducible repeat (first | refine blk_drewN ?_ _ | refine blk_drew ?_ | refine blk_alloc ?_ _)); exact BK297.out)) (g := gb298) (o := .cells #[.int .i64 a4_0, .int .i64 a4_1] 23 (0, 0)) (by (with_reducible repeat (first | refine blk_drewN ?_ _ | refine blk_drew ?_ | refine blk_alloc ?_ _)); exact BK298.out)) (below_size (by repeat (first | (with_reducible first | exact HB.out | apply below_alloc | apply pw_below_drewN | apply below_drew1 | refine below_set ?_ GE296.out | refine below_set ?_ GE297.out | refine below_set ?_ GE298.out) | exact HB.out)))); have n2_ := Aside0.mk (blk_below (g := gb296) (o := .cells #[.int .i64 a2_0, .int .i64 a2_1] 23 (0, 0)) (by (with_reducible repeat (first | refine blk_drewN ?_ _ | refine blk_drew ?_ | refine blk_alloc ?_ _)); exact BK296.out) hb); have n3_ := Aside0.mk (blk_below (g := gb297) (o := .cells #[.int .i64 a3_0, .int .i64 a3_1] 23 (0, 0)) (by (with_reducible repeat (first | refine blk_drewN ?_ _ | refine blk_drew ?_ | refine blk_alloc ?_ _)); exact BK297.out) hb); have n4_ := Aside0.mk (blk_below (g := gb298) (o := .cells #[.int .i64 a4_0, .int .i64 a4_1] 23 (0, 0)) (by (with_reducible repeat (first | refine blk_drewN ?_ _ | refine blk_drew ?_ | refine blk_alloc ?_ _)); exact BK298.out) hb); have n5_ := Aside0.mk (below_step (by repeat (first | (with_reducible first | exact HB.out | apply below_alloc | apply pw_below_drewN | apply below_drew1 | refine below_set ?_ GE296.out | refine below_set ?_ GE297.out | refine below_set ?_ GE298.out) | exact HB.out)) hb); clear HO_14; clear BK296; clear BK297; clear BK298; clear HB; have HO_14 := n0_; have HO329 := n1_; have BK296 := n2_; have BK297 := n3_; have BK298 := n4_; have HB := n5_; clear n0_ n1_ n2_ n3_ n4_ n5_; (try clear hb); (try clear hb2); (try clear hk); (try clear hi); (try clear ho0)))
          (try simp only [Act.put, List.setIfInBounds_toArray, List.set_cons_zero, List.set_cons_succ])
          go_cut [120] (fun v120 wc => ∃ (kq : Nat) (x120_178 : Bool), v120 = .bool x120_178 ∧ Aside0 (redpencillaw04_DotHolds.j3 kq l1 t327 x120_178 a2_0 a2_1 = some true) ∧ Aside0 (kq ≤ kj152) ∧ Aside0 (Kd.R k23 23 wc w.heap.size (fun k_ => k_ ≠ gb296 ∧ k_ ≠ gb297 ∧ k_ ≠ gb298) v328 t327) ∧ Aside0 (wc.heap[gb296]? = some (.cells #[.int .i64 a2_0, .int .i64 a2_1] 23 (0, 0))) ∧ Aside0 (wc.heap[gb297]? = some (.cells #[.int .i64 a3_0, .int .i64 a3_1] 23 (0, 0))) ∧ Aside0 (wc.heap[gb298]? = some (.cells #[.int .i64 a4_0, .int .i64 a4_1] 23 (0, 0))) ∧ Aside0 (Below w.heap.size w wc))
          case first =>
           have H := HC179.out
           clear HC179
           replace H := Option.bind_eq_some_iff.mp H
           obtain ⟨t330, A1810, H⟩ := H
           replace H : ((dot_Union.f l0 l1).bind fun t333 => ((redpencilref04_Same.f kj152 t330 t333).bind fun t336 => (if t336 = true then ((dot_IsSet.f kj152 t327).bind fun t337 => (if t337 = true then ((dot_Minus.f t327 t312).bind fun t338 => (redpencillaw04_DotHolds.j3 kj152 l1 t327 ((t338.length : Int) != 0) a2_0 a2_1)) else (redpencillaw04_DotHolds.j3 kj152 l1 t327 true a2_0 a2_1))) else (redpencillaw04_DotHolds.j3 kj152 l1 t327 true a2_0 a2_1)))) = some true := H
           have A181 := Aside0.mk A1810
           clear A1810
           replace H := Option.bind_eq_some_iff.mp H
           obtain ⟨t333, A1820, H⟩ := H
           replace H : ((redpencilref04_Same.f kj152 t330 t333).bind fun t336 => (if t336 = true then ((dot_IsSet.f kj152 t327).bind fun t337 => (if t337 = true then ((dot_Minus.f t327 t312).bind fun t338 => (redpencillaw04_DotHolds.j3 kj152 l1 t327 ((t338.length : Int) != 0) a2_0 a2_1)) else (redpencillaw04_DotHolds.j3 kj152 l1 t327 true a2_0 a2_1))) else (redpencillaw04_DotHolds.j3 kj152 l1 t327 true a2_0 a2_1))) = some true := H
           have A182 := Aside0.mk A1820
           clear A1820
           replace H := Option.bind_eq_some_iff.mp H
           obtain ⟨t336, A1830, H⟩ := H
           replace H : (if t336 = true then ((dot_IsSet.f kj152 t327).bind fun t337 => (if t337 = true then ((dot_Minus.f t327 t312).bind fun t338 => (redpencillaw04_DotHolds.j3 kj152 l1 t327 ((t338.length : Int) != 0) a2_0 a2_1)) else (redpencillaw04_DotHolds.j3 kj152 l1 t327 true a2_0 a2_1))) else (redpencillaw04_DotHolds.j3 kj152 l1 t327 true a2_0 a2_1)) = some true := H
           have A183 := Aside0.mk A1830
           clear A1830
           by_cases c184 : t336 = true
           ·
            subst c184
            have H1 : ((dot_IsSet.f kj152 t327).bind fun t337 => (if t337 = true then ((dot_Minus.f t327 t312).bind fun t338 => (redpencillaw04_DotHolds.j3 kj152 l1 t327 ((t338.length : Int) != 0) a2_0 a2_1)) else (redpencillaw04_DotHolds.j3 kj152 l1 t327 true a2_0 a2_1))) = some true := by rw [if_pos rfl] at H; exact H
            clear H
            have H := H1
            clear H1
            replace H := Option.bind_eq_some_iff.mp H
            obtain ⟨t337, A1850, H⟩ := H
            replace H : (if t337 = true then ((dot_Minus.f t327 t312).bind fun t338 => (redpencillaw04_DotHolds.j3 kj152 l1 t327 ((t338.length : Int) != 0) a2_0 a2_1)) else (redpencillaw04_DotHolds.j3 kj152 l1 t327 true a2_0 a2_1)) = some true := H
            have A185 := Aside0.mk A1850
            clear A1850
            by_cases c186 : t337 = true
            ·
             subst c186
             have H1 : ((dot_Minus.f t327 t312).bind fun t338 => (redpencillaw04_DotHolds.j3 kj152 l1 t327 ((t338.length : Int) != 0) a2_0 a2_1)) = some true := by rw [if_pos rfl] at H; exact H
             clear H
             have H := H1
             clear H1
             replace H := Option.bind_eq_some_iff.mp H
             obtain ⟨t338, A1870, H⟩ := H
             replace H : (redpencillaw04_DotHolds.j3 kj152 l1 t327 ((t338.length : Int) != 0) a2_0 a2_1) = some true := H
             have A187 := Aside0.mk A1870
             clear A1870
             have H' := Aside0.mk H
             clear H
             obtain ⟨Ao188, co188, eo188⟩ := Kd.R_slice HO329.out
             subst eo188
             go_wp2_with (first | ((with_reducible refine gate_callee (f := 22) rfl ?_); refine goesL_ (some 103) rfl rfl Tryd.func22 (by kernel_rfl) rfl #[.slice Ao188 t327.length co188, .slice A1 l1.length c1] rfl (by (try simp only [List.map_toArray, List.map_cons, List.map_nil]); first | done | rfl | (simp only [List.length_drop, List.length_take]; rfl)) ?_; (with_reducible refine (dot_Union.calls _ _ t327 _ _ l1 t330 _ ?side1 ?side2 ?side3 ?side4 A181.out).mono ?_); (case side1 => repeat (first | exact (Kd.R_reads' HO329.out).2.2 | (with_reducible refine Kd.C_alloc ?_ _) | (with_reducible refine Kd.C_drewN ?_ _) | (with_reducible refine Kd.C_drew ?_))); (case side2 => exact (Kd.R_reads' HO329.out).2.1); (case side3 => repeat (first | exact (Kd.C_below HR1.out HB.out) | (with_reducible refine Kd.C_alloc ?_ _) | (with_reducible refine Kd.C_drewN ?_ _) | (with_reducible refine Kd.C_drew ?_))); (case side4 => exact HC1.out); rintro e w189 ⟨v331, rfl, ho0, hb⟩; refine ⟨_, rfl, ?_⟩; have n0_ := Aside0.mk (Kd.R_elder' (by (with_reducible repeat (first | apply Kd.R_alloc | apply Kd.R_drewN | apply Kd.R_drew)); exact HO_14.out) (Kd.R_base ho0) hb); have n1_ := Aside0.mk (Kd.R_elder' (by (with_reducible repeat (first | apply Kd.R_alloc | apply Kd.R_drewN | apply Kd.R_drew)); exact HO329.out) (Kd.R_base ho0) hb); have n2_ := Aside0.mk (Kd.R_lower (Kd.R_newB (Kd.R_newB (Kd.R_newB (Kd.R_new' (Kd.R_new' ho0 (Kd.R_lt (by (with_reducible repeat (first | apply Kd.R_alloc | apply Kd.R_drewN | apply Kd.R_drew)); exact HO_14.out))) (Kd.R_lt (by (with_reducible repeat (first | apply Kd.R_alloc | apply Kd.R_drewN | apply Kd.R_drew)); exact HO329.out))) (g := gb296) (o := .cells #[.int .i64 a2_0, .int .i64 a2_1] 23 (0, 0)) (by (with_reducible repeat (first | refine blk_drewN ?_ _ | refine blk_drew ?_ | refine blk_alloc ?_ _)); exact BK296.out)) (g := gb297) (o := .cells #[.int .i64 a3_0, .int .i64 a3_1] 23 (0, 0)) (by (with_reducible repeat (first | refine blk_drewN ?_ _ | refine blk_drew ?_ | refine blk_alloc ?_ _)); exact BK297.out)) (g := gb298) (o := .cells #[.int .i64 a4_0, .int .i64 a4_1] 23 (0, 0)) (by (with_reducible repeat (first | refine blk_drewN ?_ _ | refine blk_drew ?_ | refine blk_alloc ?_ _)); exact BK298.out)) (below_size (by repeat (first | (with_reducible first | exact HB.out | apply below_alloc | apply pw_below_drewN | apply below_drew1 | refine below_set ?_ GE296.out | refine below_set ?_ GE297.out | refine below_set ?_ GE298.out) | exact HB.out)))); have n3_ := Aside0.mk (blk_below (g := gb296) (o := .cells #[.int .i64 a2_0, .int .i64 a2_1] 23 (0, 0)) (by (with_reducible repeat (first | refine blk_drewN ?_ _ | refine blk_drew ?_ | refine blk_alloc ?_ _)); exact BK296.out) hb); have n4_ := Aside0.mk (blk_below (g := gb297) (o := .cells #[.int .i64 a3_0, .int .i64 a3_1] 23 (0, 0)) (by (with_reducible repeat (first | refine blk_drewN ?_ _ | refine blk_drew ?_ | refine blk_alloc ?_ _)); exact BK297.out) hb); have n5_ := Aside0.mk (blk_below (g := gb298) (o := .cells #[.int .i64 a4_0, .int .i64 a4_1] 23 (0, 0)) (by (with_reducible repeat (first | refine blk_drewN ?_ _ | refine blk_drew ?_ | refine blk_alloc ?_ _)); exact BK298.out) hb); have n6_ := Aside0.mk (below_step (by repeat (first | (with_reducible first | exact HB.out | apply below_alloc | apply pw_below_drewN | apply below_drew1 | refine below_set ?_ GE296.out | refine below_set ?_ GE297.out | refine below_set ?_ GE298.out) | exact HB.out)) hb); clear HO_14; clear HO329; clear BK296; clear BK297; clear BK298; clear HB; have HO_14 := n0_; have HO329 := n1_; have HO332 := n2_; have BK296 := n3_; have BK297 := n4_; have BK298 := n5_; have HB := n6_; clear n0_ n1_ n2_ n3_ n4_ n5_ n6_; (try clear hb); (try clear hb2); (try clear hk); (try clear hi); (try clear ho0)) | ((with_reducible refine gate_callee (f := 22) rfl ?_); refine goesL_ (some 106) rfl rfl Tryd.func22 (by kernel_rfl) rfl #[.slice A0 l0.length c0, .slice A1 l1.length c1] rfl (by (try simp only [List.map_toArray, List.map_cons, List.map_nil]); first | done | rfl | (simp only [List.length_drop, List.length_take]; rfl)) ?_; (with_reducible refine (dot_Union.calls _ _ l0 _ _ l1 t333 _ ?side1 ?side2 ?side3 ?side4 A182.out).mono ?_); (case side1 => repeat (first | exact (Kd.C_below HR0.out HB.out) | (with_reducible refine Kd.C_alloc ?_ _) | (with_reducible refine Kd.C_drewN ?_ _) | (with_reducible refine Kd.C_drew ?_))); (case side2 => exact HC0.out); (case side3 => repeat (first | exact (Kd.C_below HR1.out HB.out) | (with_reducible refine Kd.C_alloc ?_ _) | (with_reducible refine Kd.C_drewN ?_ _) | (with_reducible refine Kd.C_drew ?_))); (case side4 => exact HC1.out); rintro e w190 ⟨v334, rfl, ho0, hb⟩; refine ⟨_, rfl, ?_⟩; have n0_ := Aside0.mk (Kd.R_elder' (by (with_reducible repeat (first | apply Kd.R_alloc | apply Kd.R_drewN | apply Kd.R_drew)); exact HO_14.out) (Kd.R_base ho0) hb); have n1_ := Aside0.mk (Kd.R_elder' (by (with_reducible repeat (first | apply Kd.R_alloc | apply Kd.R_drewN | apply Kd.R_drew)); exact HO329.out) (Kd.R_base ho0) hb); have n2_ := Aside0.mk (Kd.R_elder' (by (with_reducible repeat (first | apply Kd.R_alloc | apply Kd.R_drewN | apply Kd.R_drew)); exact HO332.out) (Kd.R_base ho0) hb); have n3_ := Aside0.mk (Kd.R_lower (Kd.R_newB (Kd.R_newB (Kd.R_newB (Kd.R_new' (Kd.R_new' (Kd.R_new' ho0 (Kd.R_lt (by (with_reducible repeat (first | apply Kd.R_alloc | apply Kd.R_drewN | apply Kd.R_drew)); exact HO_14.out))) (Kd.R_lt (by (with_reducible repeat (first | apply Kd.R_alloc | apply Kd.R_drewN | apply Kd.R_drew)); exact HO329.out))) (Kd.R_lt (by (with_reducible repeat (first | apply Kd.R_alloc | apply Kd.R_drewN | apply Kd.R_drew)); exact HO332.out))) (g := gb296) (o := .cells #[.int .i64 a2_0, .int .i64 a2_1] 23 (0, 0)) (by (with_reducible repeat (first | refine blk_drewN ?_ _ | refine blk_drew ?_ | refine blk_alloc ?_ _)); exact BK296.out)) (g := gb297) (o := .cells #[.int .i64 a3_0, .int .i64 a3_1] 23 (0, 0)) (by (with_reducible repeat (first | refine blk_drewN ?_ _ | refine blk_drew ?_ | refine blk_alloc ?_ _)); exact BK297.out)) (g := gb298) (o := .cells #[.int .i64 a4_0, .int .i64 a4_1] 23 (0, 0)) (by (with_reducible repeat (first | refine blk_drewN ?_ _ | refine blk_drew ?_ | refine blk_alloc ?_ _)); exact BK298.out)) (below_size (by repeat (first | (with_reducible first | exact HB.out | apply below_alloc | apply pw_below_drewN | apply below_drew1 | refine below_set ?_ GE296.out | refine below_set ?_ GE297.out | refine below_set ?_ GE298.out) | exact HB.out)))); have n4_ := Aside0.mk (blk_below (g := gb296) (o := .cells #[.int .i64 a2_0, .int .i64 a2_1] 23 (0, 0)) (by (with_reducible repeat (first | refine blk_drewN ?_ _ | refine blk_drew ?_ | refine blk_alloc ?_ _)); exact BK296.out) hb); have n5_ := Aside0.mk (blk_below (g := gb297) (o := .cells #[.int .i64 a3_0, .int .i64 a3_1] 23 (0, 0)) (by (with_reducible repeat (first | refine blk_drewN ?_ _ | refine blk_drew ?_ | refine blk_alloc ?_ _)); exact BK297.out) hb); have n6_ := Aside0.mk (blk_below (g := gb298) (o := .cells #[.int .i64 a4_0, .int .i64 a4_1] 23 (0, 0)) (by (with_reducible repeat (first | refine blk_drewN ?_ _ | refine blk_drew ?_ | refine blk_alloc ?_ _)); exact BK298.out) hb); have n7_ := Aside0.mk (below_step (by repeat (first | (with_reducible first | exact HB.out | apply below_alloc | apply pw_below_drewN | apply below_drew1 | refine below_set ?_ GE296.out | refine below_set ?_ GE297.out | refine below_set ?_ GE298.out) | exact HB.out)) hb); clear HO_14; clear HO329; clear HO332; clear BK296; clear BK297; clear BK298; clear HB; have HO_14 := n0_; have HO329 := n1_; have HO332 := n2_; have HO335 := n3_; have BK296 := n4_; have BK297 := n5_; have BK298 := n6_; have HB := n7_; clear n0_ n1_ n2_ n3_ n4_ n5_ n6_ n7_; (try clear hb); (try clear hb2); (try clear hk); (try clear hi); (try clear ho0); obtain ⟨Ao191, co191, eo191⟩ := Kd.R_slice HO332.out; subst eo191; obtain ⟨Ao192, co192, eo192⟩ := Kd.R_slice HO335.out; subst eo192) | ((with_reducible refine gate_callee (f := 18) rfl ?_); refine goesL_ (some 107) rfl rfl Tryd.func18 (by kernel_rfl) rfl #[.slice Ao191 t330.length co191, .slice Ao192 t333.length co192] rfl (by (try simp only [List.map_toArray, List.map_cons, List.map_nil]); first | done | rfl | (simp only [List.length_drop, List.length_take]; rfl)) ?_; (with_reducible refine (redpencilref04_Same.calls kj152 _ _ t330 _ _ t333 true _ ?side1 ?side2 ?side3 ?side4 A183.out).mono ?_); (case side1 => repeat (first | exact (Kd.R_reads' HO332.out).2.2 | (with_reducible refine Kd.C_alloc ?_ _) | (with_reducible refine Kd.C_drewN ?_ _) | (with_reducible refine Kd.C_drew ?_))); (case side2 => exact (Kd.R_reads' HO332.out).2.1); (case side3 => repeat (first | exact (Kd.R_reads' HO335.out).2.2 | (with_reducible refine Kd.C_alloc ?_ _) | (with_reducible refine Kd.C_drewN ?_ _) | (with_reducible refine Kd.C_drew ?_))); (case side4 => exact (Kd.R_reads' HO335.out).2.1); rintro e w' ⟨rfl, ⟨nd, rfl⟩⟩; refine ⟨_, rfl, ?_⟩) | (go_at_call 16; (with_reducible refine (dot_IsSet.calls kj152 _ _ t327 true _ ?side1 ?side2 A185.out).mono ?_); (case side1 => repeat (first | exact (Kd.R_reads' HO329.out).2.2 | (with_reducible refine Kd.C_alloc ?_ _) | (with_reducible refine Kd.C_drewN ?_ _) | (with_reducible refine Kd.C_drew ?_))); (case side2 => exact (Kd.R_reads' HO329.out).2.1); rintro e w193 ⟨rfl, hb⟩; have n0_ := Aside0.mk (Kd.R_below (by (with_reducible repeat (first | apply Kd.R_alloc | apply Kd.R_drewN | apply Kd.R_drew)); exact HO_14.out) hb); have n1_ := Aside0.mk (Kd.R_below (by (with_reducible repeat (first | apply Kd.R_alloc | apply Kd.R_drewN | apply Kd.R_drew)); exact HO329.out) hb); have n2_ := Aside0.mk (Kd.R_below (by (with_reducible repeat (first | apply Kd.R_alloc | apply Kd.R_drewN | apply Kd.R_drew)); exact HO332.out) hb); have n3_ := Aside0.mk (Kd.R_below (by (with_reducible repeat (first | apply Kd.R_alloc | apply Kd.R_drewN | apply Kd.R_drew)); exact HO335.out) hb); have n4_ := Aside0.mk (blk_below (g := gb296) (o := .cells #[.int .i64 a2_0, .int .i64 a2_1] 23 (0, 0)) (by (with_reducible repeat (first | refine blk_drewN ?_ _ | refine blk_drew ?_ | refine blk_alloc ?_ _)); exact BK296.out) hb); have n5_ := Aside0.mk (blk_below (g := gb297) (o := .cells #[.int .i64 a3_0, .int .i64 a3_1] 23 (0, 0)) (by (with_reducible repeat (first | refine blk_drewN ?_ _ | refine blk_drew ?_ | refine blk_alloc ?_ _)); exact BK297.out) hb); have n6_ := Aside0.mk (blk_below (g := gb298) (o := .cells #[.int .i64 a4_0, .int .i64 a4_1] 23 (0, 0)) (by (with_reducible repeat (first | refine blk_drewN ?_ _ | refine blk_drew ?_ | refine blk_alloc ?_ _)); exact BK298.out) hb); have n7_ := Aside0.mk (below_step (by repeat (first | (with_reducible first | exact HB.out | apply below_alloc | apply pw_below_drewN | apply below_drew1 | refine below_set ?_ GE296.out | refine below_set ?_ GE297.out | refine below_set ?_ GE298.out) | exact HB.out)) hb); clear HO_14; clear HO329; clear HO332; clear HO335; clear BK296; clear BK297; clear BK298; clear HB; have HO_14 := n0_; have HO329 := n1_; have HO332 := n2_; have HO335 := n3_; have BK296 := n4_; have BK297 := n5_; have BK298 := n6_; have HB := n7_; clear n0_ n1_ n2_ n3_ n4_ n5_ n6_ n7_; (try clear hb); (try clear hb2); (try clear hk); (try clear hi); obtain ⟨Ao194, co194, eo194⟩ := Kd.R_slice HO_14.out; subst eo194) | (go_at_call 24; (with_reducible refine (dot_Minus.calls _ _ t327 _ _ t312 t338 _ ?side1 ?side2 ?side3 ?side4 A187.out).mono ?_); (case side1 => repeat (first | exact (Kd.R_reads' HO329.out).2.2 | (with_reducible refine Kd.C_alloc ?_ _) | (with_reducible refine Kd.C_drewN ?_ _) | (with_reducible refine Kd.C_drew ?_))); (case side2 => exact (Kd.R_reads' HO329.out).2.1); (case side3 => repeat (first | exact (Kd.R_reads' HO_14.out).2.2 | (with_reducible refine Kd.C_alloc ?_ _) | (with_reducible refine Kd.C_drewN ?_ _) | (with_reducible refine Kd.C_drew ?_))); (case side4 => exact (Kd.R_reads' HO_14.out).2.1); rintro e w195 ⟨v339, rfl, ho0, hb⟩; have n0_ := Aside0.mk (Kd.R_elder' (by (with_reducible repeat (first | apply Kd.R_alloc | apply Kd.R_drewN | apply Kd.R_drew)); exact HO_14.out) (Kd.R_base ho0) hb); have n1_ := Aside0.mk (Kd.R_elder' (by (with_reducible repeat (first | apply Kd.R_alloc | apply Kd.R_drewN | apply Kd.R_drew)); exact HO329.out) (Kd.R_base ho0) hb); have n2_ := Aside0.mk (Kd.R_elder' (by (with_reducible repeat (first | apply Kd.R_alloc | apply Kd.R_drewN | apply Kd.R_drew)); exact HO332.out) (Kd.R_base ho0) hb); have n3_ := Aside0.mk (Kd.R_elder' (by (with_reducible repeat (first | apply Kd.R_alloc | apply Kd.R_drewN | apply Kd.R_drew)); exact HO335.out) (Kd.R_base ho0) hb); have n4_ := Aside0.mk (Kd.R_lower (Kd.R_newB (Kd.R_newB (Kd.R_newB (Kd.R_new' (Kd.R_new' (Kd.R_new' (Kd.R_new' ho0 (Kd.R_lt (by (with_reducible repeat (first | apply Kd.R_alloc | apply Kd.R_drewN | apply Kd.R_drew)); exact HO_14.out))) (Kd.R_lt (by (with_reducible repeat (first | apply Kd.R_alloc | apply Kd.R_drewN | apply Kd.R_drew)); exact HO329.out))) (Kd.R_lt (by (with_reducible repeat (first | apply Kd.R_alloc | apply Kd.R_drewN | apply Kd.R_drew)); exact HO332.out))) (Kd.R_lt (by (with_reducible repeat (first | apply Kd.R_alloc | apply Kd.R_drewN | apply Kd.R_drew)); exact HO335.out))) (g := gb296) (o := .cells #[.int .i64 a2_0, .int .i64 a2_1] 23 (0, 0)) (by (with_reducible repeat (first | refine blk_drewN ?_ _ | refine blk_drew ?_ | refine blk_alloc ?_ _)); exact BK296.out)) (g := gb297) (o := .cells #[.int .i64 a3_0, .int .i64 a3_1] 23 (0, 0)) (by (with_reducible repeat (first | refine blk_drewN ?_ _ | refine blk_drew ?_ | refine blk_alloc ?_ _)); exact BK297.out)) (g := gb298) (o := .cells #[.int .i64 a4_0, .int .i64 a4_1] 23 (0, 0)) (by (with_reducible repeat (first | refine blk_drewN ?_ _ | refine blk_drew ?_ | refine blk_alloc ?_ _)); exact BK298.out)) (below_size (by repeat (first | (with_reducible first | exact HB.out | apply below_alloc | apply pw_below_drewN | apply below_drew1 | refine below_set ?_ GE296.out | refine below_set ?_ GE297.out | refine below_set ?_ GE298.out) | exact HB.out)))); have n5_ := Aside0.mk (blk_below (g := gb296) (o := .cells #[.int .i64 a2_0, .int .i64 a2_1] 23 (0, 0)) (by (with_reducible repeat (first | refine blk_drewN ?_ _ | refine blk_drew ?_ | refine blk_alloc ?_ _)); exact BK296.out) hb); have n6_ := Aside0.mk (blk_below (g := gb297) (o := .cells #[.int .i64 a3_0, .int .i64 a3_1] 23 (0, 0)) (by (with_reducible repeat (first | refine blk_drewN ?_ _ | refine blk_drew ?_ | refine blk_alloc ?_ _)); exact BK297.out) hb); have n7_ := Aside0.mk (blk_below (g := gb298) (o := .cells #[.int .i64 a4_0, .int .i64 a4_1] 23 (0, 0)) (by (with_reducible repeat (first | refine blk_drewN ?_ _ | refine blk_drew ?_ | refine blk_alloc ?_ _)); exact BK298.out) hb); have n8_ := Aside0.mk (below_step (by repeat (first | (with_reducible first | exact HB.out | apply below_alloc | apply pw_below_drewN | apply below_drew1 | refine below_set ?_ GE296.out | refine below_set ?_ GE297.out | refine below_set ?_ GE298.out) | exact HB.out)) hb); clear HO_14; clear HO329; clear HO332; clear HO335; clear BK296; clear BK297; clear BK298; clear HB; have HO_14 := n0_; have HO329 := n1_; have HO332 := n2_; have HO335 := n3_; have HO340 := n4_; have BK296 := n5_; have BK297 := n6_; have BK298 := n7_; have HB := n8_; clear n0_ n1_ n2_ n3_ n4_ n5_ n6_ n7_ n8_; (try clear hb); (try clear hb2); (try clear hk); (try clear hi); (try clear ho0); obtain ⟨Ao196, co196, eo196⟩ := Kd.R_slice HO340.out; subst eo196))
             go_meet
             case rel => exact ⟨_, (((t338.length : Int) != 0)), (by first | rfl | (simp; done) | (simp [*]; done)), H', ⟨by have := HJ5.out; have := HJ16.out; have := HJ152.out; first | omega | exact Nat.le_refl _⟩, ⟨by (with_reducible repeat (first | apply Kd.R_alloc | apply Kd.R_drewN | apply Kd.R_drew)); exact Kd.R_mono HO329.out (fun _ hk => ⟨hk.1.1.1.1.1.2, ⟨hk.1.1.1.1.2, hk.1.1.1.2⟩⟩)⟩, ⟨by (with_reducible repeat (first | refine blk_drewN ?_ _ | refine blk_drew ?_ | refine blk_alloc ?_ _)); exact BK296.out⟩, ⟨by (with_reducible repeat (first | refine blk_drewN ?_ _ | refine blk_drew ?_ | refine blk_alloc ?_ _)); exact BK297.out⟩, ⟨by (with_reducible repeat (first | refine blk_drewN ?_ _ | refine blk_drew ?_ | refine blk_alloc ?_ _)); exact BK298.out⟩, ⟨by repeat (first | (with_reducible first | exact HB.out | apply below_alloc | apply pw_below_drewN | apply below_drew1 | refine below_set ?_ GE296.out | refine below_set ?_ GE297.out | refine below_set ?_ GE298.out) | exact HB.out)⟩⟩
            ·
             replace c186 := Bool.eq_false_iff.mpr c186
             subst c186
             have H1 : (redpencillaw04_DotHolds.j3 kj152 l1 t327 true a2_0 a2_1) = some true := by rw [if_neg (show ¬ (false = true) by decide)] at H; exact H
             exact absurd H1 (redpencillaw04_DotHolds.j3_no _ _ _ _ _)
           ·
            replace c184 := Bool.eq_false_iff.mpr c184
            subst c184
            have H1 : (redpencillaw04_DotHolds.j3 kj152 l1 t327 true a2_0 a2_1) = some true := by rw [if_neg (show ¬ (false = true) by decide)] at H; exact H
            exact absurd H1 (redpencillaw04_DotHolds.j3_no _ _ _ _ _)
          case rest =>
           clear HC179
           try clear c1
           try clear c2
           try clear p2
           try clear c3
           try clear c4
           try clear c5
           try clear c6
           try clear p6
           try clear c7
           try clear c8
           try clear c9
           try clear c10
           try clear c11
           try clear c12
           try clear c13
           try clear c14
           try clear c15
           try clear c16
           try clear c17
           try clear c18
           try clear c22
           try clear c22b0
           try clear c23
           try clear c23b0
           try clear c24
           try clear c24b0
           try clear c25
           try clear c25b0
           try clear c26
           try clear c26b0
           try clear c27
           try clear c27b0
           try clear c28
           try clear c28b0
           try clear c28b1
           try clear c28b2
           try clear c29
           try clear c30
           try clear c32
           try clear c35
           try clear c36
           try clear c38
           try clear c41
           try clear c41b0
           try clear c41b1
           try clear c41b2
           try clear c42
           try clear c43
           try clear c45
           try clear c48
           try clear c49
           try clear c51
           try clear c54
           try clear c54b0
           try clear c54b1
           try clear c54b2
           try clear c55
           try clear c56
           try clear c58
           try clear c61
           try clear c62
           try clear c64
           try clear p64
           try clear c67
           try clear c67b0
           try clear c68
           try clear c68b0
           try clear c69
           try clear c69b0
           try clear c70
           try clear c70b0
           try clear c70b1
           try clear c70b2
           try clear c71
           try clear c72
           try clear c74
           try clear c77
           try clear c78
           try clear c80
           try clear c83
           try clear c83b0
           try clear c83b1
           try clear c83b2
           try clear c84
           try clear c85
           try clear c87
           try clear c90
           try clear c91
           try clear c93
           try clear c96
           try clear c96b0
           try clear c96b1
           try clear c96b2
           try clear c97
           try clear c98
           try clear c100
           try clear c103
           try clear c104
           try clear c106
           try clear c109
           try clear c109b0
           try clear c110
           try clear c110b0
           try clear c111
           try clear c111b0
           try clear c112
           try clear c112b0
           try clear c112b1
           try clear c112b2
           try clear c113
           try clear c114
           try clear c116
           try clear c119
           try clear c120
           try clear c122
           try clear c125
           try clear c125b0
           try clear c125b1
           try clear c125b2
           try clear c126
           try clear c127
           try clear c129
           try clear c132
           try clear c133
           try clear c135
           try clear c138
           try clear c138b0
           try clear c138b1
           try clear c138b2
           try clear c139
           try clear c140
           try clear c142
           try clear c145
           try clear c146
           try clear c148
           try clear c151
           try clear c156
           try clear c159
           try clear c177
           try clear c184
           try clear c186
           try clear hcz101_0
           try clear hcz101_1
           try clear hcz105_0
           try clear hcz105_1
           try clear hcz107_0
           try clear hcz107_1
           try clear hcz115_0
           try clear hcz115_1
           try clear hcz117_0
           try clear hcz117_1
           try clear hcz121_0
           try clear hcz121_1
           try clear hcz123_0
           try clear hcz123_1
           try clear hcz128_0
           try clear hcz128_1
           try clear hcz130_0
           try clear hcz130_1
           try clear hcz134_0
           try clear hcz134_1
           try clear hcz136_0
           try clear hcz136_1
           try clear hcz141_0
           try clear hcz141_1
           try clear hcz143_0
           try clear hcz143_1
           try clear hcz147_0
           try clear hcz147_1
           try clear hcz149_0
           try clear hcz149_1
           try clear hcz31_0
           try clear hcz31_1
           try clear hcz33_0
           try clear hcz33_1
           try clear hcz37_0
           try clear hcz37_1
           try clear hcz39_0
           try clear hcz39_1
           try clear hcz44_0
           try clear hcz44_1
           try clear hcz46_0
           try clear hcz46_1
           try clear hcz50_0
           try clear hcz50_1
           try clear hcz52_0
           try clear hcz52_1
           try clear hcz57_0
           try clear hcz57_1
           try clear hcz59_0
           try clear hcz59_1
           try clear hcz63_0
           try clear hcz63_1
           try clear hcz65_0
           try clear hcz65_1
           try clear hcz73_0
           try clear hcz73_1
           try clear hcz75_0
           try clear hcz75_1
           try clear hcz79_0
           try clear hcz79_1
           try clear hcz81_0
           try clear hcz81_1
           try clear hcz86_0
           try clear hcz86_1
           try clear hcz88_0
           try clear hcz88_1
           try clear hcz92_0
           try clear hcz92_1
           try clear hcz94_0
           try clear hcz94_1
           try clear hcz99_0
           try clear hcz99_1
           try clear hfz101_0
           try clear hfz101_1
           try clear hfz105_0
           try clear hfz105_1
           try clear hfz107_0
           try clear hfz107_1
           try clear hfz115_0
           try clear hfz115_1
           try clear hfz117_0
           try clear hfz117_1
           try clear hfz121_0
           try clear hfz121_1
           try clear hfz123_0
           try clear hfz123_1
           try clear hfz128_0
           try clear hfz128_1
           try clear hfz130_0
           try clear hfz130_1
           try clear hfz134_0
           try clear hfz134_1
           try clear hfz136_0
           try clear hfz136_1
           try clear hfz141_0
           try clear hfz141_1
           try clear hfz143_0
           try clear hfz143_1
           try clear hfz147_0
           try clear hfz147_1
           try clear hfz149_0
           try clear hfz149_1
           try clear hfz31_0
           try clear hfz31_1
           try clear hfz33_0
           try clear hfz33_1
           try clear hfz37_0
           try clear hfz37_1
           try clear hfz39_0
           try clear hfz39_1
           try clear hfz44_0
           try clear hfz44_1
           try clear hfz46_0
           try clear hfz46_1
           try clear hfz50_0
           try clear hfz50_1
           try clear hfz52_0
           try clear hfz52_1
           try clear hfz57_0
           try clear hfz57_1
           try clear hfz59_0
           try clear hfz59_1
           try clear hfz63_0
           try clear hfz63_1
           try clear hfz65_0
           try clear hfz65_1
           try clear hfz73_0
           try clear hfz73_1
           try clear hfz75_0
           try clear hfz75_1
           try clear hfz79_0
           try clear hfz79_1
           try clear hfz81_0
           try clear hfz81_1
           try clear hfz86_0
           try clear hfz86_1
           try clear hfz88_0
           try clear hfz88_1
           try clear hfz92_0
           try clear hfz92_1
           try clear hfz94_0
           try clear hfz94_1
           try clear hfz99_0
           try clear hfz99_1
           try clear p2
           try clear p6
           try clear p64
           obtain ⟨kq, x120_178, rfl, HA, HJ178, HO_15, BK296, BK297, BK298, HB⟩ := hcut
           cases kq with
           | zero => exact absurd HA.out (by simp [redpencillaw04_DotHolds.j3])
           | succ kj178 =>
            have H := HA.out
            clear HA
            simp only [redpencillaw04_DotHolds.j3] at H
            by_cases c208 : x120_178 = true
            ·
             subst c208
             have H1 : (some false) = some true := by rw [if_pos rfl] at H; exact H
             exact absurd H1 (by simp)
            ·
             replace c208 := Bool.eq_false_iff.mpr c208
             subst c208
             have H1 : (redpencillaw04_DotHolds.l0 kj178 t327 l1 (l1.length : Int) 0 a2_0 a2_1) = some true := by rw [if_neg (show ¬ (false = true) by decide)] at H; exact H
             clear H
             have H := H1
             clear H1
             have H' := Aside0.mk H
             clear H
             go_wp2
             go_loopg [123] kj178 (fun kq v123 w' => ∃ (x123_5 : Int), v123 = .int .i64 x123_5 ∧ Aside0 (redpencillaw04_DotHolds.l0 kq t327 l1 (l1.length : Int) x123_5 a2_0 a2_1 = some true) ∧ Aside0 (kq ≤ kj178) ∧ Aside0 (Kd.R k23 23 w' w.heap.size (fun k_ => k_ ≠ gb296 ∧ k_ ≠ gb297 ∧ k_ ≠ gb298) v328 t327) ∧ Aside0 (w'.heap[gb296]? = some (.cells #[.int .i64 a2_0, .int .i64 a2_1] 23 (0, 0))) ∧ Aside0 (w'.heap[gb297]? = some (.cells #[.int .i64 a3_0, .int .i64 a3_1] 23 (0, 0))) ∧ Aside0 (w'.heap[gb298]? = some (.cells #[.int .i64 a4_0, .int .i64 a4_1] 23 (0, 0))) ∧ Aside0 (Below w.heap.size w w'))
             case atStart => exact ⟨(0), (by first | rfl | (simp; done) | (simp [*]; done)), H', ⟨Nat.le_refl _⟩, ⟨by (with_reducible repeat (first | apply Kd.R_alloc | apply Kd.R_drewN | apply Kd.R_drew)); exact HO_15.out⟩, ⟨by (with_reducible repeat (first | refine blk_drewN ?_ _ | refine blk_drew ?_ | refine blk_alloc ?_ _)); exact BK296.out⟩, ⟨by (with_reducible repeat (first | refine blk_drewN ?_ _ | refine blk_drew ?_ | refine blk_alloc ?_ _)); exact BK297.out⟩, ⟨by (with_reducible repeat (first | refine blk_drewN ?_ _ | refine blk_drew ?_ | refine blk_alloc ?_ _)); exact BK298.out⟩, ⟨by repeat (first | (with_reducible first | exact HB.out | apply below_alloc | apply pw_below_drewN | apply below_drew1 | refine below_set ?_ GE296.out | refine below_set ?_ GE297.out | refine below_set ?_ GE298.out) | exact HB.out)⟩⟩
             case round =>
              clear H'
              try clear c1
              try clear c2
              try clear p2
              try clear c3
              try clear c4
              try clear c5
              try clear c6
              try clear p6
              try clear c7
              try clear c8
              try clear c9
              try clear c10
              try clear c11
              try clear c12
              try clear c13
              try clear c14
              try clear c15
              try clear c16
              try clear c17
              try clear c18
              try clear c20
              try clear c22
              try clear c22b0
              try clear c23
              try clear c23b0
              try clear c24
              try clear c24b0
              try clear c25
              try clear c25b0
              try clear c26
              try clear c26b0
              try clear c27
              try clear c27b0
              try clear c28
              try clear c28b0
              try clear c28b1
              try clear c28b2
              try clear c29
              try clear c30
              try clear c32
              try clear c35
              try clear c36
              try clear c38
              try clear c41
              try clear c41b0
              try clear c41b1
              try clear c41b2
              try clear c42
              try clear c43
              try clear c45
              try clear c48
              try clear c49
              try clear c51
              try clear c54
              try clear c54b0
              try clear c54b1
              try clear c54b2
              try clear c55
              try clear c56
              try clear c58
              try clear c61
              try clear c62
              try clear c64
              try clear p64
              try clear c67
              try clear c67b0
              try clear c68
              try clear c68b0
              try clear c69
              try clear c69b0
              try clear c70
              try clear c70b0
              try clear c70b1
              try clear c70b2
              try clear c71
              try clear c72
              try clear c74
              try clear c77
              try clear c78
              try clear c80
              try clear c83
              try clear c83b0
              try clear c83b1
              try clear c83b2
              try clear c84
              try clear c85
              try clear c87
              try clear c90
              try clear c91
              try clear c93
              try clear c96
              try clear c96b0
              try clear c96b1
              try clear c96b2
              try clear c97
              try clear c98
              try clear c100
              try clear c103
              try clear c104
              try clear c106
              try clear c109
              try clear c109b0
              try clear c110
              try clear c110b0
              try clear c111
              try clear c111b0
              try clear c112
              try clear c112b0
              try clear c112b1
              try clear c112b2
              try clear c113
              try clear c114
              try clear c116
              try clear c119
              try clear c120
              try clear c122
              try clear c125
              try clear c125b0
              try clear c125b1
              try clear c125b2
              try clear c126
              try clear c127
              try clear c129
              try clear c132
              try clear c133
              try clear c135
              try clear c138
              try clear c138b0
              try clear c138b1
              try clear c138b2
              try clear c139
              try clear c140
              try clear c142
              try clear c145
              try clear c146
              try clear c148
              try clear c151
              try clear c156
              try clear c159
              try clear c177
              try clear c184
              try clear c186
              try clear c208
              try clear hcz101_0
              try clear hcz101_1
              try clear hcz105_0
              try clear hcz105_1
              try clear hcz107_0
              try clear hcz107_1
              try clear hcz115_0
              try clear hcz115_1
              try clear hcz117_0
              try clear hcz117_1
              try clear hcz121_0
              try clear hcz121_1
              try clear hcz123_0
              try clear hcz123_1
              try clear hcz128_0
              try clear hcz128_1
              try clear hcz130_0
              try clear hcz130_1
              try clear hcz134_0
              try clear hcz134_1
              try clear hcz136_0
              try clear hcz136_1
              try clear hcz141_0
              try clear hcz141_1
              try clear hcz143_0
              try clear hcz143_1
              try clear hcz147_0
              try clear hcz147_1
              try clear hcz149_0
              try clear hcz149_1
              try clear hcz31_0
              try clear hcz31_1
              try clear hcz33_0
              try clear hcz33_1
              try clear hcz37_0
              try clear hcz37_1
              try clear hcz39_0
              try clear hcz39_1
              try clear hcz44_0
              try clear hcz44_1
              try clear hcz46_0
              try clear hcz46_1
              try clear hcz50_0
              try clear hcz50_1
              try clear hcz52_0
              try clear hcz52_1
              try clear hcz57_0
              try clear hcz57_1
              try clear hcz59_0
              try clear hcz59_1
              try clear hcz63_0
              try clear hcz63_1
              try clear hcz65_0
              try clear hcz65_1
              try clear hcz73_0
              try clear hcz73_1
              try clear hcz75_0
              try clear hcz75_1
              try clear hcz79_0
              try clear hcz79_1
              try clear hcz81_0
              try clear hcz81_1
              try clear hcz86_0
              try clear hcz86_1
              try clear hcz88_0
              try clear hcz88_1
              try clear hcz92_0
              try clear hcz92_1
              try clear hcz94_0
              try clear hcz94_1
              try clear hcz99_0
              try clear hcz99_1
              try clear hfz101_0
              try clear hfz101_1
              try clear hfz105_0
              try clear hfz105_1
              try clear hfz107_0
              try clear hfz107_1
              try clear hfz115_0
              try clear hfz115_1
              try clear hfz117_0
              try clear hfz117_1
              try clear hfz121_0
              try clear hfz121_1
              try clear hfz123_0
              try clear hfz123_1
              try clear hfz128_0
              try clear hfz128_1
              try clear hfz130_0
              try clear hfz130_1
              try clear hfz134_0
              try clear hfz134_1
              try clear hfz136_0
              try clear hfz136_1
              try clear hfz141_0
              try clear hfz141_1
              try clear hfz143_0
              try clear hfz143_1
              try clear hfz147_0
              try clear hfz147_1
              try clear hfz149_0
              try clear hfz149_1
              try clear hfz31_0
              try clear hfz31_1
              try clear hfz33_0
              try clear hfz33_1
              try clear hfz37_0
              try clear hfz37_1
              try clear hfz39_0
              try clear hfz39_1
              try clear hfz44_0
              try clear hfz44_1
              try clear hfz46_0
              try clear hfz46_1
              try clear hfz50_0
              try clear hfz50_1
              try clear hfz52_0
              try clear hfz52_1
              try clear hfz57_0
              try clear hfz57_1
              try clear hfz59_0
              try clear hfz59_1
              try clear hfz63_0
              try clear hfz63_1
              try clear hfz65_0
              try clear hfz65_1
              try clear hfz73_0
              try clear hfz73_1
              try clear hfz75_0
              try clear hfz75_1
              try clear hfz79_0
              try clear hfz79_1
              try clear hfz81_0
              try clear hfz81_1
              try clear hfz86_0
              try clear hfz86_1
              try clear hfz88_0
              try clear hfz88_1
              try clear hfz92_0
              try clear hfz92_1
              try clear hfz94_0
              try clear hfz94_1
              try clear hfz99_0
              try clear hfz99_1
              try clear p2
              try clear p6
              try clear p64
              obtain ⟨x123_5, rfl, HA, HK5, HO_15, BK296, BK297, BK298, HB⟩ := hrel
              cases gk with
              | zero => exact absurd HA.out (by simp [redpencillaw04_DotHolds.l0])
              | succ k5 =>
               have H := HA.out
               clear HA
               simp only [redpencillaw04_DotHolds.l0] at H
               by_cases c209 : x123_5 < (l1.length : Int)
               ·
                rw [if_pos c209] at H
                have c209b0 : decide (x123_5 < (l1.length : Int)) = true := decide_eq_true c209
                clear c209
                by_cases c210 : 0 ≤ x123_5
                ·
                 rw [if_pos c210] at H
                 have c210b0 : decide (0 ≤ x123_5) = true := decide_eq_true c210
                 clear c210
                 by_cases c211 : x123_5 < (l1.length : Int)
                 ·
                  rw [if_pos c211] at H
                  have c211b0 : decide (x123_5 < (l1.length : Int)) = true := decide_eq_true c211
                  clear c211
                  replace H := Option.bind_eq_some_iff.mp H
                  obtain ⟨t343, A2120, H⟩ := H
                  replace H : (if t343 = true then (some false) else (redpencillaw04_DotHolds.l0 k5 t327 l1 (l1.length : Int) (wrap64 (x123_5 + 1)) a2_0 a2_1)) = some true := H
                  have A212 := Aside0.mk A2120
                  clear A2120
                  by_cases c213 : t343 = true
                  ·
                   subst c213
                   have H1 : (some false) = some true := by rw [if_pos rfl] at H; exact H
                   exact absurd H1 (by simp)
                  ·
                   replace c213 := Bool.eq_false_iff.mpr c213
                   subst c213
                   have H1 : (redpencillaw04_DotHolds.l0 k5 t327 l1 (l1.length : Int) (wrap64 (x123_5 + 1)) a2_0 a2_1) = some true := by rw [if_neg (show ¬ (false = true) by decide)] at H; exact H
                   clear H
                   have H := H1
                   clear H1
                   have H' := Aside0.mk H
                   clear H
                   have p341 : 0 ≤ (x123_5 : Int) := of_decide_eq_true (by first | (with_reducible assumption) | assumption)
                   have q341 : x123_5 < (l1.length : Int) := of_decide_eq_true (by first | (with_reducible assumption) | assumption)
                   obtain ⟨ad341, e341, hx341_0, hx341_1⟩ := at_T23 HR1.out x123_5 p341 q341
                   cases e341
                   replace hx341_0 := (HB.out.cell (World.block_lt_of_cell? w _ hx341_0)).trans hx341_0
                   replace hx341_1 := (HB.out.cell (World.block_lt_of_cell? w _ hx341_1)).trans hx341_1
                   replace p341 := eq_true p341
                   replace q341 := eq_true q341
                   go_wp2_with (first | ((with_reducible refine gate_dst (N := 17) rfl ?_); (try (refine gate_guard (by rfl) ?_; dsimp only)); refine box_event ?hg (N := 17) ?hd (cs := #[.int .i64 0, .int .i64 0]) (t := 23) ?hr ?_; (case hd => rfl); (case hg => rfl); (case hr => first | (go_simp; done) | (go_simp; rfl)); intro gb342 hg w221 hbox hb; have n0_ := Aside0.mk (Kd.R_below (Kd.R_elderB (by (with_reducible repeat (first | apply Kd.R_alloc | apply Kd.R_drewN | apply Kd.R_drew)); exact HO_15.out) gb342 (Nat.le_of_eq hg.symm)) hb); have n1_ := Aside0.mk (blk_below (g := gb296) (o := .cells #[.int .i64 a2_0, .int .i64 a2_1] 23 (0, 0)) (by (with_reducible repeat (first | refine blk_drewN ?_ _ | refine blk_drew ?_ | refine blk_alloc ?_ _)); exact BK296.out) hb); have n2_ := Aside0.mk (blk_below (g := gb297) (o := .cells #[.int .i64 a3_0, .int .i64 a3_1] 23 (0, 0)) (by (with_reducible repeat (first | refine blk_drewN ?_ _ | refine blk_drew ?_ | refine blk_alloc ?_ _)); exact BK297.out) hb); have n3_ := Aside0.mk (blk_below (g := gb298) (o := .cells #[.int .i64 a4_0, .int .i64 a4_1] 23 (0, 0)) (by (with_reducible repeat (first | refine blk_drewN ?_ _ | refine blk_drew ?_ | refine blk_alloc ?_ _)); exact BK298.out) hb); have n4_ := Aside0.mk (below_step (by repeat (first | (with_reducible first | exact HB.out | apply below_alloc | apply pw_below_drewN | apply below_drew1 | refine below_set ?_ GE296.out | refine below_set ?_ GE297.out | refine below_set ?_ GE298.out) | exact HB.out)) hb); have n5_ := Aside0.mk (hbox); have n6_ := Aside0.mk ((by rw [hg]; exact (below_size (by repeat (first | (with_reducible first | exact HB.out | apply below_alloc | apply pw_below_drewN | apply below_drew1 | refine below_set ?_ GE296.out | refine below_set ?_ GE297.out | refine below_set ?_ GE298.out) | exact HB.out))) : w.heap.size ≤ gb342)); have n7_ := Aside0.mk ((by rw [hg]; exact (below_size (by repeat (first | (with_reducible first | exact HB.out | apply below_alloc | apply pw_below_drewN | apply below_drew1 | refine below_set ?_ GE296.out | refine below_set ?_ GE297.out | refine below_set ?_ GE298.out) | exact HB.out))) : w.heap.size ≤ gb342)); have n8_ := Aside0.mk ((by rw [hg]; exact Nat.ne_of_lt (blk_lt (g := gb296) (o := .cells #[.int .i64 a2_0, .int .i64 a2_1] 23 (0, 0)) (by (with_reducible repeat (first | refine blk_drewN ?_ _ | refine blk_drew ?_ | refine blk_alloc ?_ _)); exact BK296.out)) : gb296 ≠ gb342)); have n9_ := Aside0.mk ((by rw [hg]; exact Nat.ne_of_gt (blk_lt (g := gb296) (o := .cells #[.int .i64 a2_0, .int .i64 a2_1] 23 (0, 0)) (by (with_reducible repeat (first | refine blk_drewN ?_ _ | refine blk_drew ?_ | refine blk_alloc ?_ _)); exact BK296.out)) : gb342 ≠ gb296)); have n10_ := Aside0.mk ((by rw [hg]; exact Nat.ne_of_lt (blk_lt (g := gb297) (o := .cells #[.int .i64 a3_0, .int .i64 a3_1] 23 (0, 0)) (by (with_reducible repeat (first | refine blk_drewN ?_ _ | refine blk_drew ?_ | refine blk_alloc ?_ _)); exact BK297.out)) : gb297 ≠ gb342)); have n11_ := Aside0.mk ((by rw [hg]; exact Nat.ne_of_gt (blk_lt (g := gb297) (o := .cells #[.int .i64 a3_0, .int .i64 a3_1] 23 (0, 0)) (by (with_reducible repeat (first | refine blk_drewN ?_ _ | refine blk_drew ?_ | refine blk_alloc ?_ _)); exact BK297.out)) : gb342 ≠ gb297)); have n12_ := Aside0.mk ((by rw [hg]; exact Nat.ne_of_lt (blk_lt (g := gb298) (o := .cells #[.int .i64 a4_0, .int .i64 a4_1] 23 (0, 0)) (by (with_reducible repeat (first | refine blk_drewN ?_ _ | refine blk_drew ?_ | refine blk_alloc ?_ _)); exact BK298.out)) : gb298 ≠ gb342)); have n13_ := Aside0.mk ((by rw [hg]; exact Nat.ne_of_gt (blk_lt (g := gb298) (o := .cells #[.int .i64 a4_0, .int .i64 a4_1] 23 (0, 0)) (by (with_reducible repeat (first | refine blk_drewN ?_ _ | refine blk_drew ?_ | refine blk_alloc ?_ _)); exact BK298.out)) : gb342 ≠ gb298)); clear HO_15; clear BK296; clear BK297; clear BK298; clear HB; have HO_15 := n0_; have BK296 := n1_; have BK297 := n2_; have BK298 := n3_; have HB := n4_; have BK342 := n5_; have GW342 := n6_; have GE342 := n7_; have NB296_342 := n8_; have NB342_296 := n9_; have NB297_342 := n10_; have NB342_297 := n11_; have NB298_342 := n12_; have NB342_298 := n13_; clear n0_ n1_ n2_ n3_ n4_ n5_ n6_ n7_ n8_ n9_ n10_ n11_ n12_ n13_; clear hb hbox hg; have hnb222 := NB342_296.out; have hnc222 := NB296_342.out; have hnb223 := NB342_297.out; have hnc223 := NB297_342.out; have hnb224 := NB342_298.out; have hnc224 := NB298_342.out; have hcz225_0 : w221.cell? ⟨gb342, 0, none⟩ = some (.int .i64 0) := (blk_cell BK342.out 0).trans rfl; have hcz225_1 : w221.cell? ⟨gb342, 1, none⟩ = some (.int .i64 0) := (blk_cell BK342.out 1).trans rfl; have hfz225_0 := blk_frozen BK342.out 0; have hfz225_1 := blk_frozen BK342.out 1; obtain ⟨Ao226, co226, eo226⟩ := Kd.R_slice HO_15.out; subst eo226) | ((with_reducible refine gate_callee (f := 20) rfl ?_); refine goesL_ (some 129) rfl rfl Tryd.func20 (by kernel_rfl) rfl #[.slice Ao226 t327.length co226, .agg #[.int .i64 ((rd_T23 l1 x123_5).f0), .int .i64 ((rd_T23 l1 x123_5).f1)]] rfl (by (try simp only [List.map_toArray, List.map_cons, List.map_nil]); first | done | rfl | (simp only [List.length_drop, List.length_take]; rfl)) ?_; (with_reducible refine (dot_Has.calls k5 _ _ t327 ((rd_T23 l1 x123_5).f0) ((rd_T23 l1 x123_5).f1) false _ ?side1 ?side2 A212.out).mono ?_); (case side1 => refine (Kd.R_reads' (e := 23) (base := w.heap.size) (ok := fun k_ => ((k_ ≠ gb296 ∧ (k_ ≠ gb297 ∧ k_ ≠ gb298)) ∧ k_ ≠ gb342)) (n := t327.length) (c := co226) ?_).2.2; exact (by (with_reducible repeat (first | apply Kd.R_alloc | apply Kd.R_drewN | apply Kd.R_drew)); exact (Kd.R_mono (Kd.R_far (p := ⟨gb342, 1, none⟩) (Kd.R_far (p := ⟨gb342, 0, none⟩) (Kd.R_mono HO_15.out (fun k_ hk => (⟨hk, hk.2⟩ : _ ∧ k_ ≠ gb342))) (fun _ hk => hk.2) (.int .i64 ((rd_T23 l1 x123_5).f0))) (fun _ hk => hk.2) (.int .i64 ((rd_T23 l1 x123_5).f1))) (fun _ h_ => h_.1)))); (case side2 => exact (Kd.R_reads' HO_15.out).2.1); rintro e w227 ⟨rfl, hb⟩; refine ⟨_, rfl, ?_⟩; have n0_ := Aside0.mk (Kd.R_below (by (with_reducible repeat (first | apply Kd.R_alloc | apply Kd.R_drewN | apply Kd.R_drew)); exact (Kd.R_mono (Kd.R_far (p := ⟨gb342, 1, none⟩) (Kd.R_far (p := ⟨gb342, 0, none⟩) (Kd.R_mono HO_15.out (fun k_ hk => (⟨hk, hk.2⟩ : _ ∧ k_ ≠ gb342))) (fun _ hk => hk.2) (.int .i64 ((rd_T23 l1 x123_5).f0))) (fun _ hk => hk.2) (.int .i64 ((rd_T23 l1 x123_5).f1))) (fun _ h_ => h_.1))) hb); have n1_ := Aside0.mk (blk_below (g := gb296) (o := .cells #[.int .i64 a2_0, .int .i64 a2_1] 23 (0, 0)) (by (with_reducible repeat (first | refine blk_drewN ?_ _ | refine blk_drew ?_ | refine blk_alloc ?_ _)); refine blk_far ?_ NB296_342.out _; (with_reducible repeat (first | refine blk_drewN ?_ _ | refine blk_drew ?_ | refine blk_alloc ?_ _)); refine blk_far ?_ NB296_342.out _; (with_reducible repeat (first | refine blk_drewN ?_ _ | refine blk_drew ?_ | refine blk_alloc ?_ _)); exact BK296.out) hb); have n2_ := Aside0.mk (blk_below (g := gb297) (o := .cells #[.int .i64 a3_0, .int .i64 a3_1] 23 (0, 0)) (by (with_reducible repeat (first | refine blk_drewN ?_ _ | refine blk_drew ?_ | refine blk_alloc ?_ _)); refine blk_far ?_ NB297_342.out _; (with_reducible repeat (first | refine blk_drewN ?_ _ | refine blk_drew ?_ | refine blk_alloc ?_ _)); refine blk_far ?_ NB297_342.out _; (with_reducible repeat (first | refine blk_drewN ?_ _ | refine blk_drew ?_ | refine blk_alloc ?_ _)); exact BK297.out) hb); have n3_ := Aside0.mk (blk_below (g := gb298) (o := .cells #[.int .i64 a4_0, .int .i64 a4_1] 23 (0, 0)) (by (with_reducible repeat (first | refine blk_drewN ?_ _ | refine blk_drew ?_ | refine blk_alloc ?_ _)); refine blk_far ?_ NB298_342.out _; (with_reducible repeat (first | refine blk_drewN ?_ _ | refine blk_drew ?_ | refine blk_alloc ?_ _)); refine blk_far ?_ NB298_342.out _; (with_reducible repeat (first | refine blk_drewN ?_ _ | refine blk_drew ?_ | refine blk_alloc ?_ _)); exact BK298.out) hb); have n4_ := Aside0.mk (blk_below (g := gb342) (o := .cells #[.int .i64 ((rd_T23 l1 x123_5).f0), .int .i64 ((rd_T23 l1 x123_5).f1)] 23 (0, 0)) (by (with_reducible repeat (first | refine blk_drewN ?_ _ | refine blk_drew ?_ | refine blk_alloc ?_ _)); refine blk_put (cs := #[.int .i64 ((rd_T23 l1 x123_5).f0), .int .i64 0]) ?_ 1 _ rfl; (with_reducible repeat (first | refine blk_drewN ?_ _ | refine blk_drew ?_ | refine blk_alloc ?_ _)); refine blk_put (cs := #[.int .i64 0, .int .i64 0]) ?_ 0 _ rfl; (with_reducible repeat (first | refine blk_drewN ?_ _ | refine blk_drew ?_ | refine blk_alloc ?_ _)); exact BK342.out) hb); have n5_ := Aside0.mk (below_step (by repeat (first | (with_reducible first | exact HB.out | apply below_alloc | apply pw_below_drewN | apply below_drew1 | refine below_set ?_ GE296.out | refine below_set ?_ GE297.out | refine below_set ?_ GE298.out | refine below_set ?_ GE342.out) | exact HB.out)) hb); clear HO_15; clear BK296; clear BK297; clear BK298; clear BK342; clear HB; have HO_15 := n0_; have BK296 := n1_; have BK297 := n2_; have BK298 := n3_; have BK342 := n4_; have HB := n5_; clear n0_ n1_ n2_ n3_ n4_ n5_; (try clear hb); (try clear hb2); (try clear hk); (try clear hi)))
                   go_roundg k5
                   case measure => have := HJ5.out; have := HJ16.out; have := HJ152.out; have := HJ178.out; have := HK5.out; omega
                   case rel => exact ⟨(wrap64 (x123_5 + 1)), (by first | rfl | (simp; done) | (simp [*]; done)), H', ⟨by have := HJ5.out; have := HJ16.out; have := HJ152.out; have := HJ178.out; have := HK5.out; omega⟩, ⟨by (with_reducible repeat (first | apply Kd.R_alloc | apply Kd.R_drewN | apply Kd.R_drew)); exact Kd.R_mono HO_15.out (fun _ hk => ⟨hk.1.1, ⟨hk.1.2.1, hk.1.2.2⟩⟩)⟩, ⟨by (with_reducible repeat (first | refine blk_drewN ?_ _ | refine blk_drew ?_ | refine blk_alloc ?_ _)); exact BK296.out⟩, ⟨by (with_reducible repeat (first | refine blk_drewN ?_ _ | refine blk_drew ?_ | refine blk_alloc ?_ _)); exact BK297.out⟩, ⟨by (with_reducible repeat (first | refine blk_drewN ?_ _ | refine blk_drew ?_ | refine blk_alloc ?_ _)); exact BK298.out⟩, ⟨by repeat (first | (with_reducible first | exact HB.out | apply below_alloc | apply pw_below_drewN | apply below_drew1 | refine below_set ?_ GE296.out | refine below_set ?_ GE297.out | refine below_set ?_ GE298.out | refine below_set ?_ GE342.out) | exact HB.out)⟩⟩
                 ·
                  rw [if_neg c211] at H
                  exact absurd H (by simp)
                ·
                 rw [if_neg c210] at H
                 exact absurd H (by simp)
               ·
                rw [if_neg c209] at H
                have c209b0 : decide (x123_5 < (l1.length : Int)) = false := decide_eq_false c209
                clear c209
                replace H := Option.bind_eq_some_iff.mp H
                obtain ⟨⟨t344, t345⟩, A2280, H⟩ := H
                replace H : ((dot_Valid.f a2_0 a2_1).bind fun t346 => (if t346 = true then (if ((t345 == 0) != true) = true then (some false) else (if t345 = 0 then ((redpencillaw04_parses.f t344 a2_0 a2_1 0).bind fun t347 => (if t347 = true then ((redpencillaw04_known.f k5).bind fun t348 => (some t348)) else (some false))) else ((redpencillaw04_known.f k5).bind fun t349 => (some t349)))) else ((dot_Root.f a2_0 a2_1).bind fun t350 => (if ((t345 == 0) != t350) = true then (some false) else (if t345 = 0 then ((redpencillaw04_parses.f t344 a2_0 a2_1 0).bind fun t351 => (if t351 = true then ((redpencillaw04_known.f k5).bind fun t352 => (some t352)) else (some false))) else ((redpencillaw04_known.f k5).bind fun t353 => (some t353))))))) = some true := H
                have A228 := Aside0.mk A2280
                clear A2280
                replace H := Option.bind_eq_some_iff.mp H
                obtain ⟨t346, A2290, H⟩ := H
                replace H : (if t346 = true then (if ((t345 == 0) != true) = true then (some false) else (if t345 = 0 then ((redpencillaw04_parses.f t344 a2_0 a2_1 0).bind fun t347 => (if t347 = true then ((redpencillaw04_known.f k5).bind fun t348 => (some t348)) else (some false))) else ((redpencillaw04_known.f k5).bind fun t349 => (some t349)))) else ((dot_Root.f a2_0 a2_1).bind fun t350 => (if ((t345 == 0) != t350) = true then (some false) else (if t345 = 0 then ((redpencillaw04_parses.f t344 a2_0 a2_1 0).bind fun t351 => (if t351 = true then ((redpencillaw04_known.f k5).bind fun t352 => (some t352)) else (some false))) else ((redpencillaw04_known.f k5).bind fun t353 => (some t353)))))) = some true := H
                have A229 := Aside0.mk A2290
                clear A2290
                by_cases c230 : t346 = true
                ·
                 subst c230
                 have H1 : (if ((t345 == 0) != true) = true then (some false) else (if t345 = 0 then ((redpencillaw04_parses.f t344 a2_0 a2_1 0).bind fun t347 => (if t347 = true then ((redpencillaw04_known.f k5).bind fun t348 => (some t348)) else (some false))) else ((redpencillaw04_known.f k5).bind fun t349 => (some t349)))) = some true := by rw [if_pos rfl] at H; exact H
                 clear H
                 have H := H1
                 clear H1
                 by_cases c231 : ((t345 == 0) != true) = true
                 ·
                  rw [if_pos c231] at H
                  exact absurd H (by simp)
                 ·
                  rw [if_neg c231] at H
                  have c231b0 : ((t345 == 0) != true) = false := by simpa using c231
                  (try (have c231b1 : decide ((t345 == 0) = true) = true := by simpa using c231))
                  (try (have c231b2 : ((t345 == 0) == true) = true := by simpa using c231))
                  clear c231
                  by_cases c238 : t345 = 0
                  ·
                   rw [if_pos c238] at H
                   have c238b0 : (t345 == 0) = true := beq_iff_eq.mpr c238
                   have c238b1 : (t345 != 0) = false := bne_eq_false_iff_eq.mpr c238
                   clear c238
                   replace H := Option.bind_eq_some_iff.mp H
                   obtain ⟨t347, A2390, H⟩ := H
                   replace H : (if t347 = true then ((redpencillaw04_known.f k5).bind fun t348 => (some t348)) else (some false)) = some true := H
                   have A239 := Aside0.mk A2390
                   clear A2390
                   by_cases c240 : t347 = true
                   ·
                    subst c240
                    have H1 : ((redpencillaw04_known.f k5).bind fun t348 => (some t348)) = some true := by rw [if_pos rfl] at H; exact H
                    clear H
                    have H := H1
                    clear H1
                    replace H := Option.bind_eq_some_iff.mp H
                    obtain ⟨t348, A2410, H⟩ := H
                    replace H : (some t348) = some true := H
                    have A241 := Aside0.mk A2410
                    clear A2410
                    obtain rfl := Option.some.inj H
                    have hnb242 := NB296_297.out
                    have hnc242 := NB297_296.out
                    have hnb243 := NB296_298.out
                    have hnc243 := NB298_296.out
                    have hcz244_0 : wr.cell? ⟨gb296, 0, none⟩ = some (.int .i64 a2_0) := (blk_cell BK296.out 0).trans rfl
                    have hcz244_1 : wr.cell? ⟨gb296, 1, none⟩ = some (.int .i64 a2_1) := (blk_cell BK296.out 1).trans rfl
                    have hfz244_0 := blk_frozen BK296.out 0
                    have hfz244_1 := blk_frozen BK296.out 1
                    go_wp2_with (first | ((with_reducible refine gate_callee (f := 30) rfl ?_); refine goesL_ (some 133) rfl rfl Tryd.func30 (by kernel_rfl) rfl #[.agg #[.int .i64 a2_0, .int .i64 a2_1]] rfl (by (try simp only [List.map_toArray, List.map_cons, List.map_nil]); first | done | rfl | (simp only [List.length_drop, List.length_take]; rfl)) ?_; (with_reducible refine (dot_Text.calls a2_0 a2_1 t344 t345 _ ?side1 A228.out).mono ?_); (case side1 => exact GOK_below HG.out (by repeat (first | (with_reducible first | exact HB.out | apply below_alloc | apply pw_below_drewN | apply below_drew1 | refine below_set ?_ GE296.out | refine below_set ?_ GE297.out | refine below_set ?_ GE298.out) | exact HB.out))); rintro e w245 ⟨rfl, hb⟩; refine ⟨_, rfl, ?_⟩; have n0_ := Aside0.mk (Kd.R_below (by (with_reducible repeat (first | apply Kd.R_alloc | apply Kd.R_drewN | apply Kd.R_drew)); exact HO_15.out) hb); have n1_ := Aside0.mk (blk_below (g := gb296) (o := .cells #[.int .i64 a2_0, .int .i64 a2_1] 23 (0, 0)) (by (with_reducible repeat (first | refine blk_drewN ?_ _ | refine blk_drew ?_ | refine blk_alloc ?_ _)); exact BK296.out) hb); have n2_ := Aside0.mk (blk_below (g := gb297) (o := .cells #[.int .i64 a3_0, .int .i64 a3_1] 23 (0, 0)) (by (with_reducible repeat (first | refine blk_drewN ?_ _ | refine blk_drew ?_ | refine blk_alloc ?_ _)); exact BK297.out) hb); have n3_ := Aside0.mk (blk_below (g := gb298) (o := .cells #[.int .i64 a4_0, .int .i64 a4_1] 23 (0, 0)) (by (with_reducible repeat (first | refine blk_drewN ?_ _ | refine blk_drew ?_ | refine blk_alloc ?_ _)); exact BK298.out) hb); have n4_ := Aside0.mk (below_step (by repeat (first | (with_reducible first | exact HB.out | apply below_alloc | apply pw_below_drewN | apply below_drew1 | refine below_set ?_ GE296.out | refine below_set ?_ GE297.out | refine below_set ?_ GE298.out) | exact HB.out)) hb); clear HO_15; clear BK296; clear BK297; clear BK298; clear HB; have HO_15 := n0_; have BK296 := n1_; have BK297 := n2_; have BK298 := n3_; have HB := n4_; clear n0_ n1_ n2_ n3_ n4_; (try clear hb); (try clear hb2); (try clear hk); (try clear hi); have hcz246_0 : w245.cell? ⟨gb296, 0, none⟩ = some (.int .i64 a2_0) := (blk_cell BK296.out 0).trans rfl; have hcz246_1 : w245.cell? ⟨gb296, 1, none⟩ = some (.int .i64 a2_1) := (blk_cell BK296.out 1).trans rfl; have hfz246_0 := blk_frozen BK296.out 0; have hfz246_1 := blk_frozen BK296.out 1) | ((with_reducible refine gate_callee (f := 8) rfl ?_); refine goesL_ (some 139) rfl rfl Tryd.func8 (by kernel_rfl) rfl #[.agg #[.int .i64 a2_0, .int .i64 a2_1]] rfl (by (try simp only [List.map_toArray, List.map_cons, List.map_nil]); first | done | rfl | (simp only [List.length_drop, List.length_take]; rfl)) ?_; (with_reducible refine (dot_Valid.calls a2_0 a2_1 true _ A229.out).mono ?_); rintro e w247 ⟨rfl, hb⟩; refine ⟨_, rfl, ?_⟩; have n0_ := Aside0.mk (Kd.R_below (by (with_reducible repeat (first | apply Kd.R_alloc | apply Kd.R_drewN | apply Kd.R_drew)); exact HO_15.out) hb); have n1_ := Aside0.mk (blk_below (g := gb296) (o := .cells #[.int .i64 a2_0, .int .i64 a2_1] 23 (0, 0)) (by (with_reducible repeat (first | refine blk_drewN ?_ _ | refine blk_drew ?_ | refine blk_alloc ?_ _)); exact BK296.out) hb); have n2_ := Aside0.mk (blk_below (g := gb297) (o := .cells #[.int .i64 a3_0, .int .i64 a3_1] 23 (0, 0)) (by (with_reducible repeat (first | refine blk_drewN ?_ _ | refine blk_drew ?_ | refine blk_alloc ?_ _)); exact BK297.out) hb); have n3_ := Aside0.mk (blk_below (g := gb298) (o := .cells #[.int .i64 a4_0, .int .i64 a4_1] 23 (0, 0)) (by (with_reducible repeat (first | refine blk_drewN ?_ _ | refine blk_drew ?_ | refine blk_alloc ?_ _)); exact BK298.out) hb); have n4_ := Aside0.mk (below_step (by repeat (first | (with_reducible first | exact HB.out | apply below_alloc | apply pw_below_drewN | apply below_drew1 | refine below_set ?_ GE296.out | refine below_set ?_ GE297.out | refine below_set ?_ GE298.out) | exact HB.out)) hb); clear HO_15; clear BK296; clear BK297; clear BK298; clear HB; have HO_15 := n0_; have BK296 := n1_; have BK297 := n2_; have BK298 := n3_; have HB := n4_; clear n0_ n1_ n2_ n3_ n4_; (try clear hb); (try clear hb2); (try clear hk); (try clear hi); have hcz248_0 : w247.cell? ⟨gb296, 0, none⟩ = some (.int .i64 a2_0) := (blk_cell BK296.out 0).trans rfl; have hcz248_1 : w247.cell? ⟨gb296, 1, none⟩ = some (.int .i64 a2_1) := (blk_cell BK296.out 1).trans rfl; have hfz248_0 := blk_frozen BK296.out 0; have hfz248_1 := blk_frozen BK296.out 1) | (go_at_call 29; (with_reducible refine (redpencillaw04_parses.calls t344 a2_0 a2_1 0 true _ ?side1 A239.out).mono ?_); (case side1 => exact GOK_below HG.out (by repeat (first | (with_reducible first | exact HB.out | apply below_alloc | apply pw_below_drewN | apply below_drew1 | refine below_set ?_ GE296.out | refine below_set ?_ GE297.out | refine below_set ?_ GE298.out) | exact HB.out))); rintro e w249 ⟨rfl, hb⟩; have n0_ := Aside0.mk (Kd.R_below (by (with_reducible repeat (first | apply Kd.R_alloc | apply Kd.R_drewN | apply Kd.R_drew)); exact HO_15.out) hb); have n1_ := Aside0.mk (blk_below (g := gb296) (o := .cells #[.int .i64 a2_0, .int .i64 a2_1] 23 (0, 0)) (by (with_reducible repeat (first | refine blk_drewN ?_ _ | refine blk_drew ?_ | refine blk_alloc ?_ _)); exact BK296.out) hb); have n2_ := Aside0.mk (blk_below (g := gb297) (o := .cells #[.int .i64 a3_0, .int .i64 a3_1] 23 (0, 0)) (by (with_reducible repeat (first | refine blk_drewN ?_ _ | refine blk_drew ?_ | refine blk_alloc ?_ _)); exact BK297.out) hb); have n3_ := Aside0.mk (blk_below (g := gb298) (o := .cells #[.int .i64 a4_0, .int .i64 a4_1] 23 (0, 0)) (by (with_reducible repeat (first | refine blk_drewN ?_ _ | refine blk_drew ?_ | refine blk_alloc ?_ _)); exact BK298.out) hb); have n4_ := Aside0.mk (below_step (by repeat (first | (with_reducible first | exact HB.out | apply below_alloc | apply pw_below_drewN | apply below_drew1 | refine below_set ?_ GE296.out | refine below_set ?_ GE297.out | refine below_set ?_ GE298.out) | exact HB.out)) hb); clear HO_15; clear BK296; clear BK297; clear BK298; clear HB; have HO_15 := n0_; have BK296 := n1_; have BK297 := n2_; have BK298 := n3_; have HB := n4_; clear n0_ n1_ n2_ n3_ n4_; (try clear hb); (try clear hb2); (try clear hk); (try clear hi)) | ((with_reducible refine gate_callee (f := 14) rfl ?_); refine goesL_ (some 155) rfl rfl Tryd.func14 (by kernel_rfl) rfl #[] rfl (by (try simp only [List.map_toArray, List.map_cons, List.map_nil]); first | done | rfl | (simp only [List.length_drop, List.length_take]; rfl)) ?_; (with_reducible refine (redpencillaw04_known.calls k5  true _ ?side1 A241.out).mono ?_); (case side1 => exact GOK_below HG.out (by repeat (first | (with_reducible first | exact HB.out | apply below_alloc | apply pw_below_drewN | apply below_drew1 | refine below_set ?_ GE296.out | refine below_set ?_ GE297.out | refine below_set ?_ GE298.out) | exact HB.out))); rintro e w250 ⟨rfl, hb⟩; refine ⟨_, rfl, ?_⟩; have n0_ := Aside0.mk (Kd.R_below (by (with_reducible repeat (first | apply Kd.R_alloc | apply Kd.R_drewN | apply Kd.R_drew)); exact HO_15.out) hb); have n1_ := Aside0.mk (blk_below (g := gb296) (o := .cells #[.int .i64 a2_0, .int .i64 a2_1] 23 (0, 0)) (by (with_reducible repeat (first | refine blk_drewN ?_ _ | refine blk_drew ?_ | refine blk_alloc ?_ _)); exact BK296.out) hb); have n2_ := Aside0.mk (blk_below (g := gb297) (o := .cells #[.int .i64 a3_0, .int .i64 a3_1] 23 (0, 0)) (by (with_reducible repeat (first | refine blk_drewN ?_ _ | refine blk_drew ?_ | refine blk_alloc ?_ _)); exact BK297.out) hb); have n3_ := Aside0.mk (blk_below (g := gb298) (o := .cells #[.int .i64 a4_0, .int .i64 a4_1] 23 (0, 0)) (by (with_reducible repeat (first | refine blk_drewN ?_ _ | refine blk_drew ?_ | refine blk_alloc ?_ _)); exact BK298.out) hb); have n4_ := Aside0.mk (below_step (by repeat (first | (with_reducible first | exact HB.out | apply below_alloc | apply pw_below_drewN | apply below_drew1 | refine below_set ?_ GE296.out | refine below_set ?_ GE297.out | refine below_set ?_ GE298.out) | exact HB.out)) hb); clear HO_15; clear BK296; clear BK297; clear BK298; clear HB; have HO_15 := n0_; have BK296 := n1_; have BK297 := n2_; have BK298 := n3_; have HB := n4_; clear n0_ n1_ n2_ n3_ n4_; (try clear hb); (try clear hb2); (try clear hk); (try clear hi)))
                    go_ret
                    exact ⟨by first | rfl | (simp [errW_none, errW_some] <;> rfl) | (simp [*, errW_none, errW_some] <;> rfl), by repeat (first | (with_reducible first | exact HB.out | apply below_alloc | apply pw_below_drewN | apply below_drew1 | refine below_set ?_ GE296.out | refine below_set ?_ GE297.out | refine below_set ?_ GE298.out) | exact HB.out)⟩
                   ·
                    replace c240 := Bool.eq_false_iff.mpr c240
                    subst c240
                    have H1 : (some false) = some true := by rw [if_neg (show ¬ (false = true) by decide)] at H; exact H
                    exact absurd H1 (by simp)
                  ·
                   rw [if_neg c238] at H
                   have c238b0 : (t345 == 0) = false := beq_eq_false_iff_ne.mpr c238
                   rw [c238b0] at c231b0
                   exact absurd c231b0 (by decide)
                ·
                 replace c230 := Bool.eq_false_iff.mpr c230
                 subst c230
                 have H1 : ((dot_Root.f a2_0 a2_1).bind fun t350 => (if ((t345 == 0) != t350) = true then (some false) else (if t345 = 0 then ((redpencillaw04_parses.f t344 a2_0 a2_1 0).bind fun t351 => (if t351 = true then ((redpencillaw04_known.f k5).bind fun t352 => (some t352)) else (some false))) else ((redpencillaw04_known.f k5).bind fun t353 => (some t353))))) = some true := by rw [if_neg (show ¬ (false = true) by decide)] at H; exact H
                 clear H
                 have H := H1
                 clear H1
                 replace H := Option.bind_eq_some_iff.mp H
                 obtain ⟨t350, A2670, H⟩ := H
                 replace H : (if ((t345 == 0) != t350) = true then (some false) else (if t345 = 0 then ((redpencillaw04_parses.f t344 a2_0 a2_1 0).bind fun t351 => (if t351 = true then ((redpencillaw04_known.f k5).bind fun t352 => (some t352)) else (some false))) else ((redpencillaw04_known.f k5).bind fun t353 => (some t353)))) = some true := H
                 have A267 := Aside0.mk A2670
                 clear A2670
                 by_cases c268 : ((t345 == 0) != t350) = true
                 ·
                  rw [if_pos c268] at H
                  exact absurd H (by simp)
                 ·
                  rw [if_neg c268] at H
                  have c268b0 : ((t345 == 0) != t350) = false := by simpa using c268
                  (try (have c268b1 : decide ((t345 == 0) = t350) = true := by simpa using c268))
                  (try (have c268b2 : ((t345 == 0) == t350) = true := by simpa using c268))
                  clear c268
                  by_cases c277 : t345 = 0
                  ·
                   rw [if_pos c277] at H
                   have c277b0 : (t345 == 0) = true := beq_iff_eq.mpr c277
                   have ct_ : t350 = true := by have q_ := c268b0; rw [c277b0] at q_; simpa using q_
                   have c277b1 : (t345 != 0) = false := bne_eq_false_iff_eq.mpr c277
                   clear c277
                   replace H := Option.bind_eq_some_iff.mp H
                   obtain ⟨t351, A2780, H⟩ := H
                   replace H : (if t351 = true then ((redpencillaw04_known.f k5).bind fun t352 => (some t352)) else (some false)) = some true := H
                   have A278 := Aside0.mk A2780
                   clear A2780
                   by_cases c279 : t351 = true
                   ·
                    subst c279
                    have H1 : ((redpencillaw04_known.f k5).bind fun t352 => (some t352)) = some true := by rw [if_pos rfl] at H; exact H
                    clear H
                    have H := H1
                    clear H1
                    replace H := Option.bind_eq_some_iff.mp H
                    obtain ⟨t352, A2800, H⟩ := H
                    replace H : (some t352) = some true := H
                    have A280 := Aside0.mk A2800
                    clear A2800
                    obtain rfl := Option.some.inj H
                    have hnb281 := NB296_297.out
                    have hnc281 := NB297_296.out
                    have hnb282 := NB296_298.out
                    have hnc282 := NB298_296.out
                    have hcz283_0 : wr.cell? ⟨gb296, 0, none⟩ = some (.int .i64 a2_0) := (blk_cell BK296.out 0).trans rfl
                    have hcz283_1 : wr.cell? ⟨gb296, 1, none⟩ = some (.int .i64 a2_1) := (blk_cell BK296.out 1).trans rfl
                    have hfz283_0 := blk_frozen BK296.out 0
                    have hfz283_1 := blk_frozen BK296.out 1
                    go_wp2_with (first | ((with_reducible refine gate_callee (f := 30) rfl ?_); refine goesL_ (some 133) rfl rfl Tryd.func30 (by kernel_rfl) rfl #[.agg #[.int .i64 a2_0, .int .i64 a2_1]] rfl (by (try simp only [List.map_toArray, List.map_cons, List.map_nil]); first | done | rfl | (simp only [List.length_drop, List.length_take]; rfl)) ?_; (with_reducible refine (dot_Text.calls a2_0 a2_1 t344 t345 _ ?side1 A228.out).mono ?_); (case side1 => exact GOK_below HG.out (by repeat (first | (with_reducible first | exact HB.out | apply below_alloc | apply pw_below_drewN | apply below_drew1 | refine below_set ?_ GE296.out | refine below_set ?_ GE297.out | refine below_set ?_ GE298.out) | exact HB.out))); rintro e w284 ⟨rfl, hb⟩; refine ⟨_, rfl, ?_⟩; have n0_ := Aside0.mk (Kd.R_below (by (with_reducible repeat (first | apply Kd.R_alloc | apply Kd.R_drewN | apply Kd.R_drew)); exact HO_15.out) hb); have n1_ := Aside0.mk (blk_below (g := gb296) (o := .cells #[.int .i64 a2_0, .int .i64 a2_1] 23 (0, 0)) (by (with_reducible repeat (first | refine blk_drewN ?_ _ | refine blk_drew ?_ | refine blk_alloc ?_ _)); exact BK296.out) hb); have n2_ := Aside0.mk (blk_below (g := gb297) (o := .cells #[.int .i64 a3_0, .int .i64 a3_1] 23 (0, 0)) (by (with_reducible repeat (first | refine blk_drewN ?_ _ | refine blk_drew ?_ | refine blk_alloc ?_ _)); exact BK297.out) hb); have n3_ := Aside0.mk (blk_below (g := gb298) (o := .cells #[.int .i64 a4_0, .int .i64 a4_1] 23 (0, 0)) (by (with_reducible repeat (first | refine blk_drewN ?_ _ | refine blk_drew ?_ | refine blk_alloc ?_ _)); exact BK298.out) hb); have n4_ := Aside0.mk (below_step (by repeat (first | (with_reducible first | exact HB.out | apply below_alloc | apply pw_below_drewN | apply below_drew1 | refine below_set ?_ GE296.out | refine below_set ?_ GE297.out | refine below_set ?_ GE298.out) | exact HB.out)) hb); clear HO_15; clear BK296; clear BK297; clear BK298; clear HB; have HO_15 := n0_; have BK296 := n1_; have BK297 := n2_; have BK298 := n3_; have HB := n4_; clear n0_ n1_ n2_ n3_ n4_; (try clear hb); (try clear hb2); (try clear hk); (try clear hi); have hcz285_0 : w284.cell? ⟨gb296, 0, none⟩ = some (.int .i64 a2_0) := (blk_cell BK296.out 0).trans rfl; have hcz285_1 : w284.cell? ⟨gb296, 1, none⟩ = some (.int .i64 a2_1) := (blk_cell BK296.out 1).trans rfl; have hfz285_0 := blk_frozen BK296.out 0; have hfz285_1 := blk_frozen BK296.out 1) | ((with_reducible refine gate_callee (f := 8) rfl ?_); refine goesL_ (some 139) rfl rfl Tryd.func8 (by kernel_rfl) rfl #[.agg #[.int .i64 a2_0, .int .i64 a2_1]] rfl (by (try simp only [List.map_toArray, List.map_cons, List.map_nil]); first | done | rfl | (simp only [List.length_drop, List.length_take]; rfl)) ?_; (with_reducible refine (dot_Valid.calls a2_0 a2_1 false _ A229.out).mono ?_); rintro e w286 ⟨rfl, hb⟩; refine ⟨_, rfl, ?_⟩; have n0_ := Aside0.mk (Kd.R_below (by (with_reducible repeat (first | apply Kd.R_alloc | apply Kd.R_drewN | apply Kd.R_drew)); exact HO_15.out) hb); have n1_ := Aside0.mk (blk_below (g := gb296) (o := .cells #[.int .i64 a2_0, .int .i64 a2_1] 23 (0, 0)) (by (with_reducible repeat (first | refine blk_drewN ?_ _ | refine blk_drew ?_ | refine blk_alloc ?_ _)); exact BK296.out) hb); have n2_ := Aside0.mk (blk_below (g := gb297) (o := .cells #[.int .i64 a3_0, .int .i64 a3_1] 23 (0, 0)) (by (with_reducible repeat (first | refine blk_drewN ?_ _ | refine blk_drew ?_ | refine blk_alloc ?_ _)); exact BK297.out) hb); have n3_ := Aside0.mk (blk_below (g := gb298) (o := .cells #[.int .i64 a4_0, .int .i64 a4_1] 23 (0, 0)) (by (with_reducible repeat (first | refine blk_drewN ?_ _ | refine blk_drew ?_ | refine blk_alloc ?_ _)); exact BK298.out) hb); have n4_ := Aside0.mk (below_step (by repeat (first | (with_reducible first | exact HB.out | apply below_alloc | apply pw_below_drewN | apply below_drew1 | refine below_set ?_ GE296.out | refine below_set ?_ GE297.out | refine below_set ?_ GE298.out) | exact HB.out)) hb); clear HO_15; clear BK296; clear BK297; clear BK298; clear HB; have HO_15 := n0_; have BK296 := n1_; have BK297 := n2_; have BK298 := n3_; have HB := n4_; clear n0_ n1_ n2_ n3_ n4_; (try clear hb); (try clear hb2); (try clear hk); (try clear hi); have hcz287_0 : w286.cell? ⟨gb296, 0, none⟩ = some (.int .i64 a2_0) := (blk_cell BK296.out 0).trans rfl; have hcz287_1 : w286.cell? ⟨gb296, 1, none⟩ = some (.int .i64 a2_1) := (blk_cell BK296.out 1).trans rfl; have hfz287_0 := blk_frozen BK296.out 0; have hfz287_1 := blk_frozen BK296.out 1) | (go_at_call 10; (with_reducible refine (dot_Root.calls a2_0 a2_1 t350 _ A267.out).mono ?_); rintro e w288 ⟨rfl, hb⟩; have n0_ := Aside0.mk (Kd.R_below (by (with_reducible repeat (first | apply Kd.R_alloc | apply Kd.R_drewN | apply Kd.R_drew)); exact HO_15.out) hb); have n1_ := Aside0.mk (blk_below (g := gb296) (o := .cells #[.int .i64 a2_0, .int .i64 a2_1] 23 (0, 0)) (by (with_reducible repeat (first | refine blk_drewN ?_ _ | refine blk_drew ?_ | refine blk_alloc ?_ _)); exact BK296.out) hb); have n2_ := Aside0.mk (blk_below (g := gb297) (o := .cells #[.int .i64 a3_0, .int .i64 a3_1] 23 (0, 0)) (by (with_reducible repeat (first | refine blk_drewN ?_ _ | refine blk_drew ?_ | refine blk_alloc ?_ _)); exact BK297.out) hb); have n3_ := Aside0.mk (blk_below (g := gb298) (o := .cells #[.int .i64 a4_0, .int .i64 a4_1] 23 (0, 0)) (by (with_reducible repeat (first | refine blk_drewN ?_ _ | refine blk_drew ?_ | refine blk_alloc ?_ _)); exact BK298.out) hb); have n4_ := Aside0.mk (below_step (by repeat (first | (with_reducible first | exact HB.out | apply below_alloc | apply pw_below_drewN | apply below_drew1 | refine below_set ?_ GE296.out | refine below_set ?_ GE297.out | refine below_set ?_ GE298.out) | exact HB.out)) hb); clear HO_15; clear BK296; clear BK297; clear BK298; clear HB; have HO_15 := n0_; have BK296 := n1_; have BK297 := n2_; have BK298 := n3_; have HB := n4_; clear n0_ n1_ n2_ n3_ n4_; (try clear hb); (try clear hb2); (try clear hk); (try clear hi); have hcz289_0 : w288.cell? ⟨gb296, 0, none⟩ = some (.int .i64 a2_0) := (blk_cell BK296.out 0).trans rfl; have hcz289_1 : w288.cell? ⟨gb296, 1, none⟩ = some (.int .i64 a2_1) := (blk_cell BK296.out 1).trans rfl; have hfz289_0 := blk_frozen BK296.out 0; have hfz289_1 := blk_frozen BK296.out 1) | (go_at_call 29; (with_reducible refine (redpencillaw04_parses.calls t344 a2_0 a2_1 0 true _ ?side1 A278.out).mono ?_); (case side1 => exact GOK_below HG.out (by repeat (first | (with_reducible first | exact HB.out | apply below_alloc | apply pw_below_drewN | apply below_drew1 | refine below_set ?_ GE296.out | refine below_set ?_ GE297.out | refine below_set ?_ GE298.out) | exact HB.out))); rintro e w290 ⟨rfl, hb⟩; have n0_ := Aside0.mk (Kd.R_below (by (with_reducible repeat (first | apply Kd.R_alloc | apply Kd.R_drewN | apply Kd.R_drew)); exact HO_15.out) hb); have n1_ := Aside0.mk (blk_below (g := gb296) (o := .cells #[.int .i64 a2_0, .int .i64 a2_1] 23 (0, 0)) (by (with_reducible repeat (first | refine blk_drewN ?_ _ | refine blk_drew ?_ | refine blk_alloc ?_ _)); exact BK296.out) hb); have n2_ := Aside0.mk (blk_below (g := gb297) (o := .cells #[.int .i64 a3_0, .int .i64 a3_1] 23 (0, 0)) (by (with_reducible repeat (first | refine blk_drewN ?_ _ | refine blk_drew ?_ | refine blk_alloc ?_ _)); exact BK297.out) hb); have n3_ := Aside0.mk (blk_below (g := gb298) (o := .cells #[.int .i64 a4_0, .int .i64 a4_1] 23 (0, 0)) (by (with_reducible repeat (first | refine blk_drewN ?_ _ | refine blk_drew ?_ | refine blk_alloc ?_ _)); exact BK298.out) hb); have n4_ := Aside0.mk (below_step (by repeat (first | (with_reducible first | exact HB.out | apply below_alloc | apply pw_below_drewN | apply below_drew1 | refine below_set ?_ GE296.out | refine below_set ?_ GE297.out | refine below_set ?_ GE298.out) | exact HB.out)) hb); clear HO_15; clear BK296; clear BK297; clear BK298; clear HB; have HO_15 := n0_; have BK296 := n1_; have BK297 := n2_; have BK298 := n3_; have HB := n4_; clear n0_ n1_ n2_ n3_ n4_; (try clear hb); (try clear hb2); (try clear hk); (try clear hi)) | ((with_reducible refine gate_callee (f := 14) rfl ?_); refine goesL_ (some 155) rfl rfl Tryd.func14 (by kernel_rfl) rfl #[] rfl (by (try simp only [List.map_toArray, List.map_cons, List.map_nil]); first | done | rfl | (simp only [List.length_drop, List.length_take]; rfl)) ?_; (with_reducible refine (redpencillaw04_known.calls k5  true _ ?side1 A280.out).mono ?_); (case side1 => exact GOK_below HG.out (by repeat (first | (with_reducible first | exact HB.out | apply below_alloc | apply pw_below_drewN | apply below_drew1 | refine below_set ?_ GE296.out | refine below_set ?_ GE297.out | refine below_set ?_ GE298.out) | exact HB.out))); rintro e w291 ⟨rfl, hb⟩; refine ⟨_, rfl, ?_⟩; have n0_ := Aside0.mk (Kd.R_below (by (with_reducible repeat (first | apply Kd.R_alloc | apply Kd.R_drewN | apply Kd.R_drew)); exact HO_15.out) hb); have n1_ := Aside0.mk (blk_below (g := gb296) (o := .cells #[.int .i64 a2_0, .int .i64 a2_1] 23 (0, 0)) (by (with_reducible repeat (first | refine blk_drewN ?_ _ | refine blk_drew ?_ | refine blk_alloc ?_ _)); exact BK296.out) hb); have n2_ := Aside0.mk (blk_below (g := gb297) (o := .cells #[.int .i64 a3_0, .int .i64 a3_1] 23 (0, 0)) (by (with_reducible repeat (first | refine blk_drewN ?_ _ | refine blk_drew ?_ | refine blk_alloc ?_ _)); exact BK297.out) hb); have n3_ := Aside0.mk (blk_below (g := gb298) (o := .cells #[.int .i64 a4_0, .int .i64 a4_1] 23 (0, 0)) (by (with_reducible repeat (first | refine blk_drewN ?_ _ | refine blk_drew ?_ | refine blk_alloc ?_ _)); exact BK298.out) hb); have n4_ := Aside0.mk (below_step (by repeat (first | (with_reducible first | exact HB.out | apply below_alloc | apply pw_below_drewN | apply below_drew1 | refine below_set ?_ GE296.out | refine below_set ?_ GE297.out | refine below_set ?_ GE298.out) | exact HB.out)) hb); clear HO_15; clear BK296; clear BK297; clear BK298; clear HB; have HO_15 := n0_; have BK296 := n1_; have BK297 := n2_; have BK298 := n3_; have HB := n4_; clear n0_ n1_ n2_ n3_ n4_; (try clear hb); (try clear hb2); (try clear hk); (try clear hi)))
                    go_ret
                    exact ⟨by first | rfl | (simp [errW_none, errW_some] <;> rfl) | (simp [*, errW_none, errW_some] <;> rfl), by repeat (first | (with_reducible first | exact HB.out | apply below_alloc | apply pw_below_drewN | apply below_drew1 | refine below_set ?_ GE296.out | refine below_set ?_ GE297.out | refine below_set ?_ GE298.out) | exact HB.out)⟩
                   ·
                    replace c279 := Bool.eq_false_iff.mpr c279
                    subst c279
                    have H1 : (some false) = some true := by rw [if_neg (show ¬ (false = true) by decide)] at H; exact H
                    exact absurd H1 (by simp)
                  ·
                   rw [if_neg c277] at H
                   have c277b0 : (t345 == 0) = false := beq_eq_false_iff_ne.mpr c277
                   have ct_ : t350 = false := by have q_ := c268b0; rw [c277b0] at q_; simpa using q_
                   have c277b1 : (t345 != 0) = true := bne_iff_ne.mpr c277
                   replace H := Option.bind_eq_some_iff.mp H
                   obtain ⟨t353, A3020, H⟩ := H
                   replace H : (some t353) = some true := H
                   have A302 := Aside0.mk A3020
                   clear A3020
                   obtain rfl := Option.some.inj H
                   have hnb303 := NB296_297.out
                   have hnc303 := NB297_296.out
                   have hnb304 := NB296_298.out
                   have hnc304 := NB298_296.out
                   have hcz305_0 : wr.cell? ⟨gb296, 0, none⟩ = some (.int .i64 a2_0) := (blk_cell BK296.out 0).trans rfl
                   have hcz305_1 : wr.cell? ⟨gb296, 1, none⟩ = some (.int .i64 a2_1) := (blk_cell BK296.out 1).trans rfl
                   have hfz305_0 := blk_frozen BK296.out 0
                   have hfz305_1 := blk_frozen BK296.out 1
                   go_wp2_with (first | ((with_reducible refine gate_callee (f := 30) rfl ?_); refine goesL_ (some 133) rfl rfl Tryd.func30 (by kernel_rfl) rfl #[.agg #[.int .i64 a2_0, .int .i64 a2_1]] rfl (by (try simp only [List.map_toArray, List.map_cons, List.map_nil]); first | done | rfl | (simp only [List.length_drop, List.length_take]; rfl)) ?_; (with_reducible refine (dot_Text.calls a2_0 a2_1 t344 t345 _ ?side1 A228.out).mono ?_); (case side1 => exact GOK_below HG.out (by repeat (first | (with_reducible first | exact HB.out | apply below_alloc | apply pw_below_drewN | apply below_drew1 | refine below_set ?_ GE296.out | refine below_set ?_ GE297.out | refine below_set ?_ GE298.out) | exact HB.out))); rintro e w306 ⟨rfl, hb⟩; refine ⟨_, rfl, ?_⟩; have n0_ := Aside0.mk (Kd.R_below (by (with_reducible repeat (first | apply Kd.R_alloc | apply Kd.R_drewN | apply Kd.R_drew)); exact HO_15.out) hb); have n1_ := Aside0.mk (blk_below (g := gb296) (o := .cells #[.int .i64 a2_0, .int .i64 a2_1] 23 (0, 0)) (by (with_reducible repeat (first | refine blk_drewN ?_ _ | refine blk_drew ?_ | refine blk_alloc ?_ _)); exact BK296.out) hb); have n2_ := Aside0.mk (blk_below (g := gb297) (o := .cells #[.int .i64 a3_0, .int .i64 a3_1] 23 (0, 0)) (by (with_reducible repeat (first | refine blk_drewN ?_ _ | refine blk_drew ?_ | refine blk_alloc ?_ _)); exact BK297.out) hb); have n3_ := Aside0.mk (blk_below (g := gb298) (o := .cells #[.int .i64 a4_0, .int .i64 a4_1] 23 (0, 0)) (by (with_reducible repeat (first | refine blk_drewN ?_ _ | refine blk_drew ?_ | refine blk_alloc ?_ _)); exact BK298.out) hb); have n4_ := Aside0.mk (below_step (by repeat (first | (with_reducible first | exact HB.out | apply below_alloc | apply pw_below_drewN | apply below_drew1 | refine below_set ?_ GE296.out | refine below_set ?_ GE297.out | refine below_set ?_ GE298.out) | exact HB.out)) hb); clear HO_15; clear BK296; clear BK297; clear BK298; clear HB; have HO_15 := n0_; have BK296 := n1_; have BK297 := n2_; have BK298 := n3_; have HB := n4_; clear n0_ n1_ n2_ n3_ n4_; (try clear hb); (try clear hb2); (try clear hk); (try clear hi); have hcz307_0 : w306.cell? ⟨gb296, 0, none⟩ = some (.int .i64 a2_0) := (blk_cell BK296.out 0).trans rfl; have hcz307_1 : w306.cell? ⟨gb296, 1, none⟩ = some (.int .i64 a2_1) := (blk_cell BK296.out 1).trans rfl; have hfz307_0 := blk_frozen BK296.out 0; have hfz307_1 := blk_frozen BK296.out 1) | ((with_reducible refine gate_callee (f := 8) rfl ?_); refine goesL_ (some 139) rfl rfl Tryd.func8 (by kernel_rfl) rfl #[.agg #[.int .i64 a2_0, .int .i64 a2_1]] rfl (by (try simp only [List.map_toArray, List.map_cons, List.map_nil]); first | done | rfl | (simp only [List.length_drop, List.length_take]; rfl)) ?_; (with_reducible refine (dot_Valid.calls a2_0 a2_1 false _ A229.out).mono ?_); rintro e w308 ⟨rfl, hb⟩; refine ⟨_, rfl, ?_⟩; have n0_ := Aside0.mk (Kd.R_below (by (with_reducible repeat (first | apply Kd.R_alloc | apply Kd.R_drewN | apply Kd.R_drew)); exact HO_15.out) hb); have n1_ := Aside0.mk (blk_below (g := gb296) (o := .cells #[.int .i64 a2_0, .int .i64 a2_1] 23 (0, 0)) (by (with_reducible repeat (first | refine blk_drewN ?_ _ | refine blk_drew ?_ | refine blk_alloc ?_ _)); exact BK296.out) hb); have n2_ := Aside0.mk (blk_below (g := gb297) (o := .cells #[.int .i64 a3_0, .int .i64 a3_1] 23 (0, 0)) (by (with_reducible repeat (first | refine blk_drewN ?_ _ | refine blk_drew ?_ | refine blk_alloc ?_ _)); exact BK297.out) hb); have n3_ := Aside0.mk (blk_below (g := gb298) (o := .cells #[.int .i64 a4_0, .int .i64 a4_1] 23 (0, 0)) (by (with_reducible repeat (first | refine blk_drewN ?_ _ | refine blk_drew ?_ | refine blk_alloc ?_ _)); exact BK298.out) hb); have n4_ := Aside0.mk (below_step (by repeat (first | (with_reducible first | exact HB.out | apply below_alloc | apply pw_below_drewN | apply below_drew1 | refine below_set ?_ GE296.out | refine below_set ?_ GE297.out | refine below_set ?_ GE298.out) | exact HB.out)) hb); clear HO_15; clear BK296; clear BK297; clear BK298; clear HB; have HO_15 := n0_; have BK296 := n1_; have BK297 := n2_; have BK298 := n3_; have HB := n4_; clear n0_ n1_ n2_ n3_ n4_; (try clear hb); (try clear hb2); (try clear hk); (try clear hi); have hcz309_0 : w308.cell? ⟨gb296, 0, none⟩ = some (.int .i64 a2_0) := (blk_cell BK296.out 0).trans rfl; have hcz309_1 : w308.cell? ⟨gb296, 1, none⟩ = some (.int .i64 a2_1) := (blk_cell BK296.out 1).trans rfl; have hfz309_0 := blk_frozen BK296.out 0; have hfz309_1 := blk_frozen BK296.out 1) | (go_at_call 10; (with_reducible refine (dot_Root.calls a2_0 a2_1 t350 _ A267.out).mono ?_); rintro e w310 ⟨rfl, hb⟩; have n0_ := Aside0.mk (Kd.R_below (by (with_reducible repeat (first | apply Kd.R_alloc | apply Kd.R_drewN | apply Kd.R_drew)); exact HO_15.out) hb); have n1_ := Aside0.mk (blk_below (g := gb296) (o := .cells #[.int .i64 a2_0, .int .i64 a2_1] 23 (0, 0)) (by (with_reducible repeat (first | refine blk_drewN ?_ _ | refine blk_drew ?_ | refine blk_alloc ?_ _)); exact BK296.out) hb); have n2_ := Aside0.mk (blk_below (g := gb297) (o := .cells #[.int .i64 a3_0, .int .i64 a3_1] 23 (0, 0)) (by (with_reducible repeat (first | refine blk_drewN ?_ _ | refine blk_drew ?_ | refine blk_alloc ?_ _)); exact BK297.out) hb); have n3_ := Aside0.mk (blk_below (g := gb298) (o := .cells #[.int .i64 a4_0, .int .i64 a4_1] 23 (0, 0)) (by (with_reducible repeat (first | refine blk_drewN ?_ _ | refine blk_drew ?_ | refine blk_alloc ?_ _)); exact BK298.out) hb); have n4_ := Aside0.mk (below_step (by repeat (first | (with_reducible first | exact HB.out | apply below_alloc | apply pw_below_drewN | apply below_drew1 | refine below_set ?_ GE296.out | refine below_set ?_ GE297.out | refine below_set ?_ GE298.out) | exact HB.out)) hb); clear HO_15; clear BK296; clear BK297; clear BK298; clear HB; have HO_15 := n0_; have BK296 := n1_; have BK297 := n2_; have BK298 := n3_; have HB := n4_; clear n0_ n1_ n2_ n3_ n4_; (try clear hb); (try clear hb2); (try clear hk); (try clear hi)) | ((with_reducible refine gate_callee (f := 14) rfl ?_); refine goesL_ (some 155) rfl rfl Tryd.func14 (by kernel_rfl) rfl #[] rfl (by (try simp only [List.map_toArray, List.map_cons, List.map_nil]); first | done | rfl | (simp only [List.length_drop, List.length_take]; rfl)) ?_; (with_reducible refine (redpencillaw04_known.calls k5  true _ ?side1 A302.out).mono ?_); (case side1 => exact GOK_below HG.out (by repeat (first | (with_reducible first | exact HB.out | apply below_alloc | apply pw_below_drewN | apply below_drew1 | refine below_set ?_ GE296.out | refine below_set ?_ GE297.out | refine below_set ?_ GE298.out) | exact HB.out))); rintro e w311 ⟨rfl, hb⟩; refine ⟨_, rfl, ?_⟩; have n0_ := Aside0.mk (Kd.R_below (by (with_reducible repeat (first | apply Kd.R_alloc | apply Kd.R_drewN | apply Kd.R_drew)); exact HO_15.out) hb); have n1_ := Aside0.mk (blk_below (g := gb296) (o := .cells #[.int .i64 a2_0, .int .i64 a2_1] 23 (0, 0)) (by (with_reducible repeat (first | refine blk_drewN ?_ _ | refine blk_drew ?_ | refine blk_alloc ?_ _)); exact BK296.out) hb); have n2_ := Aside0.mk (blk_below (g := gb297) (o := .cells #[.int .i64 a3_0, .int .i64 a3_1] 23 (0, 0)) (by (with_reducible repeat (first | refine blk_drewN ?_ _ | refine blk_drew ?_ | refine blk_alloc ?_ _)); exact BK297.out) hb); have n3_ := Aside0.mk (blk_below (g := gb298) (o := .cells #[.int .i64 a4_0, .int .i64 a4_1] 23 (0, 0)) (by (with_reducible repeat (first | refine blk_drewN ?_ _ | refine blk_drew ?_ | refine blk_alloc ?_ _)); exact BK298.out) hb); have n4_ := Aside0.mk (below_step (by repeat (first | (with_reducible first | exact HB.out | apply below_alloc | apply pw_below_drewN | apply below_drew1 | refine below_set ?_ GE296.out | refine below_set ?_ GE297.out | refine below_set ?_ GE298.out) | exact HB.out)) hb); clear HO_15; clear BK296; clear BK297; clear BK298; clear HB; have HO_15 := n0_; have BK296 := n1_; have BK297 := n2_; have BK298 := n3_; have HB := n4_; clear n0_ n1_ n2_ n3_ n4_; (try clear hb); (try clear hb2); (try clear hk); (try clear hi)))
                   go_ret
                   exact ⟨by first | rfl | (simp [errW_none, errW_some] <;> rfl) | (simp [*, errW_none, errW_some] <;> rfl), by repeat (first | (with_reducible first | exact HB.out | apply below_alloc | apply pw_below_drewN | apply below_drew1 | refine below_set ?_ GE296.out | refine below_set ?_ GE297.out | refine below_set ?_ GE298.out) | exact HB.out)⟩

end Go.Proofs.YtcmicaheakkgdaaDoor.PAll
