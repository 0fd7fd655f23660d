-- Printed by a program of this session (wip/tools/mkprint2.py) out of the translation; Lean checks it. -- narrowed
import Derived.Test.YtamggklblaigpaaGreatDoorPAllx0
import Derived.Test.YtamggklblaigpaaGreatDoorPAllx1
import Derived.Test.YtamggklblaigpaaGreatDoorPAllx3
import Derived.Test.YtamggklblaigpaaGreatDoorPAllx4
import Derived.Test.YtamggklblaigpaaGreatDoorPAllx5
import Derived.Test.YtamggklblaigpaaGreatDoorPAllx8
import Derived.Test.YtamggklblaigpaaGreatDoorPAllx9
import Derived.Test.YtamggklblaigpaaGreatDoorNmc
import Derived.Test.YtamggklblaigpaaGreatDoorPAllx12d
namespace Go.Proofs.YtamggklblaigpaaGreatDoor.PAll
open Go.RowKit Go.Proofs.YtamggklblaigpaaGreatDoorW.PrintWords Go.Proofs.YtamggklblaigpaaGreatDoorW.PrintLast Go.Proofs.YtamggklblaigpaaGreatDoorW.PrintMore
attribute [local go_sem] max2_int min2_int max_two min_two max_three min_three max_four min_four   -- for this text's walks alone
set_option linter.unusedVariables false
set_option linter.unusedSimpArgs false

attribute [local go_sem high] eqA23
local macro "rp_" : tactic => `(tactic| (with_reducible repeat (first | apply blk_drewN | apply blk_drew | apply blk_alloc)))
local macro "pt_" : tactic => `(tactic| simp only [Act.put, List.setIfInBounds_toArray, List.set_cons_zero, List.set_cons_succ, i64_w, i32_w])
def redpencillaw09_NodeHolds.T1 : Bool × List (List Nat × List Nat) := (true, [([], []), ([], []), ([0, 1], [0, 1]), ([], []), ([], []), ([3, 4, 2], [3, 4]), ([2, 5, 0, 1, 2], [2]), ([5, 6, 0, 1, 2, 3, 4, 5, 6], [5])])
def redpencillaw09_NodeHolds.B1 : List Nat := [0, 0, 3, 0, 0, 31, 63, 127]
theorem redpencillaw09_NodeHolds.tab1 : rtab .any (opsOf Tryz.f4 1) = redpencillaw09_NodeHolds.T1 := by kernel_rfl
theorem redpencillaw09_NodeHolds.bits1 : waitsOk redpencillaw09_NodeHolds.T1.2 redpencillaw09_NodeHolds.B1 = true := by kernel_rfl
def redpencillaw09_NodeHolds.T12 : Bool × List (List Nat × List Nat) := (true, [([], []), ([], []), ([], []), ([], []), ([0, 1, 2, 3], [0, 1, 2, 3]), ([4], [4]), ([5, 4], [5]), ([6], [6]), ([7, 6], [6, 7]), ([8, 6, 6], [6, 8]), ([9], [9]), ([10, 9, 9], [9, 10]), ([9], [9]), ([12, 11, 9], [9, 12]), ([13, 13, 9], [9, 13]), ([14], [14]), ([15, 14, 14], [14, 15]), ([14, 16, 9], [9, 14, 16]), ([11, 17, 9], [9, 11, 17]), ([18, 16, 9], [9, 18]), ([19], [19]), ([20, 19, 19], [19, 20]), ([21, 19], [19, 21]), ([19, 22, 9], [9, 19, 22]), ([9, 23, 6], [6, 9, 23]), ([6, 24], [6, 24])])
def redpencillaw09_NodeHolds.B12 : List Nat := [0, 0, 0, 0, 15, 31, 63, 127, 255, 511, 1023, 2047, 1023, 8191, 16383, 32767, 65535, 131071, 262143, 524287, 1048575, 2097151, 4194303, 8388607, 16777215, 33554431]
theorem redpencillaw09_NodeHolds.tab12 : rtab .any (opsOf Tryz.f4 12) = redpencillaw09_NodeHolds.T12 := by kernel_rfl
theorem redpencillaw09_NodeHolds.bits12 : waitsOk redpencillaw09_NodeHolds.T12.2 redpencillaw09_NodeHolds.B12 = true := by kernel_rfl
theorem redpencillaw09_NodeHolds.j0_no : ∀ k y1 y2 y3 y4 y5 y6 y7 y8 y9 y10 y11 y12 y13 y14 y15 y16 y17 y18, ¬ redpencillaw09_NodeHolds.j0 k true y1 y2 y3 y4 y5 y6 y7 y8 y9 y10 y11 y12 y13 y14 y15 y16 y17 y18 = some true := by
  intro k y1 y2 y3 y4 y5 y6 y7 y8 y9 y10 y11 y12 y13 y14 y15 y16 y17 y18
  cases k with
  | zero => rw [redpencillaw09_NodeHolds.j0]; simp
  | succ k => rw [redpencillaw09_NodeHolds.j0]; simp
theorem redpencillaw09_NodeHolds.j2_no : ∀ k y1 y2 y3 y4 y5 y6 y7 y8 y9 y10 y11 y12 y13 y14 y15 y16 y17 y18, ¬ redpencillaw09_NodeHolds.j2 k true y1 y2 y3 y4 y5 y6 y7 y8 y9 y10 y11 y12 y13 y14 y15 y16 y17 y18 = some true := by
  intro k y1 y2 y3 y4 y5 y6 y7 y8 y9 y10 y11 y12 y13 y14 y15 y16 y17 y18
  cases k with
  | zero => rw [redpencillaw09_NodeHolds.j2]; simp
  | succ k => rw [redpencillaw09_NodeHolds.j2]; simp
theorem redpencillaw09_NodeHolds.j3_no : ∀ k y0 y1 y2 y4 y5 y6 y7 y8 y9 y10 y11 y12 y13 y14 y15 y16 y17 y18 y19 y20 y21 y22 y23 y24 y25 y26 y27, ¬ redpencillaw09_NodeHolds.j3 k y0 y1 y2 true y4 y5 y6 y7 y8 y9 y10 y11 y12 y13 y14 y15 y16 y17 y18 y19 y20 y21 y22 y23 y24 y25 y26 y27 = some true := by
  intro k y0 y1 y2 y4 y5 y6 y7 y8 y9 y10 y11 y12 y13 y14 y15 y16 y17 y18 y19 y20 y21 y22 y23 y24 y25 y26 y27
  cases k with
  | zero => rw [redpencillaw09_NodeHolds.j3]; simp
  | succ k => rw [redpencillaw09_NodeHolds.j3]; simp
theorem blk_below_of {W w w1 : Go.World} {g : Nat} {o : Go.Obj} (k : W.heap[g]? = some o) (h : w.heap[g]? = some o) (hb : Below w.heap.size w w1) : w1.heap[g]? = some o := blk_below h hb
theorem blk_below_k {W w w1 : Go.World} {g : Nat} {t : Go.TypeId} {cs cs1 : Array Go.Value} (k : W.heap[g]? = some (.cells cs t (0, 0))) (h : w.heap[g]? = some (.cells cs1 t (0, 0))) (hb : Below w.heap.size w w1) : w1.heap[g]? = some (.cells cs1 t (0, 0)) := blk_below h hb
set_option maxHeartbeats 8000000 in
set_option maxRecDepth 100000 in
theorem redpencillaw09_NodeHolds.calls (k : Nat) (a0_0 : Int) (a0_1 : Int) (a0_2 : Int) (a0_3 : Int) (a0_4 : Int) (a0_5 : Int) (a1_0 : Int) (a1_1 : Int) (a1_2 : Int) (a1_3 : Int) (a1_4 : Int) (a1_5 : Int) (a2_0 : Int) (a2_1 : Int) (a2_2 : Int) (a2_3 : Int) (a2_4 : Int) (a2_5 : Int) (w : World) (hG : GOK w) (h : redpencillaw09_NodeHolds.f k a0_0 a0_1 a0_2 a0_3 a0_4 a0_5 a1_0 a1_1 a1_2 a1_3 a1_4 a1_5 a2_0 a2_1 a2_2 a2_3 a2_4 a2_5 = some true) :
  Calls Tryz.prog 4 #[.agg #[.int .i64 a0_0, .int .i64 a0_1, .int .i64 a0_2, .int .i64 a0_3, .int .i64 a0_4, .int .i32 a0_5], .agg #[.int .i64 a1_0, .int .i64 a1_1, .int .i64 a1_2, .int .i64 a1_3, .int .i64 a1_4, .int .i32 a1_5], .agg #[.int .i64 a2_0, .int .i64 a2_1, .int .i64 a2_2, .int .i64 a2_3, .int .i64 a2_4, .int .i32 a2_5]] w fun e w' => e = .returned (.bool true) ∧ Below w.heap.size w w' := by
 have hu25 := Tryz.underlying25
 have hu23 := Tryz.underlying23
 have HB := Aside0.mk (Below.refl w.heap.size w)
 have HG := Aside0.mk hG
 clear hG
 have H : ((node_Before.f k a0_0 a0_1 a0_2 a0_3 a0_4 a0_5 a1_0 a1_1 a1_2 a1_3 a1_4 a1_5).bind fun t380 => ((node_Before.f k a1_0 a1_1 a1_2 a1_3 a1_4 a1_5 a0_0 a0_1 a0_2 a0_3 a0_4 a0_5).bind fun t381 => (if t380 = true then (if t381 = true then (redpencillaw09_NodeHolds.j0 k true a0_0 a0_1 a0_2 a0_3 a0_4 a0_5 a1_0 a1_1 a1_2 a1_3 a1_4 a1_5 a2_0 a2_1 a2_2 a2_3 a2_4 a2_5) else (if a0_4 = a1_4 then (redpencillaw09_NodeHolds.j0 k (true != (!(a0_0 == a1_0) || (!(a0_1 == a1_1)))) a0_0 a0_1 a0_2 a0_3 a0_4 a0_5 a1_0 a1_1 a1_2 a1_3 a1_4 a1_5 a2_0 a2_1 a2_2 a2_3 a2_4 a2_5) else (redpencillaw09_NodeHolds.j0 k (true != true) a0_0 a0_1 a0_2 a0_3 a0_4 a0_5 a1_0 a1_1 a1_2 a1_3 a1_4 a1_5 a2_0 a2_1 a2_2 a2_3 a2_4 a2_5))) else (if a0_4 = a1_4 then (redpencillaw09_NodeHolds.j0 k (t381 != (!(a0_0 == a1_0) || (!(a0_1 == a1_1)))) a0_0 a0_1 a0_2 a0_3 a0_4 a0_5 a1_0 a1_1 a1_2 a1_3 a1_4 a1_5 a2_0 a2_1 a2_2 a2_3 a2_4 a2_5) else (redpencillaw09_NodeHolds.j0 k (t381 != true) a0_0 a0_1 a0_2 a0_3 a0_4 a0_5 a1_0 a1_1 a1_2 a1_3 a1_4 a1_5 a2_0 a2_1 a2_2 a2_3 a2_4 a2_5))))) = some true := h
 clear h
 replace H := Option.bind_eq_some_iff.mp H
 obtain ⟨t380, A40, H⟩ := H
 replace H : ((node_Before.f k a1_0 a1_1 a1_2 a1_3 a1_4 a1_5 a0_0 a0_1 a0_2 a0_3 a0_4 a0_5).bind fun t381 => (if t380 = true then (if t381 = true then (redpencillaw09_NodeHolds.j0 k true a0_0 a0_1 a0_2 a0_3 a0_4 a0_5 a1_0 a1_1 a1_2 a1_3 a1_4 a1_5 a2_0 a2_1 a2_2 a2_3 a2_4 a2_5) else (if a0_4 = a1_4 then (redpencillaw09_NodeHolds.j0 k (true != (!(a0_0 == a1_0) || (!(a0_1 == a1_1)))) a0_0 a0_1 a0_2 a0_3 a0_4 a0_5 a1_0 a1_1 a1_2 a1_3 a1_4 a1_5 a2_0 a2_1 a2_2 a2_3 a2_4 a2_5) else (redpencillaw09_NodeHolds.j0 k (true != true) a0_0 a0_1 a0_2 a0_3 a0_4 a0_5 a1_0 a1_1 a1_2 a1_3 a1_4 a1_5 a2_0 a2_1 a2_2 a2_3 a2_4 a2_5))) else (if a0_4 = a1_4 then (redpencillaw09_NodeHolds.j0 k (t381 != (!(a0_0 == a1_0) || (!(a0_1 == a1_1)))) a0_0 a0_1 a0_2 a0_3 a0_4 a0_5 a1_0 a1_1 a1_2 a1_3 a1_4 a1_5 a2_0 a2_1 a2_2 a2_3 a2_4 a2_5) else (redpencillaw09_NodeHolds.j0 k (t381 != true) a0_0 a0_1 a0_2 a0_3 a0_4 a0_5 a1_0 a1_1 a1_2 a1_3 a1_4 a1_5 a2_0 a2_1 a2_2 a2_3 a2_4 a2_5)))) = some true := H
 have A4 := Aside0.mk A40
 clear A40
 replace H := Option.bind_eq_some_iff.mp H
 obtain ⟨t381, A50, H⟩ := H
 replace H : (if t380 = true then (if t381 = true then (redpencillaw09_NodeHolds.j0 k true a0_0 a0_1 a0_2 a0_3 a0_4 a0_5 a1_0 a1_1 a1_2 a1_3 a1_4 a1_5 a2_0 a2_1 a2_2 a2_3 a2_4 a2_5) else (if a0_4 = a1_4 then (redpencillaw09_NodeHolds.j0 k (true != (!(a0_0 == a1_0) || (!(a0_1 == a1_1)))) a0_0 a0_1 a0_2 a0_3 a0_4 a0_5 a1_0 a1_1 a1_2 a1_3 a1_4 a1_5 a2_0 a2_1 a2_2 a2_3 a2_4 a2_5) else (redpencillaw09_NodeHolds.j0 k (true != true) a0_0 a0_1 a0_2 a0_3 a0_4 a0_5 a1_0 a1_1 a1_2 a1_3 a1_4 a1_5 a2_0 a2_1 a2_2 a2_3 a2_4 a2_5))) else (if a0_4 = a1_4 then (redpencillaw09_NodeHolds.j0 k (t381 != (!(a0_0 == a1_0) || (!(a0_1 == a1_1)))) a0_0 a0_1 a0_2 a0_3 a0_4 a0_5 a1_0 a1_1 a1_2 a1_3 a1_4 a1_5 a2_0 a2_1 a2_2 a2_3 a2_4 a2_5) else (redpencillaw09_NodeHolds.j0 k (t381 != true) a0_0 a0_1 a0_2 a0_3 a0_4 a0_5 a1_0 a1_1 a1_2 a1_3 a1_4 a1_5 a2_0 a2_1 a2_2 a2_3 a2_4 a2_5))) = some true := H
 have A5 := Aside0.mk A50
 clear A50
 have HC6 := Aside0.mk H
 clear H
 go_enter Tryz.func4, Tryz.ntmps4
 try go_wp2_with (first | ((with_reducible refine gate_dst (N := 3) rfl ?_); refine box_event ?hg (N := 3) ?hd (cs := #[.int .i64 a0_0, .int .i64 a0_1, .int .i64 a0_2, .int .i64 a0_3, .int .i64 a0_4, .int .i32 a0_5]) (t := 25) ?hr ?_; (case hd => rfl); (case hg => rfl); (case hr => first | (go_simp; done) | (go_simp; rfl)); intro gb377 hg w7 hbox hb; have n0_ := Aside0.mk (below_step (by repeat (first | (with_reducible first | exact HB.out | apply below_alloc | apply pw_below_drewN | apply below_drew1) | exact HB.out)) hb); have n1_ := Aside0.mk (hbox); have n2_ := Aside0.mk ((by rw [hg]; exact (below_size (by repeat (first | (with_reducible first | exact HB.out | apply below_alloc | apply pw_below_drewN | apply below_drew1) | exact HB.out))) : w.heap.size ≤ gb377)); have n3_ := Aside0.mk ((by rw [hg]; exact (below_size (by repeat (first | (with_reducible first | exact HB.out | apply below_alloc | apply pw_below_drewN | apply below_drew1) | exact HB.out))) : w.heap.size ≤ gb377)); clear HB; have HB := n0_; have BK377 := n1_; have GW377 := n2_; have GE377 := n3_; clear n0_ n1_ n2_ n3_; clear hb hbox hg) | ((with_reducible refine gate_dst (N := 4) rfl ?_); refine box_event ?hg (N := 4) ?hd (cs := #[.int .i64 a1_0, .int .i64 a1_1, .int .i64 a1_2, .int .i64 a1_3, .int .i64 a1_4, .int .i32 a1_5]) (t := 25) ?hr ?_; (case hd => rfl); (case hg => rfl); (case hr => first | (go_simp; done) | (go_simp; rfl)); intro gb378 hg w8 hbox hb; have n0_ := Aside0.mk (blk_below (g := gb377) (by rp_; exact BK377.out) hb); have n1_ := Aside0.mk (below_step (by repeat (first | (with_reducible first | exact HB.out | apply below_alloc | apply pw_below_drewN | apply below_drew1 | refine below_set ?_ GE377.out) | exact HB.out)) hb); have n2_ := Aside0.mk (hbox); have n3_ := Aside0.mk ((by rw [hg]; exact (below_size (by repeat (first | (with_reducible first | exact HB.out | apply below_alloc | apply pw_below_drewN | apply below_drew1 | refine below_set ?_ GE377.out) | exact HB.out))) : w.heap.size ≤ gb378)); have n4_ := Aside0.mk ((by rw [hg]; exact (below_size (by repeat (first | (with_reducible first | exact HB.out | apply below_alloc | apply pw_below_drewN | apply below_drew1 | refine below_set ?_ GE377.out) | exact HB.out))) : w.heap.size ≤ gb378)); have n5_ := Aside0.mk ((by rw [hg]; exact Nat.ne_of_lt (blk_lt (g := gb377) (by rp_; exact BK377.out)) : gb377 ≠ gb378)); have n6_ := Aside0.mk ((by rw [hg]; exact Nat.ne_of_gt (blk_lt (g := gb377) (by rp_; exact BK377.out)) : gb378 ≠ gb377)); clear BK377; clear HB; have BK377 := n0_; have HB := n1_; have BK378 := n2_; have GW378 := n3_; have GE378 := n4_; have NB377_378 := n5_; have NB378_377 := n6_; clear n0_ n1_ n2_ n3_ n4_ n5_ n6_; clear hb hbox hg) | ((with_reducible refine gate_dst (N := 5) rfl ?_); refine box_event ?hg (N := 5) ?hd (cs := #[.int .i64 a2_0, .int .i64 a2_1, .int .i64 a2_2, .int .i64 a2_3, .int .i64 a2_4, .int .i32 a2_5]) (t := 25) ?hr ?_; (case hd => rfl); (case hg => rfl); (case hr => first | (go_simp; done) | (go_simp; rfl)); intro gb379 hg w9 hbox hb; have n0_ := Aside0.mk (blk_below (g := gb377) (by rp_; exact BK377.out) hb); have n1_ := Aside0.mk (blk_below (g := gb378) (by rp_; exact BK378.out) hb); have n2_ := Aside0.mk (below_step (by repeat (first | (with_reducible first | exact HB.out | apply below_alloc | apply pw_below_drewN | apply below_drew1 | refine below_set ?_ GE377.out | refine below_set ?_ GE378.out) | exact HB.out)) hb); have n3_ := Aside0.mk (hbox); have n4_ := Aside0.mk ((by rw [hg]; exact (below_size (by repeat (first | (with_reducible first | exact HB.out | apply below_alloc | apply pw_below_drewN | apply below_drew1 | refine below_set ?_ GE377.out | refine below_set ?_ GE378.out) | exact HB.out))) : w.heap.size ≤ gb379)); have n5_ := Aside0.mk ((by rw [hg]; exact (below_size (by repeat (first | (with_reducible first | exact HB.out | apply below_alloc | apply pw_below_drewN | apply below_drew1 | refine below_set ?_ GE377.out | refine below_set ?_ GE378.out) | exact HB.out))) : w.heap.size ≤ gb379)); have n6_ := Aside0.mk ((by rw [hg]; exact Nat.ne_of_lt (blk_lt (g := gb377) (by rp_; exact BK377.out)) : gb377 ≠ gb379)); have n7_ := Aside0.mk ((by rw [hg]; exact Nat.ne_of_gt (blk_lt (g := gb377) (by rp_; exact BK377.out)) : gb379 ≠ gb377)); have n8_ := Aside0.mk ((by rw [hg]; exact Nat.ne_of_lt (blk_lt (g := gb378) (by rp_; exact BK378.out)) : gb378 ≠ gb379)); have n9_ := Aside0.mk ((by rw [hg]; exact Nat.ne_of_gt (blk_lt (g := gb378) (by rp_; exact BK378.out)) : gb379 ≠ gb378)); clear BK377; clear BK378; clear HB; have BK377 := n0_; have BK378 := n1_; have HB := n2_; have BK379 := n3_; have GW379 := n4_; have GE379 := n5_; have NB377_379 := n6_; have NB379_377 := n7_; have NB378_379 := n8_; have NB379_378 := n9_; clear n0_ n1_ n2_ n3_ n4_ n5_ n6_ n7_ n8_ n9_; clear hb hbox hg))
 have n0_ := Aside0.mk (blk_drew BK377.out)
 have n1_ := Aside0.mk (blk_drew BK378.out)
 have n2_ := Aside0.mk (blk_drew BK379.out)
 have n3_ := Aside0.mk (below_drew1 HB.out)
 clear BK377
 clear BK378
 clear BK379
 clear HB
 have BK377 := n0_
 have BK378 := n1_
 have BK379 := n2_
 have HB := n3_
 clear n0_ n1_ n2_ n3_
 refine start_ (n := 8) (S := fun w' => w'.cell? ⟨gb377, 0, none⟩ = some (.int .i64 a0_0) ∧ w'.cell? ⟨gb377, 1, none⟩ = some (.int .i64 a0_1) ∧ w'.cell? ⟨gb377, 2, none⟩ = some (.int .i64 a0_2) ∧ w'.cell? ⟨gb377, 3, none⟩ = some (.int .i64 a0_3) ∧ w'.cell? ⟨gb377, 4, none⟩ = some (.int .i64 a0_4) ∧ w'.cell? ⟨gb377, 5, none⟩ = some (.int .i32 a0_5) ∧ w'.cell? ⟨gb378, 0, none⟩ = some (.int .i64 a1_0) ∧ w'.cell? ⟨gb378, 1, none⟩ = some (.int .i64 a1_1) ∧ w'.cell? ⟨gb378, 2, none⟩ = some (.int .i64 a1_2) ∧ w'.cell? ⟨gb378, 3, none⟩ = some (.int .i64 a1_3) ∧ w'.cell? ⟨gb378, 4, none⟩ = some (.int .i64 a1_4) ∧ w'.cell? ⟨gb378, 5, none⟩ = some (.int .i32 a1_5)) (ds := []) #[false, false, false, false, false, false, false, false] (by kernel_rfl) rfl rfl ⟨(blk_cell BK377.out 0).trans rfl, (blk_cell BK377.out 1).trans rfl, (blk_cell BK377.out 2).trans rfl, (blk_cell BK377.out 3).trans rfl, (blk_cell BK377.out 4).trans rfl, (blk_cell BK377.out 5).trans rfl, (blk_cell BK378.out 0).trans rfl, (blk_cell BK378.out 1).trans rfl, (blk_cell BK378.out 2).trans rfl, (blk_cell BK378.out 3).trans rfl, (blk_cell BK378.out 4).trans rfl, (blk_cell BK378.out 5).trans rfl⟩ (fun hHeld => ?_); refine with_tabW redpencillaw09_NodeHolds.tab1 redpencillaw09_NodeHolds.bits1 (fun HT_ HW_ => ?_)
 generalize w9.drew = w10 at BK377 BK378 BK379 HB hHeld ⊢
 refine take_ (i := 0) (N := some 17) (v := ?_) (a' := ?_) #[true, false, false, false, false, false, false, false] rfl rfl (take_ofW HT_.out HW_.out (by kernel_rfl)) (fun _ _ _ h => h) (Or.inl ⟨by rfl, ?_⟩) hHeld ?_ ?_
 rotate_left
 ·
  rintro w' ⟨s0, s1, s2, s3, s4, s5, s6, s7, s8, s9, s10, s11⟩
  go_simp
  with_reducible rfl
 rotate_left
 ·
  pt_
  rfl
 refine take_ (i := 1) (N := some 18) (v := ?_) (a' := ?_) #[true, true, false, false, false, false, false, false] rfl rfl (take_ofW HT_.out HW_.out (by kernel_rfl)) (fun _ _ _ h => h) (Or.inl ⟨by rfl, ?_⟩) hHeld ?_ ?_
 rotate_left
 ·
  rintro w' ⟨s0, s1, s2, s3, s4, s5, s6, s7, s8, s9, s10, s11⟩
  go_simp
  with_reducible rfl
 rotate_left
 ·
  pt_
  rfl
 refine take_ (i := 3) (N := some 20) (v := ?_) (a' := ?_) #[true, true, false, true, false, false, false, false] rfl rfl (take_ofW HT_.out HW_.out (by kernel_rfl)) (fun _ _ _ h => h) (Or.inl ⟨by rfl, ?_⟩) hHeld ?_ ?_
 rotate_left
 ·
  rintro w' ⟨s0, s1, s2, s3, s4, s5, s6, s7, s8, s9, s10, s11⟩
  go_simp
  with_reducible rfl
 rotate_left
 ·
  pt_
  rfl
 refine take_ (i := 4) (N := some 21) (v := ?_) (a' := ?_) #[true, true, false, true, true, false, false, false] rfl rfl (take_ofW HT_.out HW_.out (by kernel_rfl)) (fun _ _ _ h => h) (Or.inl ⟨by rfl, ?_⟩) hHeld ?_ ?_
 rotate_left
 ·
  rintro w' ⟨s0, s1, s2, s3, s4, s5, s6, s7, s8, s9, s10, s11⟩
  go_simp
  with_reducible rfl
 rotate_left
 ·
  pt_
  rfl
 refine one_ (i := 2) (N := some 19) #[true, true, true, true, true, false, false, false] rfl rfl (one_of HT_.out (by kernel_rfl)) (by decide) (fun K hK => ?_)
 refine goes_ Tryz.func14 (by kernel_rfl) rfl #[.agg #[.int .i64 a0_0, .int .i64 a0_1, .int .i64 a0_2, .int .i64 a0_3, .int .i64 a0_4, .int .i32 a0_5], .agg #[.int .i64 a1_0, .int .i64 a1_1, .int .i64 a1_2, .int .i64 a1_3, .int .i64 a1_4, .int .i32 a1_5]] (by rfl) rfl rfl (by (try simp only [List.map_toArray, List.map_cons, List.map_nil]); first | done | rfl | (simp only [List.length_drop, List.length_take]; rfl)) ?_
 with_reducible refine (node_Before.calls k a0_0 a0_1 a0_2 a0_3 a0_4 a0_5 a1_0 a1_1 a1_2 a1_3 a1_4 a1_5 t380 _ A4.out).mono ?_
 rintro e w11 ⟨rfl, hb⟩
 refine ⟨_, rfl, ?_⟩
 have n0_ := Aside0.mk (blk_below (g := gb377) (by rp_; exact BK377.out) hb)
 have n1_ := Aside0.mk (blk_below (g := gb378) (by rp_; exact BK378.out) hb)
 have n2_ := Aside0.mk (blk_below (g := gb379) (by rp_; exact BK379.out) hb)
 have n3_ := Aside0.mk (below_step (by repeat (first | (with_reducible first | exact HB.out | apply below_alloc | apply pw_below_drewN | apply below_drew1 | refine below_set ?_ GE377.out | refine below_set ?_ GE378.out | refine below_set ?_ GE379.out) | exact HB.out)) hb)
 clear BK377
 clear BK378
 clear BK379
 clear HB
 have BK377 := n0_
 have BK378 := n1_
 have BK379 := n2_
 have HB := n3_
 clear n0_ n1_ n2_ n3_
 (try clear hb)
 (try clear hb2)
 (try clear hk)
 (try clear hi)
 refine hK.out _ _ ⟨(blk_cell BK377.out 0).trans rfl, (blk_cell BK377.out 1).trans rfl, (blk_cell BK377.out 2).trans rfl, (blk_cell BK377.out 3).trans rfl, (blk_cell BK377.out 4).trans rfl, (blk_cell BK377.out 5).trans rfl, (blk_cell BK378.out 0).trans rfl, (blk_cell BK378.out 1).trans rfl, (blk_cell BK378.out 2).trans rfl, (blk_cell BK378.out 3).trans rfl, (blk_cell BK378.out 4).trans rfl, (blk_cell BK378.out 5).trans rfl⟩ (fun hHeld => ?_)
 clear hK K
 refine norm_ (a' := ?_) ?_ ?_
 rotate_left
 ·
  show Act.put _ (some 19) _ = _
  pt_
  rfl
 refine one_ (i := 5) (N := some 22) #[true, true, true, true, true, true, false, false] rfl rfl (one_of HT_.out (by kernel_rfl)) (by decide) (fun K hK => ?_)
 refine goes_ Tryz.func14 (by kernel_rfl) rfl #[.agg #[.int .i64 a1_0, .int .i64 a1_1, .int .i64 a1_2, .int .i64 a1_3, .int .i64 a1_4, .int .i32 a1_5], .agg #[.int .i64 a0_0, .int .i64 a0_1, .int .i64 a0_2, .int .i64 a0_3, .int .i64 a0_4, .int .i32 a0_5]] (by rfl) rfl rfl (by (try simp only [List.map_toArray, List.map_cons, List.map_nil]); first | done | rfl | (simp only [List.length_drop, List.length_take]; rfl)) ?_
 with_reducible refine (node_Before.calls k a1_0 a1_1 a1_2 a1_3 a1_4 a1_5 a0_0 a0_1 a0_2 a0_3 a0_4 a0_5 t381 _ A5.out).mono ?_
 rintro e w12 ⟨rfl, hb⟩
 refine ⟨_, rfl, ?_⟩
 have n0_ := Aside0.mk (blk_below (g := gb377) (by rp_; exact BK377.out) hb)
 have n1_ := Aside0.mk (blk_below (g := gb378) (by rp_; exact BK378.out) hb)
 have n2_ := Aside0.mk (blk_below (g := gb379) (by rp_; exact BK379.out) hb)
 have n3_ := Aside0.mk (below_step (by repeat (first | (with_reducible first | exact HB.out | apply below_alloc | apply pw_below_drewN | apply below_drew1 | refine below_set ?_ GE377.out | refine below_set ?_ GE378.out | refine below_set ?_ GE379.out) | exact HB.out)) hb)
 clear BK377
 clear BK378
 clear BK379
 clear HB
 have BK377 := n0_
 have BK378 := n1_
 have BK379 := n2_
 have HB := n3_
 clear n0_ n1_ n2_ n3_
 (try clear hb)
 (try clear hb2)
 (try clear hk)
 (try clear hi)
 refine hK.out _ _ ⟨(blk_cell BK377.out 0).trans rfl, (blk_cell BK377.out 1).trans rfl, (blk_cell BK377.out 2).trans rfl, (blk_cell BK377.out 3).trans rfl, (blk_cell BK377.out 4).trans rfl, (blk_cell BK377.out 5).trans rfl, (blk_cell BK378.out 0).trans rfl, (blk_cell BK378.out 1).trans rfl, (blk_cell BK378.out 2).trans rfl, (blk_cell BK378.out 3).trans rfl, (blk_cell BK378.out 4).trans rfl, (blk_cell BK378.out 5).trans rfl⟩ (fun hHeld => ?_)
 clear hK K
 refine norm_ (a' := ?_) ?_ ?_
 rotate_left
 ·
  show Act.put _ (some 22) _ = _
  pt_
  rfl
 refine pure_ (i := 6) (N := some 7) (v := ?_) (a' := ?_) #[true, true, true, true, true, true, true, false] rfl rfl (any_of HT_.out (by kernel_rfl)) (fun _ _ _ h => h) (Or.inl ⟨by rfl, ?_⟩) ?_ ?_
 rotate_left
 ·
  intro w'
  go_simp
  with_reducible rfl
 rotate_left
 ·
  pt_
  rfl
 refine pure_ (i := 7) (N := some 8) (v := ?_) (a' := ?_) #[true, true, true, true, true, true, true, true] rfl rfl (any_of HT_.out (by kernel_rfl)) (fun _ _ _ h => h) (Or.inl ⟨by rfl, ?_⟩) ?_ ?_
 rotate_left
 ·
  intro w'
  go_simp
  with_reducible rfl
 rotate_left
 ·
  pt_
  rfl
 refine done_ (done_of HT_.out (by kernel_rfl)) ?_
 go_upto_region 2 with (fail)
 go_cut [45] (fun v45 wc => ∃ (kq : Nat) (x45_5 : Bool), v45 = .bool x45_5 ∧ Aside0 (redpencillaw09_NodeHolds.j0 kq x45_5 a0_0 a0_1 a0_2 a0_3 a0_4 a0_5 a1_0 a1_1 a1_2 a1_3 a1_4 a1_5 a2_0 a2_1 a2_2 a2_3 a2_4 a2_5 = some true) ∧ Aside0 (kq ≤ k) ∧ Aside0 (wc.heap[gb377]? = some (.cells #[.int .i64 a0_0, .int .i64 a0_1, .int .i64 a0_2, .int .i64 a0_3, .int .i64 a0_4, .int .i32 a0_5] 25 (0, 0))) ∧ Aside0 (wc.heap[gb378]? = some (.cells #[.int .i64 a1_0, .int .i64 a1_1, .int .i64 a1_2, .int .i64 a1_3, .int .i64 a1_4, .int .i32 a1_5] 25 (0, 0))) ∧ Aside0 (wc.heap[gb379]? = some (.cells #[.int .i64 a2_0, .int .i64 a2_1, .int .i64 a2_2, .int .i64 a2_3, .int .i64 a2_4, .int .i32 a2_5] 25 (0, 0))) ∧ Aside0 (Below w.heap.size w wc))
 case first =>
  have H := HC6.out
  clear HC6
  by_cases c13 : t380 = true
  ·
   subst c13
   have H1 : (if t381 = true then (redpencillaw09_NodeHolds.j0 k true a0_0 a0_1 a0_2 a0_3 a0_4 a0_5 a1_0 a1_1 a1_2 a1_3 a1_4 a1_5 a2_0 a2_1 a2_2 a2_3 a2_4 a2_5) else (if a0_4 = a1_4 then (redpencillaw09_NodeHolds.j0 k (true != (!(a0_0 == a1_0) || (!(a0_1 == a1_1)))) a0_0 a0_1 a0_2 a0_3 a0_4 a0_5 a1_0 a1_1 a1_2 a1_3 a1_4 a1_5 a2_0 a2_1 a2_2 a2_3 a2_4 a2_5) else (redpencillaw09_NodeHolds.j0 k (true != true) a0_0 a0_1 a0_2 a0_3 a0_4 a0_5 a1_0 a1_1 a1_2 a1_3 a1_4 a1_5 a2_0 a2_1 a2_2 a2_3 a2_4 a2_5))) = some true := by rw [if_pos rfl] at H; exact H
   clear H
   have H := H1
   clear H1
   by_cases c14 : t381 = true
   ·
    subst c14
    have H1 : (redpencillaw09_NodeHolds.j0 k true a0_0 a0_1 a0_2 a0_3 a0_4 a0_5 a1_0 a1_1 a1_2 a1_3 a1_4 a1_5 a2_0 a2_1 a2_2 a2_3 a2_4 a2_5) = some true := by rw [if_pos rfl] at H; exact H
    exact absurd H1 (redpencillaw09_NodeHolds.j0_no _ _ _ _ _ _ _ _ _ _ _ _ _ _ _ _ _ _ _)
   ·
    replace c14 := Bool.eq_false_iff.mpr c14
    subst c14
    have H1 : (if a0_4 = a1_4 then (redpencillaw09_NodeHolds.j0 k (true != (!(a0_0 == a1_0) || (!(a0_1 == a1_1)))) a0_0 a0_1 a0_2 a0_3 a0_4 a0_5 a1_0 a1_1 a1_2 a1_3 a1_4 a1_5 a2_0 a2_1 a2_2 a2_3 a2_4 a2_5) else (redpencillaw09_NodeHolds.j0 k (true != true) a0_0 a0_1 a0_2 a0_3 a0_4 a0_5 a1_0 a1_1 a1_2 a1_3 a1_4 a1_5 a2_0 a2_1 a2_2 a2_3 a2_4 a2_5)) = some true := by rw [if_neg (show ¬ (false = true) by decide)] at H; exact H
    clear H
    have H := H1
    clear H1
    by_cases c15 : a0_4 = a1_4
    ·
     rw [if_pos c15] at H
     have c15b0 : (a0_4 == a1_4) = true := beq_iff_eq.mpr c15
     have c15b1 : (a0_4 != a1_4) = false := bne_eq_false_iff_eq.mpr c15
     clear c15
     (first | rw [c15b0] | (simp only [i64_w, i32_w]; rw [c15b0]) | skip)
     have H' := Aside0.mk H
     clear H
     have hnb16 := NB377_378.out
     have hnc16 := NB378_377.out
     have hnb17 := NB377_379.out
     have hnc17 := NB379_377.out
     have hcz18_0 : w12.cell? ⟨gb377, 0, none⟩ = some (.int .i64 a0_0) := (blk_cell BK377.out 0).trans rfl
     have hcz18_1 : w12.cell? ⟨gb377, 1, none⟩ = some (.int .i64 a0_1) := (blk_cell BK377.out 1).trans rfl
     have hcz18_2 : w12.cell? ⟨gb377, 2, none⟩ = some (.int .i64 a0_2) := (blk_cell BK377.out 2).trans rfl
     have hcz18_3 : w12.cell? ⟨gb377, 3, none⟩ = some (.int .i64 a0_3) := (blk_cell BK377.out 3).trans rfl
     have hcz18_4 : w12.cell? ⟨gb377, 4, none⟩ = some (.int .i64 a0_4) := (blk_cell BK377.out 4).trans rfl
     have hcz18_5 : w12.cell? ⟨gb377, 5, none⟩ = some (.int .i32 a0_5) := (blk_cell BK377.out 5).trans rfl
     have hfz18_0 := blk_frozen BK377.out 0
     have hfz18_1 := blk_frozen BK377.out 1
     have hfz18_2 := blk_frozen BK377.out 2
     have hfz18_3 := blk_frozen BK377.out 3
     have hfz18_4 := blk_frozen BK377.out 4
     have hfz18_5 := blk_frozen BK377.out 5
     have hnb19 := NB378_379.out
     have hnc19 := NB379_378.out
     have hcz20_0 : w12.cell? ⟨gb378, 0, none⟩ = some (.int .i64 a1_0) := (blk_cell BK378.out 0).trans rfl
     have hcz20_1 : w12.cell? ⟨gb378, 1, none⟩ = some (.int .i64 a1_1) := (blk_cell BK378.out 1).trans rfl
     have hcz20_2 : w12.cell? ⟨gb378, 2, none⟩ = some (.int .i64 a1_2) := (blk_cell BK378.out 2).trans rfl
     have hcz20_3 : w12.cell? ⟨gb378, 3, none⟩ = some (.int .i64 a1_3) := (blk_cell BK378.out 3).trans rfl
     have hcz20_4 : w12.cell? ⟨gb378, 4, none⟩ = some (.int .i64 a1_4) := (blk_cell BK378.out 4).trans rfl
     have hcz20_5 : w12.cell? ⟨gb378, 5, none⟩ = some (.int .i32 a1_5) := (blk_cell BK378.out 5).trans rfl
     have hfz20_0 := blk_frozen BK378.out 0
     have hfz20_1 := blk_frozen BK378.out 1
     have hfz20_2 := blk_frozen BK378.out 2
     have hfz20_3 := blk_frozen BK378.out 3
     have hfz20_4 := blk_frozen BK378.out 4
     have hfz20_5 := blk_frozen BK378.out 5
     go_wp2
     go_meet
     case rel => exact ⟨_, ((true != (!(a0_0 == a1_0) || (!(a0_1 == a1_1))))), (by first | rfl | (simp; done) | (simp [*]; done)), H', ⟨by first | omega | exact Nat.le_refl _⟩, ⟨by rp_; exact BK377.out⟩, ⟨by rp_; exact BK378.out⟩, ⟨by rp_; exact BK379.out⟩, ⟨by repeat (first | (with_reducible first | exact HB.out | apply below_alloc | apply pw_below_drewN | apply below_drew1 | refine below_set ?_ GE377.out | refine below_set ?_ GE378.out | refine below_set ?_ GE379.out) | exact HB.out)⟩⟩
    ·
     rw [if_neg c15] at H
     have c15b0 : (a0_4 == a1_4) = false := beq_eq_false_iff_ne.mpr c15
     have c15b1 : (a0_4 != a1_4) = true := bne_iff_ne.mpr c15
     (first | rw [c15b0] | (simp only [i64_w, i32_w]; rw [c15b0]) | skip)
     have H' := Aside0.mk H
     clear H
     have hnb21 := NB377_378.out
     have hnc21 := NB378_377.out
     have hnb22 := NB377_379.out
     have hnc22 := NB379_377.out
     have hcz23_0 : w12.cell? ⟨gb377, 0, none⟩ = some (.int .i64 a0_0) := (blk_cell BK377.out 0).trans rfl
     have hcz23_1 : w12.cell? ⟨gb377, 1, none⟩ = some (.int .i64 a0_1) := (blk_cell BK377.out 1).trans rfl
     have hcz23_2 : w12.cell? ⟨gb377, 2, none⟩ = some (.int .i64 a0_2) := (blk_cell BK377.out 2).trans rfl
     have hcz23_3 : w12.cell? ⟨gb377, 3, none⟩ = some (.int .i64 a0_3) := (blk_cell BK377.out 3).trans rfl
     have hcz23_4 : w12.cell? ⟨gb377, 4, none⟩ = some (.int .i64 a0_4) := (blk_cell BK377.out 4).trans rfl
     have hcz23_5 : w12.cell? ⟨gb377, 5, none⟩ = some (.int .i32 a0_5) := (blk_cell BK377.out 5).trans rfl
     have hfz23_0 := blk_frozen BK377.out 0
     have hfz23_1 := blk_frozen BK377.out 1
     have hfz23_2 := blk_frozen BK377.out 2
     have hfz23_3 := blk_frozen BK377.out 3
     have hfz23_4 := blk_frozen BK377.out 4
     have hfz23_5 := blk_frozen BK377.out 5
     have hnb24 := NB378_379.out
     have hnc24 := NB379_378.out
     have hcz25_0 : w12.cell? ⟨gb378, 0, none⟩ = some (.int .i64 a1_0) := (blk_cell BK378.out 0).trans rfl
     have hcz25_1 : w12.cell? ⟨gb378, 1, none⟩ = some (.int .i64 a1_1) := (blk_cell BK378.out 1).trans rfl
     have hcz25_2 : w12.cell? ⟨gb378, 2, none⟩ = some (.int .i64 a1_2) := (blk_cell BK378.out 2).trans rfl
     have hcz25_3 : w12.cell? ⟨gb378, 3, none⟩ = some (.int .i64 a1_3) := (blk_cell BK378.out 3).trans rfl
     have hcz25_4 : w12.cell? ⟨gb378, 4, none⟩ = some (.int .i64 a1_4) := (blk_cell BK378.out 4).trans rfl
     have hcz25_5 : w12.cell? ⟨gb378, 5, none⟩ = some (.int .i32 a1_5) := (blk_cell BK378.out 5).trans rfl
     have hfz25_0 := blk_frozen BK378.out 0
     have hfz25_1 := blk_frozen BK378.out 1
     have hfz25_2 := blk_frozen BK378.out 2
     have hfz25_3 := blk_frozen BK378.out 3
     have hfz25_4 := blk_frozen BK378.out 4
     have hfz25_5 := blk_frozen BK378.out 5
     go_wp2
     go_meet
     case rel => exact ⟨_, ((true != true)), (by first | rfl | (simp; done) | (simp [*]; done)), H', ⟨by first | omega | exact Nat.le_refl _⟩, ⟨by rp_; exact BK377.out⟩, ⟨by rp_; exact BK378.out⟩, ⟨by rp_; exact BK379.out⟩, ⟨by repeat (first | (with_reducible first | exact HB.out | apply below_alloc | apply pw_below_drewN | apply below_drew1 | refine below_set ?_ GE377.out | refine below_set ?_ GE378.out | refine below_set ?_ GE379.out) | exact HB.out)⟩⟩
  ·
   replace c13 := Bool.eq_false_iff.mpr c13
   subst c13
   have H1 : (if a0_4 = a1_4 then (redpencillaw09_NodeHolds.j0 k (t381 != (!(a0_0 == a1_0) || (!(a0_1 == a1_1)))) a0_0 a0_1 a0_2 a0_3 a0_4 a0_5 a1_0 a1_1 a1_2 a1_3 a1_4 a1_5 a2_0 a2_1 a2_2 a2_3 a2_4 a2_5) else (redpencillaw09_NodeHolds.j0 k (t381 != true) a0_0 a0_1 a0_2 a0_3 a0_4 a0_5 a1_0 a1_1 a1_2 a1_3 a1_4 a1_5 a2_0 a2_1 a2_2 a2_3 a2_4 a2_5)) = some true := by rw [if_neg (show ¬ (false = true) by decide)] at H; exact H
   clear H
   have H := H1
   clear H1
   by_cases c26 : a0_4 = a1_4
   ·
    rw [if_pos c26] at H
    have c26b0 : (a0_4 == a1_4) = true := beq_iff_eq.mpr c26
    have c26b1 : (a0_4 != a1_4) = false := bne_eq_false_iff_eq.mpr c26
    clear c26
    have H' := Aside0.mk H
    clear H
    have hnb27 := NB377_378.out
    have hnc27 := NB378_377.out
    have hnb28 := NB377_379.out
    have hnc28 := NB379_377.out
    have hcz29_0 : w12.cell? ⟨gb377, 0, none⟩ = some (.int .i64 a0_0) := (blk_cell BK377.out 0).trans rfl
    have hcz29_1 : w12.cell? ⟨gb377, 1, none⟩ = some (.int .i64 a0_1) := (blk_cell BK377.out 1).trans rfl
    have hcz29_2 : w12.cell? ⟨gb377, 2, none⟩ = some (.int .i64 a0_2) := (blk_cell BK377.out 2).trans rfl
    have hcz29_3 : w12.cell? ⟨gb377, 3, none⟩ = some (.int .i64 a0_3) := (blk_cell BK377.out 3).trans rfl
    have hcz29_4 : w12.cell? ⟨gb377, 4, none⟩ = some (.int .i64 a0_4) := (blk_cell BK377.out 4).trans rfl
    have hcz29_5 : w12.cell? ⟨gb377, 5, none⟩ = some (.int .i32 a0_5) := (blk_cell BK377.out 5).trans rfl
    have hfz29_0 := blk_frozen BK377.out 0
    have hfz29_1 := blk_frozen BK377.out 1
    have hfz29_2 := blk_frozen BK377.out 2
    have hfz29_3 := blk_frozen BK377.out 3
    have hfz29_4 := blk_frozen BK377.out 4
    have hfz29_5 := blk_frozen BK377.out 5
    have hnb30 := NB378_379.out
    have hnc30 := NB379_378.out
    have hcz31_0 : w12.cell? ⟨gb378, 0, none⟩ = some (.int .i64 a1_0) := (blk_cell BK378.out 0).trans rfl
    have hcz31_1 : w12.cell? ⟨gb378, 1, none⟩ = some (.int .i64 a1_1) := (blk_cell BK378.out 1).trans rfl
    have hcz31_2 : w12.cell? ⟨gb378, 2, none⟩ = some (.int .i64 a1_2) := (blk_cell BK378.out 2).trans rfl
    have hcz31_3 : w12.cell? ⟨gb378, 3, none⟩ = some (.int .i64 a1_3) := (blk_cell BK378.out 3).trans rfl
    have hcz31_4 : w12.cell? ⟨gb378, 4, none⟩ = some (.int .i64 a1_4) := (blk_cell BK378.out 4).trans rfl
    have hcz31_5 : w12.cell? ⟨gb378, 5, none⟩ = some (.int .i32 a1_5) := (blk_cell BK378.out 5).trans rfl
    have hfz31_0 := blk_frozen BK378.out 0
    have hfz31_1 := blk_frozen BK378.out 1
    have hfz31_2 := blk_frozen BK378.out 2
    have hfz31_3 := blk_frozen BK378.out 3
    have hfz31_4 := blk_frozen BK378.out 4
    have hfz31_5 := blk_frozen BK378.out 5
    go_wp2
    go_meet
    case rel => exact ⟨_, ((t381 != (!(a0_0 == a1_0) || (!(a0_1 == a1_1))))), (by first | rfl | (simp; done) | (simp [*]; done)), H', ⟨by first | omega | exact Nat.le_refl _⟩, ⟨by rp_; exact BK377.out⟩, ⟨by rp_; exact BK378.out⟩, ⟨by rp_; exact BK379.out⟩, ⟨by repeat (first | (with_reducible first | exact HB.out | apply below_alloc | apply pw_below_drewN | apply below_drew1 | refine below_set ?_ GE377.out | refine below_set ?_ GE378.out | refine below_set ?_ GE379.out) | exact HB.out)⟩⟩
   ·
    rw [if_neg c26] at H
    have c26b0 : (a0_4 == a1_4) = false := beq_eq_false_iff_ne.mpr c26
    have c26b1 : (a0_4 != a1_4) = true := bne_iff_ne.mpr c26
    have H' := Aside0.mk H
    clear H
    have hnb32 := NB377_378.out
    have hnc32 := NB378_377.out
    have hnb33 := NB377_379.out
    have hnc33 := NB379_377.out
    have hcz34_0 : w12.cell? ⟨gb377, 0, none⟩ = some (.int .i64 a0_0) := (blk_cell BK377.out 0).trans rfl
    have hcz34_1 : w12.cell? ⟨gb377, 1, none⟩ = some (.int .i64 a0_1) := (blk_cell BK377.out 1).trans rfl
    have hcz34_2 : w12.cell? ⟨gb377, 2, none⟩ = some (.int .i64 a0_2) := (blk_cell BK377.out 2).trans rfl
    have hcz34_3 : w12.cell? ⟨gb377, 3, none⟩ = some (.int .i64 a0_3) := (blk_cell BK377.out 3).trans rfl
    have hcz34_4 : w12.cell? ⟨gb377, 4, none⟩ = some (.int .i64 a0_4) := (blk_cell BK377.out 4).trans rfl
    have hcz34_5 : w12.cell? ⟨gb377, 5, none⟩ = some (.int .i32 a0_5) := (blk_cell BK377.out 5).trans rfl
    have hfz34_0 := blk_frozen BK377.out 0
    have hfz34_1 := blk_frozen BK377.out 1
    have hfz34_2 := blk_frozen BK377.out 2
    have hfz34_3 := blk_frozen BK377.out 3
    have hfz34_4 := blk_frozen BK377.out 4
    have hfz34_5 := blk_frozen BK377.out 5
    have hnb35 := NB378_379.out
    have hnc35 := NB379_378.out
    have hcz36_0 : w12.cell? ⟨gb378, 0, none⟩ = some (.int .i64 a1_0) := (blk_cell BK378.out 0).trans rfl
    have hcz36_1 : w12.cell? ⟨gb378, 1, none⟩ = some (.int .i64 a1_1) := (blk_cell BK378.out 1).trans rfl
    have hcz36_2 : w12.cell? ⟨gb378, 2, none⟩ = some (.int .i64 a1_2) := (blk_cell BK378.out 2).trans rfl
    have hcz36_3 : w12.cell? ⟨gb378, 3, none⟩ = some (.int .i64 a1_3) := (blk_cell BK378.out 3).trans rfl
    have hcz36_4 : w12.cell? ⟨gb378, 4, none⟩ = some (.int .i64 a1_4) := (blk_cell BK378.out 4).trans rfl
    have hcz36_5 : w12.cell? ⟨gb378, 5, none⟩ = some (.int .i32 a1_5) := (blk_cell BK378.out 5).trans rfl
    have hfz36_0 := blk_frozen BK378.out 0
    have hfz36_1 := blk_frozen BK378.out 1
    have hfz36_2 := blk_frozen BK378.out 2
    have hfz36_3 := blk_frozen BK378.out 3
    have hfz36_4 := blk_frozen BK378.out 4
    have hfz36_5 := blk_frozen BK378.out 5
    go_wp2
    go_meet
    case rel => exact ⟨_, ((t381 != true)), (by first | rfl | (simp; done) | (simp [*]; done)), H', ⟨by first | omega | exact Nat.le_refl _⟩, ⟨by rp_; exact BK377.out⟩, ⟨by rp_; exact BK378.out⟩, ⟨by rp_; exact BK379.out⟩, ⟨by repeat (first | (with_reducible first | exact HB.out | apply below_alloc | apply pw_below_drewN | apply below_drew1 | refine below_set ?_ GE377.out | refine below_set ?_ GE378.out | refine below_set ?_ GE379.out) | exact HB.out)⟩⟩
 case rest =>
  clear HC6
  try clear c1
  try clear c2
  try clear p2
  try clear c3
  try clear c4
  try clear c13
  try clear c14
  try clear c15
  try clear c15b0
  try clear c15b1
  try clear c16
  try clear c17
  try clear c19
  try clear c21
  try clear c22
  try clear c24
  try clear c26
  try clear c26b0
  try clear c26b1
  try clear c27
  try clear c28
  try clear c30
  try clear c32
  try clear c33
  try clear c35
  try clear hcz18_0
  try clear hcz18_1
  try clear hcz18_2
  try clear hcz18_3
  try clear hcz18_4
  try clear hcz18_5
  try clear hcz20_0
  try clear hcz20_1
  try clear hcz20_2
  try clear hcz20_3
  try clear hcz20_4
  try clear hcz20_5
  try clear hcz23_0
  try clear hcz23_1
  try clear hcz23_2
  try clear hcz23_3
  try clear hcz23_4
  try clear hcz23_5
  try clear hcz25_0
  try clear hcz25_1
  try clear hcz25_2
  try clear hcz25_3
  try clear hcz25_4
  try clear hcz25_5
  try clear hcz29_0
  try clear hcz29_1
  try clear hcz29_2
  try clear hcz29_3
  try clear hcz29_4
  try clear hcz29_5
  try clear hcz31_0
  try clear hcz31_1
  try clear hcz31_2
  try clear hcz31_3
  try clear hcz31_4
  try clear hcz31_5
  try clear hcz34_0
  try clear hcz34_1
  try clear hcz34_2
  try clear hcz34_3
  try clear hcz34_4
  try clear hcz34_5
  try clear hcz36_0
  try clear hcz36_1
  try clear hcz36_2
  try clear hcz36_3
  try clear hcz36_4
  try clear hcz36_5
  try clear hfz18_0
  try clear hfz18_1
  try clear hfz18_2
  try clear hfz18_3
  try clear hfz18_4
  try clear hfz18_5
  try clear hfz20_0
  try clear hfz20_1
  try clear hfz20_2
  try clear hfz20_3
  try clear hfz20_4
  try clear hfz20_5
  try clear hfz23_0
  try clear hfz23_1
  try clear hfz23_2
  try clear hfz23_3
  try clear hfz23_4
  try clear hfz23_5
  try clear hfz25_0
  try clear hfz25_1
  try clear hfz25_2
  try clear hfz25_3
  try clear hfz25_4
  try clear hfz25_5
  try clear hfz29_0
  try clear hfz29_1
  try clear hfz29_2
  try clear hfz29_3
  try clear hfz29_4
  try clear hfz29_5
  try clear hfz31_0
  try clear hfz31_1
  try clear hfz31_2
  try clear hfz31_3
  try clear hfz31_4
  try clear hfz31_5
  try clear hfz34_0
  try clear hfz34_1
  try clear hfz34_2
  try clear hfz34_3
  try clear hfz34_4
  try clear hfz34_5
  try clear hfz36_0
  try clear hfz36_1
  try clear hfz36_2
  try clear hfz36_3
  try clear hfz36_4
  try clear hfz36_5
  obtain ⟨kq, x45_5, rfl, HA, HJ5, BK377, BK378, BK379, HB⟩ := hcut
  cases kq with
  | zero => exact absurd HA.out (by simp [redpencillaw09_NodeHolds.j0])
  | succ kj5 =>
   have H := HA.out
   clear HA
   simp only [redpencillaw09_NodeHolds.j0] at H
   by_cases c37 : x45_5 = true
   ·
    subst c37
    have H1 : (some false) = some true := by rw [if_pos rfl] at H; exact H
    exact absurd H1 (by simp)
   ·
    replace c37 := Bool.eq_false_iff.mpr c37
    subst c37
    have H1 : ((node_Before.f kj5 a0_0 a0_1 a0_2 a0_3 a0_4 a0_5 a1_0 a1_1 a1_2 a1_3 a1_4 a1_5).bind fun t382 => (if t382 = true then ((node_Before.f kj5 a1_0 a1_1 a1_2 a1_3 a1_4 a1_5 a2_0 a2_1 a2_2 a2_3 a2_4 a2_5).bind fun t383 => (if t383 = true then ((node_Before.f kj5 a0_0 a0_1 a0_2 a0_3 a0_4 a0_5 a2_0 a2_1 a2_2 a2_3 a2_4 a2_5).bind fun t384 => (redpencillaw09_NodeHolds.j1 kj5 (!t384) a0_0 a0_1 a0_2 a0_3 a0_4 a0_5 a1_0 a1_1 a1_2 a1_3 a1_4 a1_5 a2_0 a2_1 a2_2 a2_3 a2_4 a2_5)) else (redpencillaw09_NodeHolds.j1 kj5 false a0_0 a0_1 a0_2 a0_3 a0_4 a0_5 a1_0 a1_1 a1_2 a1_3 a1_4 a1_5 a2_0 a2_1 a2_2 a2_3 a2_4 a2_5))) else (redpencillaw09_NodeHolds.j1 kj5 false a0_0 a0_1 a0_2 a0_3 a0_4 a0_5 a1_0 a1_1 a1_2 a1_3 a1_4 a1_5 a2_0 a2_1 a2_2 a2_3 a2_4 a2_5))) = some true := by rw [if_neg (show ¬ (false = true) by decide)] at H; exact H
    clear H
    have H := H1
    clear H1
    have HC38 := Aside0.mk H
    clear H
    go_upto_region 4 with (fail)
    go_cut [59] (fun v59 wc => ∃ (kq : Nat) (x59_37 : Bool), v59 = .bool x59_37 ∧ Aside0 (redpencillaw09_NodeHolds.j1 kq x59_37 a0_0 a0_1 a0_2 a0_3 a0_4 a0_5 a1_0 a1_1 a1_2 a1_3 a1_4 a1_5 a2_0 a2_1 a2_2 a2_3 a2_4 a2_5 = some true) ∧ Aside0 (kq ≤ kj5) ∧ Aside0 (wc.heap[gb377]? = some (.cells #[.int .i64 a0_0, .int .i64 a0_1, .int .i64 a0_2, .int .i64 a0_3, .int .i64 a0_4, .int .i32 a0_5] 25 (0, 0))) ∧ Aside0 (wc.heap[gb378]? = some (.cells #[.int .i64 a1_0, .int .i64 a1_1, .int .i64 a1_2, .int .i64 a1_3, .int .i64 a1_4, .int .i32 a1_5] 25 (0, 0))) ∧ Aside0 (wc.heap[gb379]? = some (.cells #[.int .i64 a2_0, .int .i64 a2_1, .int .i64 a2_2, .int .i64 a2_3, .int .i64 a2_4, .int .i32 a2_5] 25 (0, 0))) ∧ Aside0 (Below w.heap.size w wc))
    case first =>
     have H := HC38.out
     clear HC38
     replace H := Option.bind_eq_some_iff.mp H
     obtain ⟨t382, A390, H⟩ := H
     replace H : (if t382 = true then ((node_Before.f kj5 a1_0 a1_1 a1_2 a1_3 a1_4 a1_5 a2_0 a2_1 a2_2 a2_3 a2_4 a2_5).bind fun t383 => (if t383 = true then ((node_Before.f kj5 a0_0 a0_1 a0_2 a0_3 a0_4 a0_5 a2_0 a2_1 a2_2 a2_3 a2_4 a2_5).bind fun t384 => (redpencillaw09_NodeHolds.j1 kj5 (!t384) a0_0 a0_1 a0_2 a0_3 a0_4 a0_5 a1_0 a1_1 a1_2 a1_3 a1_4 a1_5 a2_0 a2_1 a2_2 a2_3 a2_4 a2_5)) else (redpencillaw09_NodeHolds.j1 kj5 false a0_0 a0_1 a0_2 a0_3 a0_4 a0_5 a1_0 a1_1 a1_2 a1_3 a1_4 a1_5 a2_0 a2_1 a2_2 a2_3 a2_4 a2_5))) else (redpencillaw09_NodeHolds.j1 kj5 false a0_0 a0_1 a0_2 a0_3 a0_4 a0_5 a1_0 a1_1 a1_2 a1_3 a1_4 a1_5 a2_0 a2_1 a2_2 a2_3 a2_4 a2_5)) = some true := H
     have A39 := Aside0.mk A390
     clear A390
     by_cases c40 : t382 = true
     ·
      subst c40
      have H1 : ((node_Before.f kj5 a1_0 a1_1 a1_2 a1_3 a1_4 a1_5 a2_0 a2_1 a2_2 a2_3 a2_4 a2_5).bind fun t383 => (if t383 = true then ((node_Before.f kj5 a0_0 a0_1 a0_2 a0_3 a0_4 a0_5 a2_0 a2_1 a2_2 a2_3 a2_4 a2_5).bind fun t384 => (redpencillaw09_NodeHolds.j1 kj5 (!t384) a0_0 a0_1 a0_2 a0_3 a0_4 a0_5 a1_0 a1_1 a1_2 a1_3 a1_4 a1_5 a2_0 a2_1 a2_2 a2_3 a2_4 a2_5)) else (redpencillaw09_NodeHolds.j1 kj5 false a0_0 a0_1 a0_2 a0_3 a0_4 a0_5 a1_0 a1_1 a1_2 a1_3 a1_4 a1_5 a2_0 a2_1 a2_2 a2_3 a2_4 a2_5))) = some true := by rw [if_pos rfl] at H; exact H
      clear H
      have H := H1
      clear H1
      replace H := Option.bind_eq_some_iff.mp H
      obtain ⟨t383, A410, H⟩ := H
      replace H : (if t383 = true then ((node_Before.f kj5 a0_0 a0_1 a0_2 a0_3 a0_4 a0_5 a2_0 a2_1 a2_2 a2_3 a2_4 a2_5).bind fun t384 => (redpencillaw09_NodeHolds.j1 kj5 (!t384) a0_0 a0_1 a0_2 a0_3 a0_4 a0_5 a1_0 a1_1 a1_2 a1_3 a1_4 a1_5 a2_0 a2_1 a2_2 a2_3 a2_4 a2_5)) else (redpencillaw09_NodeHolds.j1 kj5 false a0_0 a0_1 a0_2 a0_3 a0_4 a0_5 a1_0 a1_1 a1_2 a1_3 a1_4 a1_5 a2_0 a2_1 a2_2 a2_3 a2_4 a2_5)) = some true := H
      have A41 := Aside0.mk A410
      clear A410
      by_cases c42 : t383 = true
      ·
       subst c42
       have H1 : ((node_Before.f kj5 a0_0 a0_1 a0_2 a0_3 a0_4 a0_5 a2_0 a2_1 a2_2 a2_3 a2_4 a2_5).bind fun t384 => (redpencillaw09_NodeHolds.j1 kj5 (!t384) a0_0 a0_1 a0_2 a0_3 a0_4 a0_5 a1_0 a1_1 a1_2 a1_3 a1_4 a1_5 a2_0 a2_1 a2_2 a2_3 a2_4 a2_5)) = some true := by rw [if_pos rfl] at H; exact H
       clear H
       have H := H1
       clear H1
       replace H := Option.bind_eq_some_iff.mp H
       obtain ⟨t384, A430, H⟩ := H
       replace H : (redpencillaw09_NodeHolds.j1 kj5 (!t384) a0_0 a0_1 a0_2 a0_3 a0_4 a0_5 a1_0 a1_1 a1_2 a1_3 a1_4 a1_5 a2_0 a2_1 a2_2 a2_3 a2_4 a2_5) = some true := H
       have A43 := Aside0.mk A430
       clear A430
       have H' := Aside0.mk H
       clear H
       have hnb44 := NB377_378.out
       have hnc44 := NB378_377.out
       have hnb45 := NB377_379.out
       have hnc45 := NB379_377.out
       have hcz46_0 : wc.cell? ⟨gb377, 0, none⟩ = some (.int .i64 a0_0) := (blk_cell BK377.out 0).trans rfl
       have hcz46_1 : wc.cell? ⟨gb377, 1, none⟩ = some (.int .i64 a0_1) := (blk_cell BK377.out 1).trans rfl
       have hcz46_2 : wc.cell? ⟨gb377, 2, none⟩ = some (.int .i64 a0_2) := (blk_cell BK377.out 2).trans rfl
       have hcz46_3 : wc.cell? ⟨gb377, 3, none⟩ = some (.int .i64 a0_3) := (blk_cell BK377.out 3).trans rfl
       have hcz46_4 : wc.cell? ⟨gb377, 4, none⟩ = some (.int .i64 a0_4) := (blk_cell BK377.out 4).trans rfl
       have hcz46_5 : wc.cell? ⟨gb377, 5, none⟩ = some (.int .i32 a0_5) := (blk_cell BK377.out 5).trans rfl
       have hfz46_0 := blk_frozen BK377.out 0
       have hfz46_1 := blk_frozen BK377.out 1
       have hfz46_2 := blk_frozen BK377.out 2
       have hfz46_3 := blk_frozen BK377.out 3
       have hfz46_4 := blk_frozen BK377.out 4
       have hfz46_5 := blk_frozen BK377.out 5
       have hnb47 := NB378_379.out
       have hnc47 := NB379_378.out
       have hcz48_0 : wc.cell? ⟨gb378, 0, none⟩ = some (.int .i64 a1_0) := (blk_cell BK378.out 0).trans rfl
       have hcz48_1 : wc.cell? ⟨gb378, 1, none⟩ = some (.int .i64 a1_1) := (blk_cell BK378.out 1).trans rfl
       have hcz48_2 : wc.cell? ⟨gb378, 2, none⟩ = some (.int .i64 a1_2) := (blk_cell BK378.out 2).trans rfl
       have hcz48_3 : wc.cell? ⟨gb378, 3, none⟩ = some (.int .i64 a1_3) := (blk_cell BK378.out 3).trans rfl
       have hcz48_4 : wc.cell? ⟨gb378, 4, none⟩ = some (.int .i64 a1_4) := (blk_cell BK378.out 4).trans rfl
       have hcz48_5 : wc.cell? ⟨gb378, 5, none⟩ = some (.int .i32 a1_5) := (blk_cell BK378.out 5).trans rfl
       have hfz48_0 := blk_frozen BK378.out 0
       have hfz48_1 := blk_frozen BK378.out 1
       have hfz48_2 := blk_frozen BK378.out 2
       have hfz48_3 := blk_frozen BK378.out 3
       have hfz48_4 := blk_frozen BK378.out 4
       have hfz48_5 := blk_frozen BK378.out 5
       go_wp2_with (first | ((have gd_ := A39; clear gd_); (with_reducible refine gate_callee (f := 14) rfl ?_); refine goesL_ (some 48) rfl rfl Tryz.func14 (by kernel_rfl) rfl #[.agg #[.int .i64 a0_0, .int .i64 a0_1, .int .i64 a0_2, .int .i64 a0_3, .int .i64 a0_4, .int .i32 a0_5], .agg #[.int .i64 a1_0, .int .i64 a1_1, .int .i64 a1_2, .int .i64 a1_3, .int .i64 a1_4, .int .i32 a1_5]] rfl (by (try simp only [List.map_toArray, List.map_cons, List.map_nil]); first | done | rfl | (simp only [List.length_drop, List.length_take]; rfl)) ?_; (with_reducible refine (node_Before.calls kj5 a0_0 a0_1 a0_2 a0_3 a0_4 a0_5 a1_0 a1_1 a1_2 a1_3 a1_4 a1_5 true _ A39.out).mono ?_); rintro e w49 ⟨rfl, hb⟩; (try clear A39); refine ⟨_, rfl, ?_⟩; have n0_ := Aside0.mk (blk_below (g := gb377) (by rp_; exact BK377.out) hb); have n1_ := Aside0.mk (blk_below (g := gb378) (by rp_; exact BK378.out) hb); have n2_ := Aside0.mk (blk_below (g := gb379) (by rp_; exact BK379.out) hb); have n3_ := Aside0.mk (below_step (by repeat (first | (with_reducible first | exact HB.out | apply below_alloc | apply pw_below_drewN | apply below_drew1 | refine below_set ?_ GE377.out | refine below_set ?_ GE378.out | refine below_set ?_ GE379.out) | exact HB.out)) hb); clear BK377; clear BK378; clear BK379; clear HB; have BK377 := n0_; have BK378 := n1_; have BK379 := n2_; have HB := n3_; clear n0_ n1_ n2_ n3_; (try clear hb); (try clear hb2); (try clear hk); (try clear hi); have hcz50_0 : w49.cell? ⟨gb378, 0, none⟩ = some (.int .i64 a1_0) := (blk_cell BK378.out 0).trans rfl; have hcz50_1 : w49.cell? ⟨gb378, 1, none⟩ = some (.int .i64 a1_1) := (blk_cell BK378.out 1).trans rfl; have hcz50_2 : w49.cell? ⟨gb378, 2, none⟩ = some (.int .i64 a1_2) := (blk_cell BK378.out 2).trans rfl; have hcz50_3 : w49.cell? ⟨gb378, 3, none⟩ = some (.int .i64 a1_3) := (blk_cell BK378.out 3).trans rfl; have hcz50_4 : w49.cell? ⟨gb378, 4, none⟩ = some (.int .i64 a1_4) := (blk_cell BK378.out 4).trans rfl; have hcz50_5 : w49.cell? ⟨gb378, 5, none⟩ = some (.int .i32 a1_5) := (blk_cell BK378.out 5).trans rfl; have hfz50_0 := blk_frozen BK378.out 0; have hfz50_1 := blk_frozen BK378.out 1; have hfz50_2 := blk_frozen BK378.out 2; have hfz50_3 := blk_frozen BK378.out 3; have hfz50_4 := blk_frozen BK378.out 4; have hfz50_5 := blk_frozen BK378.out 5; have hcz51_0 : w49.cell? ⟨gb379, 0, none⟩ = some (.int .i64 a2_0) := (blk_cell BK379.out 0).trans rfl; have hcz51_1 : w49.cell? ⟨gb379, 1, none⟩ = some (.int .i64 a2_1) := (blk_cell BK379.out 1).trans rfl; have hcz51_2 : w49.cell? ⟨gb379, 2, none⟩ = some (.int .i64 a2_2) := (blk_cell BK379.out 2).trans rfl; have hcz51_3 : w49.cell? ⟨gb379, 3, none⟩ = some (.int .i64 a2_3) := (blk_cell BK379.out 3).trans rfl; have hcz51_4 : w49.cell? ⟨gb379, 4, none⟩ = some (.int .i64 a2_4) := (blk_cell BK379.out 4).trans rfl; have hcz51_5 : w49.cell? ⟨gb379, 5, none⟩ = some (.int .i32 a2_5) := (blk_cell BK379.out 5).trans rfl; have hfz51_0 := blk_frozen BK379.out 0; have hfz51_1 := blk_frozen BK379.out 1; have hfz51_2 := blk_frozen BK379.out 2; have hfz51_3 := blk_frozen BK379.out 3; have hfz51_4 := blk_frozen BK379.out 4; have hfz51_5 := blk_frozen BK379.out 5) | ((have gd_ := A41; clear gd_); go_at_call 14; (with_reducible refine (node_Before.calls kj5 a1_0 a1_1 a1_2 a1_3 a1_4 a1_5 a2_0 a2_1 a2_2 a2_3 a2_4 a2_5 true _ A41.out).mono ?_); rintro e w52 ⟨rfl, hb⟩; (try clear A41); have n0_ := Aside0.mk (blk_below (g := gb377) (by rp_; exact BK377.out) hb); have n1_ := Aside0.mk (blk_below (g := gb378) (by rp_; exact BK378.out) hb); have n2_ := Aside0.mk (blk_below (g := gb379) (by rp_; exact BK379.out) hb); have n3_ := Aside0.mk (below_step (by repeat (first | (with_reducible first | exact HB.out | apply below_alloc | apply pw_below_drewN | apply below_drew1 | refine below_set ?_ GE377.out | refine below_set ?_ GE378.out | refine below_set ?_ GE379.out) | exact HB.out)) hb); clear BK377; clear BK378; clear BK379; clear HB; have BK377 := n0_; have BK378 := n1_; have BK379 := n2_; have HB := n3_; clear n0_ n1_ n2_ n3_; (try clear hb); (try clear hb2); (try clear hk); (try clear hi); have hcz53_0 : w52.cell? ⟨gb377, 0, none⟩ = some (.int .i64 a0_0) := (blk_cell BK377.out 0).trans rfl; have hcz53_1 : w52.cell? ⟨gb377, 1, none⟩ = some (.int .i64 a0_1) := (blk_cell BK377.out 1).trans rfl; have hcz53_2 : w52.cell? ⟨gb377, 2, none⟩ = some (.int .i64 a0_2) := (blk_cell BK377.out 2).trans rfl; have hcz53_3 : w52.cell? ⟨gb377, 3, none⟩ = some (.int .i64 a0_3) := (blk_cell BK377.out 3).trans rfl; have hcz53_4 : w52.cell? ⟨gb377, 4, none⟩ = some (.int .i64 a0_4) := (blk_cell BK377.out 4).trans rfl; have hcz53_5 : w52.cell? ⟨gb377, 5, none⟩ = some (.int .i32 a0_5) := (blk_cell BK377.out 5).trans rfl; have hfz53_0 := blk_frozen BK377.out 0; have hfz53_1 := blk_frozen BK377.out 1; have hfz53_2 := blk_frozen BK377.out 2; have hfz53_3 := blk_frozen BK377.out 3; have hfz53_4 := blk_frozen BK377.out 4; have hfz53_5 := blk_frozen BK377.out 5; have hcz54_0 : w52.cell? ⟨gb379, 0, none⟩ = some (.int .i64 a2_0) := (blk_cell BK379.out 0).trans rfl; have hcz54_1 : w52.cell? ⟨gb379, 1, none⟩ = some (.int .i64 a2_1) := (blk_cell BK379.out 1).trans rfl; have hcz54_2 : w52.cell? ⟨gb379, 2, none⟩ = some (.int .i64 a2_2) := (blk_cell BK379.out 2).trans rfl; have hcz54_3 : w52.cell? ⟨gb379, 3, none⟩ = some (.int .i64 a2_3) := (blk_cell BK379.out 3).trans rfl; have hcz54_4 : w52.cell? ⟨gb379, 4, none⟩ = some (.int .i64 a2_4) := (blk_cell BK379.out 4).trans rfl; have hcz54_5 : w52.cell? ⟨gb379, 5, none⟩ = some (.int .i32 a2_5) := (blk_cell BK379.out 5).trans rfl; have hfz54_0 := blk_frozen BK379.out 0; have hfz54_1 := blk_frozen BK379.out 1; have hfz54_2 := blk_frozen BK379.out 2; have hfz54_3 := blk_frozen BK379.out 3; have hfz54_4 := blk_frozen BK379.out 4; have hfz54_5 := blk_frozen BK379.out 5) | ((have gd_ := A43; clear gd_); go_at_call 14; (with_reducible refine (node_Before.calls kj5 a0_0 a0_1 a0_2 a0_3 a0_4 a0_5 a2_0 a2_1 a2_2 a2_3 a2_4 a2_5 t384 _ A43.out).mono ?_); rintro e w55 ⟨rfl, hb⟩; (try clear A43); have n0_ := Aside0.mk (blk_below (g := gb377) (by rp_; exact BK377.out) hb); have n1_ := Aside0.mk (blk_below (g := gb378) (by rp_; exact BK378.out) hb); have n2_ := Aside0.mk (blk_below (g := gb379) (by rp_; exact BK379.out) hb); have n3_ := Aside0.mk (below_step (by repeat (first | (with_reducible first | exact HB.out | apply below_alloc | apply pw_below_drewN | apply below_drew1 | refine below_set ?_ GE377.out | refine below_set ?_ GE378.out | refine below_set ?_ GE379.out) | exact HB.out)) hb); clear BK377; clear BK378; clear BK379; clear HB; have BK377 := n0_; have BK378 := n1_; have BK379 := n2_; have HB := n3_; clear n0_ n1_ n2_ n3_; (try clear hb); (try clear hb2); (try clear hk); (try clear hi)))
       go_meet
       case rel => exact ⟨_, (!t384), (by first | rfl | (simp; done) | (simp [*]; done)), H', ⟨by have := HJ5.out; first | omega | exact Nat.le_refl _⟩, ⟨by rp_; exact BK377.out⟩, ⟨by rp_; exact BK378.out⟩, ⟨by rp_; exact BK379.out⟩, ⟨by repeat (first | (with_reducible first | exact HB.out | apply below_alloc | apply pw_below_drewN | apply below_drew1 | refine below_set ?_ GE377.out | refine below_set ?_ GE378.out | refine below_set ?_ GE379.out) | exact HB.out)⟩⟩
      ·
       replace c42 := Bool.eq_false_iff.mpr c42
       subst c42
       have H1 : (redpencillaw09_NodeHolds.j1 kj5 false a0_0 a0_1 a0_2 a0_3 a0_4 a0_5 a1_0 a1_1 a1_2 a1_3 a1_4 a1_5 a2_0 a2_1 a2_2 a2_3 a2_4 a2_5) = some true := by rw [if_neg (show ¬ (false = true) by decide)] at H; exact H
       clear H
       have H := H1
       clear H1
       have H' := Aside0.mk H
       clear H
       have hnb56 := NB377_378.out
       have hnc56 := NB378_377.out
       have hnb57 := NB377_379.out
       have hnc57 := NB379_377.out
       have hcz58_0 : wc.cell? ⟨gb377, 0, none⟩ = some (.int .i64 a0_0) := (blk_cell BK377.out 0).trans rfl
       have hcz58_1 : wc.cell? ⟨gb377, 1, none⟩ = some (.int .i64 a0_1) := (blk_cell BK377.out 1).trans rfl
       have hcz58_2 : wc.cell? ⟨gb377, 2, none⟩ = some (.int .i64 a0_2) := (blk_cell BK377.out 2).trans rfl
       have hcz58_3 : wc.cell? ⟨gb377, 3, none⟩ = some (.int .i64 a0_3) := (blk_cell BK377.out 3).trans rfl
       have hcz58_4 : wc.cell? ⟨gb377, 4, none⟩ = some (.int .i64 a0_4) := (blk_cell BK377.out 4).trans rfl
       have hcz58_5 : wc.cell? ⟨gb377, 5, none⟩ = some (.int .i32 a0_5) := (blk_cell BK377.out 5).trans rfl
       have hfz58_0 := blk_frozen BK377.out 0
       have hfz58_1 := blk_frozen BK377.out 1
       have hfz58_2 := blk_frozen BK377.out 2
       have hfz58_3 := blk_frozen BK377.out 3
       have hfz58_4 := blk_frozen BK377.out 4
       have hfz58_5 := blk_frozen BK377.out 5
       have hnb59 := NB378_379.out
       have hnc59 := NB379_378.out
       have hcz60_0 : wc.cell? ⟨gb378, 0, none⟩ = some (.int .i64 a1_0) := (blk_cell BK378.out 0).trans rfl
       have hcz60_1 : wc.cell? ⟨gb378, 1, none⟩ = some (.int .i64 a1_1) := (blk_cell BK378.out 1).trans rfl
       have hcz60_2 : wc.cell? ⟨gb378, 2, none⟩ = some (.int .i64 a1_2) := (blk_cell BK378.out 2).trans rfl
       have hcz60_3 : wc.cell? ⟨gb378, 3, none⟩ = some (.int .i64 a1_3) := (blk_cell BK378.out 3).trans rfl
       have hcz60_4 : wc.cell? ⟨gb378, 4, none⟩ = some (.int .i64 a1_4) := (blk_cell BK378.out 4).trans rfl
       have hcz60_5 : wc.cell? ⟨gb378, 5, none⟩ = some (.int .i32 a1_5) := (blk_cell BK378.out 5).trans rfl
       have hfz60_0 := blk_frozen BK378.out 0
       have hfz60_1 := blk_frozen BK378.out 1
       have hfz60_2 := blk_frozen BK378.out 2
       have hfz60_3 := blk_frozen BK378.out 3
       have hfz60_4 := blk_frozen BK378.out 4
       have hfz60_5 := blk_frozen BK378.out 5
       go_wp2_with (first | ((have gd_ := A39; clear gd_); (with_reducible refine gate_callee (f := 14) rfl ?_); refine goesL_ (some 48) rfl rfl Tryz.func14 (by kernel_rfl) rfl #[.agg #[.int .i64 a0_0, .int .i64 a0_1, .int .i64 a0_2, .int .i64 a0_3, .int .i64 a0_4, .int .i32 a0_5], .agg #[.int .i64 a1_0, .int .i64 a1_1, .int .i64 a1_2, .int .i64 a1_3, .int .i64 a1_4, .int .i32 a1_5]] rfl (by (try simp only [List.map_toArray, List.map_cons, List.map_nil]); first | done | rfl | (simp only [List.length_drop, List.length_take]; rfl)) ?_; (with_reducible refine (node_Before.calls kj5 a0_0 a0_1 a0_2 a0_3 a0_4 a0_5 a1_0 a1_1 a1_2 a1_3 a1_4 a1_5 true _ A39.out).mono ?_); rintro e w61 ⟨rfl, hb⟩; (try clear A39); refine ⟨_, rfl, ?_⟩; have n0_ := Aside0.mk (blk_below (g := gb377) (by rp_; exact BK377.out) hb); have n1_ := Aside0.mk (blk_below (g := gb378) (by rp_; exact BK378.out) hb); have n2_ := Aside0.mk (blk_below (g := gb379) (by rp_; exact BK379.out) hb); have n3_ := Aside0.mk (below_step (by repeat (first | (with_reducible first | exact HB.out | apply below_alloc | apply pw_below_drewN | apply below_drew1 | refine below_set ?_ GE377.out | refine below_set ?_ GE378.out | refine below_set ?_ GE379.out) | exact HB.out)) hb); clear BK377; clear BK378; clear BK379; clear HB; have BK377 := n0_; have BK378 := n1_; have BK379 := n2_; have HB := n3_; clear n0_ n1_ n2_ n3_; (try clear hb); (try clear hb2); (try clear hk); (try clear hi); have hcz62_0 : w61.cell? ⟨gb378, 0, none⟩ = some (.int .i64 a1_0) := (blk_cell BK378.out 0).trans rfl; have hcz62_1 : w61.cell? ⟨gb378, 1, none⟩ = some (.int .i64 a1_1) := (blk_cell BK378.out 1).trans rfl; have hcz62_2 : w61.cell? ⟨gb378, 2, none⟩ = some (.int .i64 a1_2) := (blk_cell BK378.out 2).trans rfl; have hcz62_3 : w61.cell? ⟨gb378, 3, none⟩ = some (.int .i64 a1_3) := (blk_cell BK378.out 3).trans rfl; have hcz62_4 : w61.cell? ⟨gb378, 4, none⟩ = some (.int .i64 a1_4) := (blk_cell BK378.out 4).trans rfl; have hcz62_5 : w61.cell? ⟨gb378, 5, none⟩ = some (.int .i32 a1_5) := (blk_cell BK378.out 5).trans rfl; have hfz62_0 := blk_frozen BK378.out 0; have hfz62_1 := blk_frozen BK378.out 1; have hfz62_2 := blk_frozen BK378.out 2; have hfz62_3 := blk_frozen BK378.out 3; have hfz62_4 := blk_frozen BK378.out 4; have hfz62_5 := blk_frozen BK378.out 5; have hcz63_0 : w61.cell? ⟨gb379, 0, none⟩ = some (.int .i64 a2_0) := (blk_cell BK379.out 0).trans rfl; have hcz63_1 : w61.cell? ⟨gb379, 1, none⟩ = some (.int .i64 a2_1) := (blk_cell BK379.out 1).trans rfl; have hcz63_2 : w61.cell? ⟨gb379, 2, none⟩ = some (.int .i64 a2_2) := (blk_cell BK379.out 2).trans rfl; have hcz63_3 : w61.cell? ⟨gb379, 3, none⟩ = some (.int .i64 a2_3) := (blk_cell BK379.out 3).trans rfl; have hcz63_4 : w61.cell? ⟨gb379, 4, none⟩ = some (.int .i64 a2_4) := (blk_cell BK379.out 4).trans rfl; have hcz63_5 : w61.cell? ⟨gb379, 5, none⟩ = some (.int .i32 a2_5) := (blk_cell BK379.out 5).trans rfl; have hfz63_0 := blk_frozen BK379.out 0; have hfz63_1 := blk_frozen BK379.out 1; have hfz63_2 := blk_frozen BK379.out 2; have hfz63_3 := blk_frozen BK379.out 3; have hfz63_4 := blk_frozen BK379.out 4; have hfz63_5 := blk_frozen BK379.out 5) | ((have gd_ := A41; clear gd_); go_at_call 14; (with_reducible refine (node_Before.calls kj5 a1_0 a1_1 a1_2 a1_3 a1_4 a1_5 a2_0 a2_1 a2_2 a2_3 a2_4 a2_5 false _ A41.out).mono ?_); rintro e w64 ⟨rfl, hb⟩; (try clear A41); have n0_ := Aside0.mk (blk_below (g := gb377) (by rp_; exact BK377.out) hb); have n1_ := Aside0.mk (blk_below (g := gb378) (by rp_; exact BK378.out) hb); have n2_ := Aside0.mk (blk_below (g := gb379) (by rp_; exact BK379.out) hb); have n3_ := Aside0.mk (below_step (by repeat (first | (with_reducible first | exact HB.out | apply below_alloc | apply pw_below_drewN | apply below_drew1 | refine below_set ?_ GE377.out | refine below_set ?_ GE378.out | refine below_set ?_ GE379.out) | exact HB.out)) hb); clear BK377; clear BK378; clear BK379; clear HB; have BK377 := n0_; have BK378 := n1_; have BK379 := n2_; have HB := n3_; clear n0_ n1_ n2_ n3_; (try clear hb); (try clear hb2); (try clear hk); (try clear hi)))
       go_meet
       case rel => exact ⟨_, (false), (by first | rfl | (simp; done) | (simp [*]; done)), H', ⟨by have := HJ5.out; first | omega | exact Nat.le_refl _⟩, ⟨by rp_; exact BK377.out⟩, ⟨by rp_; exact BK378.out⟩, ⟨by rp_; exact BK379.out⟩, ⟨by repeat (first | (with_reducible first | exact HB.out | apply below_alloc | apply pw_below_drewN | apply below_drew1 | refine below_set ?_ GE377.out | refine below_set ?_ GE378.out | refine below_set ?_ GE379.out) | exact HB.out)⟩⟩
     ·
      replace c40 := Bool.eq_false_iff.mpr c40
      subst c40
      have H1 : (redpencillaw09_NodeHolds.j1 kj5 false a0_0 a0_1 a0_2 a0_3 a0_4 a0_5 a1_0 a1_1 a1_2 a1_3 a1_4 a1_5 a2_0 a2_1 a2_2 a2_3 a2_4 a2_5) = some true := by rw [if_neg (show ¬ (false = true) by decide)] at H; exact H
      clear H
      have H := H1
      clear H1
      have H' := Aside0.mk H
      clear H
      have hnb65 := NB377_378.out
      have hnc65 := NB378_377.out
      have hnb66 := NB377_379.out
      have hnc66 := NB379_377.out
      have hcz67_0 : wc.cell? ⟨gb377, 0, none⟩ = some (.int .i64 a0_0) := (blk_cell BK377.out 0).trans rfl
      have hcz67_1 : wc.cell? ⟨gb377, 1, none⟩ = some (.int .i64 a0_1) := (blk_cell BK377.out 1).trans rfl
      have hcz67_2 : wc.cell? ⟨gb377, 2, none⟩ = some (.int .i64 a0_2) := (blk_cell BK377.out 2).trans rfl
      have hcz67_3 : wc.cell? ⟨gb377, 3, none⟩ = some (.int .i64 a0_3) := (blk_cell BK377.out 3).trans rfl
      have hcz67_4 : wc.cell? ⟨gb377, 4, none⟩ = some (.int .i64 a0_4) := (blk_cell BK377.out 4).trans rfl
      have hcz67_5 : wc.cell? ⟨gb377, 5, none⟩ = some (.int .i32 a0_5) := (blk_cell BK377.out 5).trans rfl
      have hfz67_0 := blk_frozen BK377.out 0
      have hfz67_1 := blk_frozen BK377.out 1
      have hfz67_2 := blk_frozen BK377.out 2
      have hfz67_3 := blk_frozen BK377.out 3
      have hfz67_4 := blk_frozen BK377.out 4
      have hfz67_5 := blk_frozen BK377.out 5
      have hnb68 := NB378_379.out
      have hnc68 := NB379_378.out
      have hcz69_0 : wc.cell? ⟨gb378, 0, none⟩ = some (.int .i64 a1_0) := (blk_cell BK378.out 0).trans rfl
      have hcz69_1 : wc.cell? ⟨gb378, 1, none⟩ = some (.int .i64 a1_1) := (blk_cell BK378.out 1).trans rfl
      have hcz69_2 : wc.cell? ⟨gb378, 2, none⟩ = some (.int .i64 a1_2) := (blk_cell BK378.out 2).trans rfl
      have hcz69_3 : wc.cell? ⟨gb378, 3, none⟩ = some (.int .i64 a1_3) := (blk_cell BK378.out 3).trans rfl
      have hcz69_4 : wc.cell? ⟨gb378, 4, none⟩ = some (.int .i64 a1_4) := (blk_cell BK378.out 4).trans rfl
      have hcz69_5 : wc.cell? ⟨gb378, 5, none⟩ = some (.int .i32 a1_5) := (blk_cell BK378.out 5).trans rfl
      have hfz69_0 := blk_frozen BK378.out 0
      have hfz69_1 := blk_frozen BK378.out 1
      have hfz69_2 := blk_frozen BK378.out 2
      have hfz69_3 := blk_frozen BK378.out 3
      have hfz69_4 := blk_frozen BK378.out 4
      have hfz69_5 := blk_frozen BK378.out 5
      go_wp2_with (first | ((have gd_ := A39; clear gd_); (with_reducible refine gate_callee (f := 14) rfl ?_); refine goesL_ (some 48) rfl rfl Tryz.func14 (by kernel_rfl) rfl #[.agg #[.int .i64 a0_0, .int .i64 a0_1, .int .i64 a0_2, .int .i64 a0_3, .int .i64 a0_4, .int .i32 a0_5], .agg #[.int .i64 a1_0, .int .i64 a1_1, .int .i64 a1_2, .int .i64 a1_3, .int .i64 a1_4, .int .i32 a1_5]] rfl (by (try simp only [List.map_toArray, List.map_cons, List.map_nil]); first | done | rfl | (simp only [List.length_drop, List.length_take]; rfl)) ?_; (with_reducible refine (node_Before.calls kj5 a0_0 a0_1 a0_2 a0_3 a0_4 a0_5 a1_0 a1_1 a1_2 a1_3 a1_4 a1_5 false _ A39.out).mono ?_); rintro e w70 ⟨rfl, hb⟩; (try clear A39); refine ⟨_, rfl, ?_⟩; have n0_ := Aside0.mk (blk_below (g := gb377) (by rp_; exact BK377.out) hb); have n1_ := Aside0.mk (blk_below (g := gb378) (by rp_; exact BK378.out) hb); have n2_ := Aside0.mk (blk_below (g := gb379) (by rp_; exact BK379.out) hb); have n3_ := Aside0.mk (below_step (by repeat (first | (with_reducible first | exact HB.out | apply below_alloc | apply pw_below_drewN | apply below_drew1 | refine below_set ?_ GE377.out | refine below_set ?_ GE378.out | refine below_set ?_ GE379.out) | exact HB.out)) hb); clear BK377; clear BK378; clear BK379; clear HB; have BK377 := n0_; have BK378 := n1_; have BK379 := n2_; have HB := n3_; clear n0_ n1_ n2_ n3_; (try clear hb); (try clear hb2); (try clear hk); (try clear hi)))
      go_meet
      case rel => exact ⟨_, (false), (by first | rfl | (simp; done) | (simp [*]; done)), H', ⟨by have := HJ5.out; first | omega | exact Nat.le_refl _⟩, ⟨by rp_; exact BK377.out⟩, ⟨by rp_; exact BK378.out⟩, ⟨by rp_; exact BK379.out⟩, ⟨by repeat (first | (with_reducible first | exact HB.out | apply below_alloc | apply pw_below_drewN | apply below_drew1 | refine below_set ?_ GE377.out | refine below_set ?_ GE378.out | refine below_set ?_ GE379.out) | exact HB.out)⟩⟩
    case rest =>
     clear HC38
     try clear c1
     try clear c2
     try clear p2
     try clear c3
     try clear c4
     try clear c5
     try clear c6
     try clear c13
     try clear c14
     try clear c15
     try clear c15b0
     try clear c15b1
     try clear c16
     try clear c17
     try clear c19
     try clear c21
     try clear c22
     try clear c24
     try clear c26
     try clear c26b0
     try clear c26b1
     try clear c27
     try clear c28
     try clear c30
     try clear c32
     try clear c33
     try clear c35
     try clear c37
     try clear c40
     try clear c42
     try clear c44
     try clear c45
     try clear c47
     try clear c56
     try clear c57
     try clear c59
     try clear c65
     try clear c66
     try clear c68
     try clear hcz18_0
     try clear hcz18_1
     try clear hcz18_2
     try clear hcz18_3
     try clear hcz18_4
     try clear hcz18_5
     try clear hcz20_0
     try clear hcz20_1
     try clear hcz20_2
     try clear hcz20_3
     try clear hcz20_4
     try clear hcz20_5
     try clear hcz23_0
     try clear hcz23_1
     try clear hcz23_2
     try clear hcz23_3
     try clear hcz23_4
     try clear hcz23_5
     try clear hcz25_0
     try clear hcz25_1
     try clear hcz25_2
     try clear hcz25_3
     try clear hcz25_4
     try clear hcz25_5
     try clear hcz29_0
     try clear hcz29_1
     try clear hcz29_2
     try clear hcz29_3
     try clear hcz29_4
     try clear hcz29_5
     try clear hcz31_0
     try clear hcz31_1
     try clear hcz31_2
     try clear hcz31_3
     try clear hcz31_4
     try clear hcz31_5
     try clear hcz34_0
     try clear hcz34_1
     try clear hcz34_2
     try clear hcz34_3
     try clear hcz34_4
     try clear hcz34_5
     try clear hcz36_0
     try clear hcz36_1
     try clear hcz36_2
     try clear hcz36_3
     try clear hcz36_4
     try clear hcz36_5
     try clear hcz46_0
     try clear hcz46_1
     try clear hcz46_2
     try clear hcz46_3
     try clear hcz46_4
     try clear hcz46_5
     try clear hcz48_0
     try clear hcz48_1
     try clear hcz48_2
     try clear hcz48_3
     try clear hcz48_4
     try clear hcz48_5
     try clear hcz50_0
     try clear hcz50_1
     try clear hcz50_2
     try clear hcz50_3
     try clear hcz50_4
     try clear hcz50_5
     try clear hcz51_0
     try clear hcz51_1
     try clear hcz51_2
     try clear hcz51_3
     try clear hcz51_4
     try clear hcz51_5
     try clear hcz53_0
     try clear hcz53_1
     try clear hcz53_2
     try clear hcz53_3
     try clear hcz53_4
     try clear hcz53_5
     try clear hcz54_0
     try clear hcz54_1
     try clear hcz54_2
     try clear hcz54_3
     try clear hcz54_4
     try clear hcz54_5
     try clear hcz58_0
     try clear hcz58_1
     try clear hcz58_2
     try clear hcz58_3
     try clear hcz58_4
     try clear hcz58_5
     try clear hcz60_0
     try clear hcz60_1
     try clear hcz60_2
     try clear hcz60_3
     try clear hcz60_4
     try clear hcz60_5
     try clear hcz62_0
     try clear hcz62_1
     try clear hcz62_2
     try clear hcz62_3
     try clear hcz62_4
     try clear hcz62_5
     try clear hcz63_0
     try clear hcz63_1
     try clear hcz63_2
     try clear hcz63_3
     try clear hcz63_4
     try clear hcz63_5
     try clear hcz67_0
     try clear hcz67_1
     try clear hcz67_2
     try clear hcz67_3
     try clear hcz67_4
     try clear hcz67_5
     try clear hcz69_0
     try clear hcz69_1
     try clear hcz69_2
     try clear hcz69_3
     try clear hcz69_4
     try clear hcz69_5
     try clear hfz18_0
     try clear hfz18_1
     try clear hfz18_2
     try clear hfz18_3
     try clear hfz18_4
     try clear hfz18_5
     try clear hfz20_0
     try clear hfz20_1
     try clear hfz20_2
     try clear hfz20_3
     try clear hfz20_4
     try clear hfz20_5
     try clear hfz23_0
     try clear hfz23_1
     try clear hfz23_2
     try clear hfz23_3
     try clear hfz23_4
     try clear hfz23_5
     try clear hfz25_0
     try clear hfz25_1
     try clear hfz25_2
     try clear hfz25_3
     try clear hfz25_4
     try clear hfz25_5
     try clear hfz29_0
     try clear hfz29_1
     try clear hfz29_2
     try clear hfz29_3
     try clear hfz29_4
     try clear hfz29_5
     try clear hfz31_0
     try clear hfz31_1
     try clear hfz31_2
     try clear hfz31_3
     try clear hfz31_4
     try clear hfz31_5
     try clear hfz34_0
     try clear hfz34_1
     try clear hfz34_2
     try clear hfz34_3
     try clear hfz34_4
     try clear hfz34_5
     try clear hfz36_0
     try clear hfz36_1
     try clear hfz36_2
     try clear hfz36_3
     try clear hfz36_4
     try clear hfz36_5
     try clear hfz46_0
     try clear hfz46_1
     try clear hfz46_2
     try clear hfz46_3
     try clear hfz46_4
     try clear hfz46_5
     try clear hfz48_0
     try clear hfz48_1
     try clear hfz48_2
     try clear hfz48_3
     try clear hfz48_4
     try clear hfz48_5
     try clear hfz50_0
     try clear hfz50_1
     try clear hfz50_2
     try clear hfz50_3
     try clear hfz50_4
     try clear hfz50_5
     try clear hfz51_0
     try clear hfz51_1
     try clear hfz51_2
     try clear hfz51_3
     try clear hfz51_4
     try clear hfz51_5
     try clear hfz53_0
     try clear hfz53_1
     try clear hfz53_2
     try clear hfz53_3
     try clear hfz53_4
     try clear hfz53_5
     try clear hfz54_0
     try clear hfz54_1
     try clear hfz54_2
     try clear hfz54_3
     try clear hfz54_4
     try clear hfz54_5
     try clear hfz58_0
     try clear hfz58_1
     try clear hfz58_2
     try clear hfz58_3
     try clear hfz58_4
     try clear hfz58_5
     try clear hfz60_0
     try clear hfz60_1
     try clear hfz60_2
     try clear hfz60_3
     try clear hfz60_4
     try clear hfz60_5
     try clear hfz62_0
     try clear hfz62_1
     try clear hfz62_2
     try clear hfz62_3
     try clear hfz62_4
     try clear hfz62_5
     try clear hfz63_0
     try clear hfz63_1
     try clear hfz63_2
     try clear hfz63_3
     try clear hfz63_4
     try clear hfz63_5
     try clear hfz67_0
     try clear hfz67_1
     try clear hfz67_2
     try clear hfz67_3
     try clear hfz67_4
     try clear hfz67_5
     try clear hfz69_0
     try clear hfz69_1
     try clear hfz69_2
     try clear hfz69_3
     try clear hfz69_4
     try clear hfz69_5
     try clear p2
     obtain ⟨kq, x59_37, rfl, HA, HJ37, BK377, BK378, BK379, HB⟩ := hcut
     cases kq with
     | zero => exact absurd HA.out (by simp [redpencillaw09_NodeHolds.j1])
     | succ kj37 =>
      have H := HA.out
      clear HA
      simp only [redpencillaw09_NodeHolds.j1] at H
      by_cases c71 : x59_37 = true
      ·
       subst c71
       have H1 : (some false) = some true := by rw [if_pos rfl] at H; exact H
       exact absurd H1 (by simp)
      ·
       replace c71 := Bool.eq_false_iff.mpr c71
       subst c71
       have H1 : ((node_Text.f a0_0 a0_1 a0_2 a0_3 a0_4 a0_5).bind fun bt385 => ((node_Valid.f kj37 a0_0 a0_1 a0_2 a0_3 a0_4 a0_5).bind fun t387 => (if ((bt385.2 == 0) != t387) = true then (redpencillaw09_NodeHolds.j2 kj37 true a0_0 a0_1 a0_2 a0_3 a0_4 a0_5 a1_0 a1_1 a1_2 a1_3 a1_4 a1_5 a2_0 a2_1 a2_2 a2_3 a2_4 a2_5) else (if bt385.2 = 0 then ((redpencillaw09_parses.f bt385.1 a0_0 a0_1 a0_2 a0_3 a0_4 a0_5 0).bind fun t388 => (if t388 = true then ((redpencillaw09_merges.f kj37 a0_0 a0_1 a0_2 a0_3 a0_4 a0_5 a0_0 a0_1 a0_2 a0_3 a0_4 a0_5 a0_0 a0_1 a0_2 a0_3 a0_4 a0_5 0).bind fun t389 => (redpencillaw09_NodeHolds.j2 kj37 (!t389) a0_0 a0_1 a0_2 a0_3 a0_4 a0_5 a1_0 a1_1 a1_2 a1_3 a1_4 a1_5 a2_0 a2_1 a2_2 a2_3 a2_4 a2_5)) else (redpencillaw09_NodeHolds.j2 kj37 true a0_0 a0_1 a0_2 a0_3 a0_4 a0_5 a1_0 a1_1 a1_2 a1_3 a1_4 a1_5 a2_0 a2_1 a2_2 a2_3 a2_4 a2_5))) else (redpencillaw09_NodeHolds.j2 kj37 false a0_0 a0_1 a0_2 a0_3 a0_4 a0_5 a1_0 a1_1 a1_2 a1_3 a1_4 a1_5 a2_0 a2_1 a2_2 a2_3 a2_4 a2_5))))) = some true := by rw [if_neg (show ¬ (false = true) by decide)] at H; exact H
       clear H
       have H := H1
       clear H1
       replace H := Option.bind_eq_some_iff.mp H
       obtain ⟨⟨t385, t386⟩, A720, H⟩ := H
       replace H : ((node_Valid.f kj37 a0_0 a0_1 a0_2 a0_3 a0_4 a0_5).bind fun t387 => (if ((t386 == 0) != t387) = true then (redpencillaw09_NodeHolds.j2 kj37 true a0_0 a0_1 a0_2 a0_3 a0_4 a0_5 a1_0 a1_1 a1_2 a1_3 a1_4 a1_5 a2_0 a2_1 a2_2 a2_3 a2_4 a2_5) else (if t386 = 0 then ((redpencillaw09_parses.f t385 a0_0 a0_1 a0_2 a0_3 a0_4 a0_5 0).bind fun t388 => (if t388 = true then ((redpencillaw09_merges.f kj37 a0_0 a0_1 a0_2 a0_3 a0_4 a0_5 a0_0 a0_1 a0_2 a0_3 a0_4 a0_5 a0_0 a0_1 a0_2 a0_3 a0_4 a0_5 0).bind fun t389 => (redpencillaw09_NodeHolds.j2 kj37 (!t389) a0_0 a0_1 a0_2 a0_3 a0_4 a0_5 a1_0 a1_1 a1_2 a1_3 a1_4 a1_5 a2_0 a2_1 a2_2 a2_3 a2_4 a2_5)) else (redpencillaw09_NodeHolds.j2 kj37 true a0_0 a0_1 a0_2 a0_3 a0_4 a0_5 a1_0 a1_1 a1_2 a1_3 a1_4 a1_5 a2_0 a2_1 a2_2 a2_3 a2_4 a2_5))) else (redpencillaw09_NodeHolds.j2 kj37 false a0_0 a0_1 a0_2 a0_3 a0_4 a0_5 a1_0 a1_1 a1_2 a1_3 a1_4 a1_5 a2_0 a2_1 a2_2 a2_3 a2_4 a2_5)))) = some true := H
       have A72 := Aside0.mk A720
       clear A720
       have HC73 := Aside0.mk H
       clear H
       have hnb74 := NB377_378.out
       have hnc74 := NB378_377.out
       have hnb75 := NB377_379.out
       have hnc75 := NB379_377.out
       have hcz76_0 : wc.cell? ⟨gb377, 0, none⟩ = some (.int .i64 a0_0) := (blk_cell BK377.out 0).trans rfl
       have hcz76_1 : wc.cell? ⟨gb377, 1, none⟩ = some (.int .i64 a0_1) := (blk_cell BK377.out 1).trans rfl
       have hcz76_2 : wc.cell? ⟨gb377, 2, none⟩ = some (.int .i64 a0_2) := (blk_cell BK377.out 2).trans rfl
       have hcz76_3 : wc.cell? ⟨gb377, 3, none⟩ = some (.int .i64 a0_3) := (blk_cell BK377.out 3).trans rfl
       have hcz76_4 : wc.cell? ⟨gb377, 4, none⟩ = some (.int .i64 a0_4) := (blk_cell BK377.out 4).trans rfl
       have hcz76_5 : wc.cell? ⟨gb377, 5, none⟩ = some (.int .i32 a0_5) := (blk_cell BK377.out 5).trans rfl
       have hfz76_0 := blk_frozen BK377.out 0
       have hfz76_1 := blk_frozen BK377.out 1
       have hfz76_2 := blk_frozen BK377.out 2
       have hfz76_3 := blk_frozen BK377.out 3
       have hfz76_4 := blk_frozen BK377.out 4
       have hfz76_5 := blk_frozen BK377.out 5
       go_upto_region 7 with (first | ((have gd_ := A72; clear gd_); (with_reducible refine gate_callee (f := 15) rfl ?_); refine goesL_ (some 62) rfl rfl Tryz.func15 (by kernel_rfl) rfl #[.agg #[.int .i64 a0_0, .int .i64 a0_1, .int .i64 a0_2, .int .i64 a0_3, .int .i64 a0_4, .int .i32 a0_5]] rfl (by (try simp only [List.map_toArray, List.map_cons, List.map_nil]); first | done | rfl | (simp only [List.length_drop, List.length_take]; rfl)) ?_; (with_reducible refine (node_Text.calls a0_0 a0_1 a0_2 a0_3 a0_4 a0_5 t385 t386 _ ?side1 A72.out).mono ?_); (case side1 => exact GOK_below HG.out (by repeat (first | (with_reducible first | exact HB.out | apply below_alloc | apply pw_below_drewN | apply below_drew1 | refine below_set ?_ GE377.out | refine below_set ?_ GE378.out | refine below_set ?_ GE379.out) | exact HB.out))); rintro e w77 ⟨rfl, hb⟩; (try clear A72); refine ⟨_, rfl, ?_⟩; have n0_ := Aside0.mk (blk_below (g := gb377) (by rp_; exact BK377.out) hb); have n1_ := Aside0.mk (blk_below (g := gb378) (by rp_; exact BK378.out) hb); have n2_ := Aside0.mk (blk_below (g := gb379) (by rp_; exact BK379.out) hb); have n3_ := Aside0.mk (below_step (by repeat (first | (with_reducible first | exact HB.out | apply below_alloc | apply pw_below_drewN | apply below_drew1 | refine below_set ?_ GE377.out | refine below_set ?_ GE378.out | refine below_set ?_ GE379.out) | exact HB.out)) hb); clear BK377; clear BK378; clear BK379; clear HB; have BK377 := n0_; have BK378 := n1_; have BK379 := n2_; have HB := n3_; clear n0_ n1_ n2_ n3_; (try clear hb); (try clear hb2); (try clear hk); (try clear hi)))
       (try simp only [Act.put, List.setIfInBounds_toArray, List.set_cons_zero, List.set_cons_succ])
       go_cut [86] (fun v86 wc => ∃ (kq : Nat) (x86_72 : Bool), v86 = .bool x86_72 ∧ Aside0 (redpencillaw09_NodeHolds.j2 kq x86_72 a0_0 a0_1 a0_2 a0_3 a0_4 a0_5 a1_0 a1_1 a1_2 a1_3 a1_4 a1_5 a2_0 a2_1 a2_2 a2_3 a2_4 a2_5 = some true) ∧ Aside0 (kq ≤ kj37) ∧ Aside0 (wc.heap[gb377]? = some (.cells #[.int .i64 a0_0, .int .i64 a0_1, .int .i64 a0_2, .int .i64 a0_3, .int .i64 a0_4, .int .i32 a0_5] 25 (0, 0))) ∧ Aside0 (wc.heap[gb378]? = some (.cells #[.int .i64 a1_0, .int .i64 a1_1, .int .i64 a1_2, .int .i64 a1_3, .int .i64 a1_4, .int .i32 a1_5] 25 (0, 0))) ∧ Aside0 (wc.heap[gb379]? = some (.cells #[.int .i64 a2_0, .int .i64 a2_1, .int .i64 a2_2, .int .i64 a2_3, .int .i64 a2_4, .int .i32 a2_5] 25 (0, 0))) ∧ Aside0 (Below w.heap.size w wc))
       case first =>
        have H := HC73.out
        clear HC73
        replace H := Option.bind_eq_some_iff.mp H
        obtain ⟨t387, A780, H⟩ := H
        replace H : (if ((t386 == 0) != t387) = true then (redpencillaw09_NodeHolds.j2 kj37 true a0_0 a0_1 a0_2 a0_3 a0_4 a0_5 a1_0 a1_1 a1_2 a1_3 a1_4 a1_5 a2_0 a2_1 a2_2 a2_3 a2_4 a2_5) else (if t386 = 0 then ((redpencillaw09_parses.f t385 a0_0 a0_1 a0_2 a0_3 a0_4 a0_5 0).bind fun t388 => (if t388 = true then ((redpencillaw09_merges.f kj37 a0_0 a0_1 a0_2 a0_3 a0_4 a0_5 a0_0 a0_1 a0_2 a0_3 a0_4 a0_5 a0_0 a0_1 a0_2 a0_3 a0_4 a0_5 0).bind fun t389 => (redpencillaw09_NodeHolds.j2 kj37 (!t389) a0_0 a0_1 a0_2 a0_3 a0_4 a0_5 a1_0 a1_1 a1_2 a1_3 a1_4 a1_5 a2_0 a2_1 a2_2 a2_3 a2_4 a2_5)) else (redpencillaw09_NodeHolds.j2 kj37 true a0_0 a0_1 a0_2 a0_3 a0_4 a0_5 a1_0 a1_1 a1_2 a1_3 a1_4 a1_5 a2_0 a2_1 a2_2 a2_3 a2_4 a2_5))) else (redpencillaw09_NodeHolds.j2 kj37 false a0_0 a0_1 a0_2 a0_3 a0_4 a0_5 a1_0 a1_1 a1_2 a1_3 a1_4 a1_5 a2_0 a2_1 a2_2 a2_3 a2_4 a2_5))) = some true := H
        have A78 := Aside0.mk A780
        clear A780
        by_cases c79 : ((t386 == 0) != t387) = true
        ·
         rw [if_pos c79] at H
         exact absurd H (redpencillaw09_NodeHolds.j2_no _ _ _ _ _ _ _ _ _ _ _ _ _ _ _ _ _ _ _)
        ·
         rw [if_neg c79] at H
         have c79b0 : ((t386 == 0) != t387) = false := by simpa using c79
         (try (have c79b1 : decide ((t386 == 0) = t387) = true := by simpa using c79))
         (try (have c79b2 : ((t386 == 0) == t387) = true := by simpa using c79))
         clear c79
         (first | rw [c79b0] | (simp only [i64_w, i32_w]; rw [c79b0]) | skip)
         by_cases c84 : t386 = 0
         ·
          rw [if_pos c84] at H
          have c84b0 : (t386 == 0) = true := beq_iff_eq.mpr c84
          have ct_ : t387 = true := by have q_ := c79b0; rw [c84b0] at q_; simpa using q_
          have c84b1 : (t386 != 0) = false := bne_eq_false_iff_eq.mpr c84
          clear c84
          replace H := Option.bind_eq_some_iff.mp H
          obtain ⟨t388, A850, H⟩ := H
          replace H : (if t388 = true then ((redpencillaw09_merges.f kj37 a0_0 a0_1 a0_2 a0_3 a0_4 a0_5 a0_0 a0_1 a0_2 a0_3 a0_4 a0_5 a0_0 a0_1 a0_2 a0_3 a0_4 a0_5 0).bind fun t389 => (redpencillaw09_NodeHolds.j2 kj37 (!t389) a0_0 a0_1 a0_2 a0_3 a0_4 a0_5 a1_0 a1_1 a1_2 a1_3 a1_4 a1_5 a2_0 a2_1 a2_2 a2_3 a2_4 a2_5)) else (redpencillaw09_NodeHolds.j2 kj37 true a0_0 a0_1 a0_2 a0_3 a0_4 a0_5 a1_0 a1_1 a1_2 a1_3 a1_4 a1_5 a2_0 a2_1 a2_2 a2_3 a2_4 a2_5)) = some true := H
          have A85 := Aside0.mk A850
          clear A850
          by_cases c86 : t388 = true
          ·
           subst c86
           have H1 : ((redpencillaw09_merges.f kj37 a0_0 a0_1 a0_2 a0_3 a0_4 a0_5 a0_0 a0_1 a0_2 a0_3 a0_4 a0_5 a0_0 a0_1 a0_2 a0_3 a0_4 a0_5 0).bind fun t389 => (redpencillaw09_NodeHolds.j2 kj37 (!t389) a0_0 a0_1 a0_2 a0_3 a0_4 a0_5 a1_0 a1_1 a1_2 a1_3 a1_4 a1_5 a2_0 a2_1 a2_2 a2_3 a2_4 a2_5)) = some true := by rw [if_pos rfl] at H; exact H
           clear H
           have H := H1
           clear H1
           replace H := Option.bind_eq_some_iff.mp H
           obtain ⟨t389, A870, H⟩ := H
           replace H : (redpencillaw09_NodeHolds.j2 kj37 (!t389) a0_0 a0_1 a0_2 a0_3 a0_4 a0_5 a1_0 a1_1 a1_2 a1_3 a1_4 a1_5 a2_0 a2_1 a2_2 a2_3 a2_4 a2_5) = some true := H
           have A87 := Aside0.mk A870
           clear A870
           have H' := Aside0.mk H
           clear H
           have hnb88 := NB377_378.out
           have hnc88 := NB378_377.out
           have hnb89 := NB377_379.out
           have hnc89 := NB379_377.out
           have hcz90_0 : w77.cell? ⟨gb377, 0, none⟩ = some (.int .i64 a0_0) := (blk_cell BK377.out 0).trans rfl
           have hcz90_1 : w77.cell? ⟨gb377, 1, none⟩ = some (.int .i64 a0_1) := (blk_cell BK377.out 1).trans rfl
           have hcz90_2 : w77.cell? ⟨gb377, 2, none⟩ = some (.int .i64 a0_2) := (blk_cell BK377.out 2).trans rfl
           have hcz90_3 : w77.cell? ⟨gb377, 3, none⟩ = some (.int .i64 a0_3) := (blk_cell BK377.out 3).trans rfl
           have hcz90_4 : w77.cell? ⟨gb377, 4, none⟩ = some (.int .i64 a0_4) := (blk_cell BK377.out 4).trans rfl
           have hcz90_5 : w77.cell? ⟨gb377, 5, none⟩ = some (.int .i32 a0_5) := (blk_cell BK377.out 5).trans rfl
           have hfz90_0 := blk_frozen BK377.out 0
           have hfz90_1 := blk_frozen BK377.out 1
           have hfz90_2 := blk_frozen BK377.out 2
           have hfz90_3 := blk_frozen BK377.out 3
           have hfz90_4 := blk_frozen BK377.out 4
           have hfz90_5 := blk_frozen BK377.out 5
           go_wp2_with (first | ((have gd_ := A78; clear gd_); (with_reducible refine gate_callee (f := 16) rfl ?_); refine goesL_ (some 68) rfl rfl Tryz.func16 (by kernel_rfl) rfl #[.agg #[.int .i64 a0_0, .int .i64 a0_1, .int .i64 a0_2, .int .i64 a0_3, .int .i64 a0_4, .int .i32 a0_5]] rfl (by (try simp only [List.map_toArray, List.map_cons, List.map_nil]); first | done | rfl | (simp only [List.length_drop, List.length_take]; rfl)) ?_; (with_reducible refine (node_Valid.calls kj37 a0_0 a0_1 a0_2 a0_3 a0_4 a0_5 t387 _ A78.out).mono ?_); rintro e w91 ⟨rfl, hb⟩; (try clear A78); refine ⟨_, rfl, ?_⟩; have n0_ := Aside0.mk (blk_below (g := gb377) (by rp_; exact BK377.out) hb); have n1_ := Aside0.mk (blk_below (g := gb378) (by rp_; exact BK378.out) hb); have n2_ := Aside0.mk (blk_below (g := gb379) (by rp_; exact BK379.out) hb); have n3_ := Aside0.mk (below_step (by repeat (first | (with_reducible first | exact HB.out | apply below_alloc | apply pw_below_drewN | apply below_drew1 | refine below_set ?_ GE377.out | refine below_set ?_ GE378.out | refine below_set ?_ GE379.out) | exact HB.out)) hb); clear BK377; clear BK378; clear BK379; clear HB; have BK377 := n0_; have BK378 := n1_; have BK379 := n2_; have HB := n3_; clear n0_ n1_ n2_ n3_; (try clear hb); (try clear hb2); (try clear hk); (try clear hi); have hcz92_0 : w91.cell? ⟨gb377, 0, none⟩ = some (.int .i64 a0_0) := (blk_cell BK377.out 0).trans rfl; have hcz92_1 : w91.cell? ⟨gb377, 1, none⟩ = some (.int .i64 a0_1) := (blk_cell BK377.out 1).trans rfl; have hcz92_2 : w91.cell? ⟨gb377, 2, none⟩ = some (.int .i64 a0_2) := (blk_cell BK377.out 2).trans rfl; have hcz92_3 : w91.cell? ⟨gb377, 3, none⟩ = some (.int .i64 a0_3) := (blk_cell BK377.out 3).trans rfl; have hcz92_4 : w91.cell? ⟨gb377, 4, none⟩ = some (.int .i64 a0_4) := (blk_cell BK377.out 4).trans rfl; have hcz92_5 : w91.cell? ⟨gb377, 5, none⟩ = some (.int .i32 a0_5) := (blk_cell BK377.out 5).trans rfl; have hfz92_0 := blk_frozen BK377.out 0; have hfz92_1 := blk_frozen BK377.out 1; have hfz92_2 := blk_frozen BK377.out 2; have hfz92_3 := blk_frozen BK377.out 3; have hfz92_4 := blk_frozen BK377.out 4; have hfz92_5 := blk_frozen BK377.out 5) | ((have gd_ := A85; clear gd_); go_at_call 13; (with_reducible refine (redpencillaw09_parses.calls t385 a0_0 a0_1 a0_2 a0_3 a0_4 a0_5 0 true _ ?side1 A85.out).mono ?_); (case side1 => exact GOK_below HG.out (by repeat (first | (with_reducible first | exact HB.out | apply below_alloc | apply pw_below_drewN | apply below_drew1 | refine below_set ?_ GE377.out | refine below_set ?_ GE378.out | refine below_set ?_ GE379.out) | exact HB.out))); rintro e w93 ⟨rfl, hb⟩; (try clear A85); have n0_ := Aside0.mk (blk_below (g := gb377) (by rp_; exact BK377.out) hb); have n1_ := Aside0.mk (blk_below (g := gb378) (by rp_; exact BK378.out) hb); have n2_ := Aside0.mk (blk_below (g := gb379) (by rp_; exact BK379.out) hb); have n3_ := Aside0.mk (below_step (by repeat (first | (with_reducible first | exact HB.out | apply below_alloc | apply pw_below_drewN | apply below_drew1 | refine below_set ?_ GE377.out | refine below_set ?_ GE378.out | refine below_set ?_ GE379.out) | exact HB.out)) hb); clear BK377; clear BK378; clear BK379; clear HB; have BK377 := n0_; have BK378 := n1_; have BK379 := n2_; have HB := n3_; clear n0_ n1_ n2_ n3_; (try clear hb); (try clear hb2); (try clear hk); (try clear hi); have hcz94_0 : w93.cell? ⟨gb377, 0, none⟩ = some (.int .i64 a0_0) := (blk_cell BK377.out 0).trans rfl; have hcz94_1 : w93.cell? ⟨gb377, 1, none⟩ = some (.int .i64 a0_1) := (blk_cell BK377.out 1).trans rfl; have hcz94_2 : w93.cell? ⟨gb377, 2, none⟩ = some (.int .i64 a0_2) := (blk_cell BK377.out 2).trans rfl; have hcz94_3 : w93.cell? ⟨gb377, 3, none⟩ = some (.int .i64 a0_3) := (blk_cell BK377.out 3).trans rfl; have hcz94_4 : w93.cell? ⟨gb377, 4, none⟩ = some (.int .i64 a0_4) := (blk_cell BK377.out 4).trans rfl; have hcz94_5 : w93.cell? ⟨gb377, 5, none⟩ = some (.int .i32 a0_5) := (blk_cell BK377.out 5).trans rfl; have hfz94_0 := blk_frozen BK377.out 0; have hfz94_1 := blk_frozen BK377.out 1; have hfz94_2 := blk_frozen BK377.out 2; have hfz94_3 := blk_frozen BK377.out 3; have hfz94_4 := blk_frozen BK377.out 4; have hfz94_5 := blk_frozen BK377.out 5) | ((have gd_ := A87; clear gd_); go_at_call 17; (with_reducible refine (redpencillaw09_merges.calls kj37 a0_0 a0_1 a0_2 a0_3 a0_4 a0_5 a0_0 a0_1 a0_2 a0_3 a0_4 a0_5 a0_0 a0_1 a0_2 a0_3 a0_4 a0_5 0 t389 _ A87.out).mono ?_); rintro e w95 ⟨rfl, hb⟩; (try clear A87); have n0_ := Aside0.mk (blk_below (g := gb377) (by rp_; exact BK377.out) hb); have n1_ := Aside0.mk (blk_below (g := gb378) (by rp_; exact BK378.out) hb); have n2_ := Aside0.mk (blk_below (g := gb379) (by rp_; exact BK379.out) hb); have n3_ := Aside0.mk (below_step (by repeat (first | (with_reducible first | exact HB.out | apply below_alloc | apply pw_below_drewN | apply below_drew1 | refine below_set ?_ GE377.out | refine below_set ?_ GE378.out | refine below_set ?_ GE379.out) | exact HB.out)) hb); clear BK377; clear BK378; clear BK379; clear HB; have BK377 := n0_; have BK378 := n1_; have BK379 := n2_; have HB := n3_; clear n0_ n1_ n2_ n3_; (try clear hb); (try clear hb2); (try clear hk); (try clear hi)))
           go_meet
           case rel => exact ⟨_, (!t389), (by first | rfl | (simp; done) | (simp [*]; done)), H', ⟨by have := HJ5.out; have := HJ37.out; first | omega | exact Nat.le_refl _⟩, ⟨by rp_; exact BK377.out⟩, ⟨by rp_; exact BK378.out⟩, ⟨by rp_; exact BK379.out⟩, ⟨by repeat (first | (with_reducible first | exact HB.out | apply below_alloc | apply pw_below_drewN | apply below_drew1 | refine below_set ?_ GE377.out | refine below_set ?_ GE378.out | refine below_set ?_ GE379.out) | exact HB.out)⟩⟩
          ·
           replace c86 := Bool.eq_false_iff.mpr c86
           subst c86
           have H1 : (redpencillaw09_NodeHolds.j2 kj37 true a0_0 a0_1 a0_2 a0_3 a0_4 a0_5 a1_0 a1_1 a1_2 a1_3 a1_4 a1_5 a2_0 a2_1 a2_2 a2_3 a2_4 a2_5) = some true := by rw [if_neg (show ¬ (false = true) by decide)] at H; exact H
           exact absurd H1 (redpencillaw09_NodeHolds.j2_no _ _ _ _ _ _ _ _ _ _ _ _ _ _ _ _ _ _ _)
         ·
          rw [if_neg c84] at H
          have c84b0 : (t386 == 0) = false := beq_eq_false_iff_ne.mpr c84
          have ct_ : t387 = false := by have q_ := c79b0; rw [c84b0] at q_; simpa using q_
          have c84b1 : (t386 != 0) = true := bne_iff_ne.mpr c84
          have H' := Aside0.mk H
          clear H
          have hnb102 := NB377_378.out
          have hnc102 := NB378_377.out
          have hnb103 := NB377_379.out
          have hnc103 := NB379_377.out
          have hcz104_0 : w77.cell? ⟨gb377, 0, none⟩ = some (.int .i64 a0_0) := (blk_cell BK377.out 0).trans rfl
          have hcz104_1 : w77.cell? ⟨gb377, 1, none⟩ = some (.int .i64 a0_1) := (blk_cell BK377.out 1).trans rfl
          have hcz104_2 : w77.cell? ⟨gb377, 2, none⟩ = some (.int .i64 a0_2) := (blk_cell BK377.out 2).trans rfl
          have hcz104_3 : w77.cell? ⟨gb377, 3, none⟩ = some (.int .i64 a0_3) := (blk_cell BK377.out 3).trans rfl
          have hcz104_4 : w77.cell? ⟨gb377, 4, none⟩ = some (.int .i64 a0_4) := (blk_cell BK377.out 4).trans rfl
          have hcz104_5 : w77.cell? ⟨gb377, 5, none⟩ = some (.int .i32 a0_5) := (blk_cell BK377.out 5).trans rfl
          have hfz104_0 := blk_frozen BK377.out 0
          have hfz104_1 := blk_frozen BK377.out 1
          have hfz104_2 := blk_frozen BK377.out 2
          have hfz104_3 := blk_frozen BK377.out 3
          have hfz104_4 := blk_frozen BK377.out 4
          have hfz104_5 := blk_frozen BK377.out 5
          go_wp2_with (first | ((have gd_ := A78; clear gd_); (with_reducible refine gate_callee (f := 16) rfl ?_); refine goesL_ (some 68) rfl rfl Tryz.func16 (by kernel_rfl) rfl #[.agg #[.int .i64 a0_0, .int .i64 a0_1, .int .i64 a0_2, .int .i64 a0_3, .int .i64 a0_4, .int .i32 a0_5]] rfl (by (try simp only [List.map_toArray, List.map_cons, List.map_nil]); first | done | rfl | (simp only [List.length_drop, List.length_take]; rfl)) ?_; (with_reducible refine (node_Valid.calls kj37 a0_0 a0_1 a0_2 a0_3 a0_4 a0_5 t387 _ A78.out).mono ?_); rintro e w105 ⟨rfl, hb⟩; (try clear A78); refine ⟨_, rfl, ?_⟩; have n0_ := Aside0.mk (blk_below (g := gb377) (by rp_; exact BK377.out) hb); have n1_ := Aside0.mk (blk_below (g := gb378) (by rp_; exact BK378.out) hb); have n2_ := Aside0.mk (blk_below (g := gb379) (by rp_; exact BK379.out) hb); have n3_ := Aside0.mk (below_step (by repeat (first | (with_reducible first | exact HB.out | apply below_alloc | apply pw_below_drewN | apply below_drew1 | refine below_set ?_ GE377.out | refine below_set ?_ GE378.out | refine below_set ?_ GE379.out) | exact HB.out)) hb); clear BK377; clear BK378; clear BK379; clear HB; have BK377 := n0_; have BK378 := n1_; have BK379 := n2_; have HB := n3_; clear n0_ n1_ n2_ n3_; (try clear hb); (try clear hb2); (try clear hk); (try clear hi)))
          go_meet
          case rel => exact ⟨_, (false), (by first | rfl | (simp; done) | (simp [*]; done)), H', ⟨by have := HJ5.out; have := HJ37.out; first | omega | exact Nat.le_refl _⟩, ⟨by rp_; exact BK377.out⟩, ⟨by rp_; exact BK378.out⟩, ⟨by rp_; exact BK379.out⟩, ⟨by repeat (first | (with_reducible first | exact HB.out | apply below_alloc | apply pw_below_drewN | apply below_drew1 | refine below_set ?_ GE377.out | refine below_set ?_ GE378.out | refine below_set ?_ GE379.out) | exact HB.out)⟩⟩
       case rest =>
        clear HC73
        try clear c1
        try clear c2
        try clear p2
        try clear c3
        try clear c4
        try clear c5
        try clear c6
        try clear c7
        try clear c8
        try clear c9
        try clear c10
        try clear c13
        try clear c14
        try clear c15
        try clear c15b0
        try clear c15b1
        try clear c16
        try clear c17
        try clear c19
        try clear c21
        try clear c22
        try clear c24
        try clear c26
        try clear c26b0
        try clear c26b1
        try clear c27
        try clear c28
        try clear c30
        try clear c32
        try clear c33
        try clear c35
        try clear c37
        try clear c40
        try clear c42
        try clear c44
        try clear c45
        try clear c47
        try clear c56
        try clear c57
        try clear c59
        try clear c65
        try clear c66
        try clear c68
        try clear c71
        try clear c74
        try clear c75
        try clear c79
        try clear c79b0
        try clear c79b1
        try clear c79b2
        try clear c80
        try clear c81
        try clear c84
        try clear c84b0
        try clear c84b1
        try clear c86
        try clear c88
        try clear c89
        try clear c96
        try clear c97
        try clear c102
        try clear c103
        try clear hcz100_0
        try clear hcz100_1
        try clear hcz100_2
        try clear hcz100_3
        try clear hcz100_4
        try clear hcz100_5
        try clear hcz104_0
        try clear hcz104_1
        try clear hcz104_2
        try clear hcz104_3
        try clear hcz104_4
        try clear hcz104_5
        try clear hcz18_0
        try clear hcz18_1
        try clear hcz18_2
        try clear hcz18_3
        try clear hcz18_4
        try clear hcz18_5
        try clear hcz20_0
        try clear hcz20_1
        try clear hcz20_2
        try clear hcz20_3
        try clear hcz20_4
        try clear hcz20_5
        try clear hcz23_0
        try clear hcz23_1
        try clear hcz23_2
        try clear hcz23_3
        try clear hcz23_4
        try clear hcz23_5
        try clear hcz25_0
        try clear hcz25_1
        try clear hcz25_2
        try clear hcz25_3
        try clear hcz25_4
        try clear hcz25_5
        try clear hcz29_0
        try clear hcz29_1
        try clear hcz29_2
        try clear hcz29_3
        try clear hcz29_4
        try clear hcz29_5
        try clear hcz31_0
        try clear hcz31_1
        try clear hcz31_2
        try clear hcz31_3
        try clear hcz31_4
        try clear hcz31_5
        try clear hcz34_0
        try clear hcz34_1
        try clear hcz34_2
        try clear hcz34_3
        try clear hcz34_4
        try clear hcz34_5
        try clear hcz36_0
        try clear hcz36_1
        try clear hcz36_2
        try clear hcz36_3
        try clear hcz36_4
        try clear hcz36_5
        try clear hcz46_0
        try clear hcz46_1
        try clear hcz46_2
        try clear hcz46_3
        try clear hcz46_4
        try clear hcz46_5
        try clear hcz48_0
        try clear hcz48_1
        try clear hcz48_2
        try clear hcz48_3
        try clear hcz48_4
        try clear hcz48_5
        try clear hcz50_0
        try clear hcz50_1
        try clear hcz50_2
        try clear hcz50_3
        try clear hcz50_4
        try clear hcz50_5
        try clear hcz51_0
        try clear hcz51_1
        try clear hcz51_2
        try clear hcz51_3
        try clear hcz51_4
        try clear hcz51_5
        try clear hcz53_0
        try clear hcz53_1
        try clear hcz53_2
        try clear hcz53_3
        try clear hcz53_4
        try clear hcz53_5
        try clear hcz54_0
        try clear hcz54_1
        try clear hcz54_2
        try clear hcz54_3
        try clear hcz54_4
        try clear hcz54_5
        try clear hcz58_0
        try clear hcz58_1
        try clear hcz58_2
        try clear hcz58_3
        try clear hcz58_4
        try clear hcz58_5
        try clear hcz60_0
        try clear hcz60_1
        try clear hcz60_2
        try clear hcz60_3
        try clear hcz60_4
        try clear hcz60_5
        try clear hcz62_0
        try clear hcz62_1
        try clear hcz62_2
        try clear hcz62_3
        try clear hcz62_4
        try clear hcz62_5
        try clear hcz63_0
        try clear hcz63_1
        try clear hcz63_2
        try clear hcz63_3
        try clear hcz63_4
        try clear hcz63_5
        try clear hcz67_0
        try clear hcz67_1
        try clear hcz67_2
        try clear hcz67_3
        try clear hcz67_4
        try clear hcz67_5
        try clear hcz69_0
        try clear hcz69_1
        try clear hcz69_2
        try clear hcz69_3
        try clear hcz69_4
        try clear hcz69_5
        try clear hcz76_0
        try clear hcz76_1
        try clear hcz76_2
        try clear hcz76_3
        try clear hcz76_4
        try clear hcz76_5
        try clear hcz82_0
        try clear hcz82_1
        try clear hcz82_2
        try clear hcz82_3
        try clear hcz82_4
        try clear hcz82_5
        try clear hcz90_0
        try clear hcz90_1
        try clear hcz90_2
        try clear hcz90_3
        try clear hcz90_4
        try clear hcz90_5
        try clear hcz92_0
        try clear hcz92_1
        try clear hcz92_2
        try clear hcz92_3
        try clear hcz92_4
        try clear hcz92_5
        try clear hcz94_0
        try clear hcz94_1
        try clear hcz94_2
        try clear hcz94_3
        try clear hcz94_4
        try clear hcz94_5
        try clear hcz98_0
        try clear hcz98_1
        try clear hcz98_2
        try clear hcz98_3
        try clear hcz98_4
        try clear hcz98_5
        try clear hfz100_0
        try clear hfz100_1
        try clear hfz100_2
        try clear hfz100_3
        try clear hfz100_4
        try clear hfz100_5
        try clear hfz104_0
        try clear hfz104_1
        try clear hfz104_2
        try clear hfz104_3
        try clear hfz104_4
        try clear hfz104_5
        try clear hfz18_0
        try clear hfz18_1
        try clear hfz18_2
        try clear hfz18_3
        try clear hfz18_4
        try clear hfz18_5
        try clear hfz20_0
        try clear hfz20_1
        try clear hfz20_2
        try clear hfz20_3
        try clear hfz20_4
        try clear hfz20_5
        try clear hfz23_0
        try clear hfz23_1
        try clear hfz23_2
        try clear hfz23_3
        try clear hfz23_4
        try clear hfz23_5
        try clear hfz25_0
        try clear hfz25_1
        try clear hfz25_2
        try clear hfz25_3
        try clear hfz25_4
        try clear hfz25_5
        try clear hfz29_0
        try clear hfz29_1
        try clear hfz29_2
        try clear hfz29_3
        try clear hfz29_4
        try clear hfz29_5
        try clear hfz31_0
        try clear hfz31_1
        try clear hfz31_2
        try clear hfz31_3
        try clear hfz31_4
        try clear hfz31_5
        try clear hfz34_0
        try clear hfz34_1
        try clear hfz34_2
        try clear hfz34_3
        try clear hfz34_4
        try clear hfz34_5
        try clear hfz36_0
        try clear hfz36_1
        try clear hfz36_2
        try clear hfz36_3
        try clear hfz36_4
        try clear hfz36_5
        try clear hfz46_0
        try clear hfz46_1
        try clear hfz46_2
        try clear hfz46_3
        try clear hfz46_4
        try clear hfz46_5
        try clear hfz48_0
        try clear hfz48_1
        try clear hfz48_2
        try clear hfz48_3
        try clear hfz48_4
        try clear hfz48_5
        try clear hfz50_0
        try clear hfz50_1
        try clear hfz50_2
        try clear hfz50_3
        try clear hfz50_4
        try clear hfz50_5
        try clear hfz51_0
        try clear hfz51_1
        try clear hfz51_2
        try clear hfz51_3
        try clear hfz51_4
        try clear hfz51_5
        try clear hfz53_0
        try clear hfz53_1
        try clear hfz53_2
        try clear hfz53_3
        try clear hfz53_4
        try clear hfz53_5
        try clear hfz54_0
        try clear hfz54_1
        try clear hfz54_2
        try clear hfz54_3
        try clear hfz54_4
        try clear hfz54_5
        try clear hfz58_0
        try clear hfz58_1
        try clear hfz58_2
        try clear hfz58_3
        try clear hfz58_4
        try clear hfz58_5
        try clear hfz60_0
        try clear hfz60_1
        try clear hfz60_2
        try clear hfz60_3
        try clear hfz60_4
        try clear hfz60_5
        try clear hfz62_0
        try clear hfz62_1
        try clear hfz62_2
        try clear hfz62_3
        try clear hfz62_4
        try clear hfz62_5
        try clear hfz63_0
        try clear hfz63_1
        try clear hfz63_2
        try clear hfz63_3
        try clear hfz63_4
        try clear hfz63_5
        try clear hfz67_0
        try clear hfz67_1
        try clear hfz67_2
        try clear hfz67_3
        try clear hfz67_4
        try clear hfz67_5
        try clear hfz69_0
        try clear hfz69_1
        try clear hfz69_2
        try clear hfz69_3
        try clear hfz69_4
        try clear hfz69_5
        try clear hfz76_0
        try clear hfz76_1
        try clear hfz76_2
        try clear hfz76_3
        try clear hfz76_4
        try clear hfz76_5
        try clear hfz82_0
        try clear hfz82_1
        try clear hfz82_2
        try clear hfz82_3
        try clear hfz82_4
        try clear hfz82_5
        try clear hfz90_0
        try clear hfz90_1
        try clear hfz90_2
        try clear hfz90_3
        try clear hfz90_4
        try clear hfz90_5
        try clear hfz92_0
        try clear hfz92_1
        try clear hfz92_2
        try clear hfz92_3
        try clear hfz92_4
        try clear hfz92_5
        try clear hfz94_0
        try clear hfz94_1
        try clear hfz94_2
        try clear hfz94_3
        try clear hfz94_4
        try clear hfz94_5
        try clear hfz98_0
        try clear hfz98_1
        try clear hfz98_2
        try clear hfz98_3
        try clear hfz98_4
        try clear hfz98_5
        try clear p2
        obtain ⟨kq, x86_72, rfl, HA, HJ72, BK377, BK378, BK379, HB⟩ := hcut
        cases kq with
        | zero => exact absurd HA.out (by simp [redpencillaw09_NodeHolds.j2])
        | succ kj72 =>
         have H := HA.out
         clear HA
         simp only [redpencillaw09_NodeHolds.j2] at H
         by_cases c106 : x86_72 = true
         ·
          subst c106
          have H1 : (some false) = some true := by rw [if_pos rfl] at H; exact H
          exact absurd H1 (by simp)
         ·
          replace c106 := Bool.eq_false_iff.mpr c106
          subst c106
          have H1 : ((node_Merge.f kj72 a0_0 a0_1 a0_2 a0_3 a0_4 a0_5 a1_0 a1_1 a1_2 a1_3 a1_4 a1_5).bind fun bt390 => ((node_Merge.f kj72 a1_0 a1_1 a1_2 a1_3 a1_4 a1_5 a2_0 a2_1 a2_2 a2_3 a2_4 a2_5).bind fun bt398 => ((node_Merge.f kj72 a0_0 a0_1 a0_2 a0_3 a0_4 a0_5 a2_0 a2_1 a2_2 a2_3 a2_4 a2_5).bind fun bt406 => ((redpencillaw09_merges.f kj72 a1_0 a1_1 a1_2 a1_3 a1_4 a1_5 a0_0 a0_1 a0_2 a0_3 a0_4 a0_5 bt390.1 bt390.2.1 bt390.2.2.1 bt390.2.2.2.1 bt390.2.2.2.2.1 bt390.2.2.2.2.2.1 bt390.2.2.2.2.2.2).bind fun t414 => (if t414 = true then (if bt390.2.2.2.2.2.2 = 0 then ((node_Dead.f bt390.1 bt390.2.1 bt390.2.2.1 bt390.2.2.2.1 bt390.2.2.2.2.1 bt390.2.2.2.2.2.1).bind fun t415 => ((node_Dead.f a0_0 a0_1 a0_2 a0_3 a0_4 a0_5).bind fun t416 => (if t416 = true then (if (t415 != true) = true then (redpencillaw09_NodeHolds.j3 kj72 bt390.2.2.2.2.2.2 bt398.2.2.2.2.2.2 bt406.2.2.2.2.2.2 true a0_0 a0_1 a0_2 a0_3 a0_4 a0_5 a2_0 a2_1 a2_2 a2_3 a2_4 a2_5 bt390.1 bt390.2.1 bt390.2.2.1 bt390.2.2.2.1 bt390.2.2.2.2.1 bt390.2.2.2.2.2.1 bt398.1 bt398.2.1 bt398.2.2.1 bt398.2.2.2.1 bt398.2.2.2.2.1 bt398.2.2.2.2.2.1) else ((node_Valid.f kj72 bt390.1 bt390.2.1 bt390.2.2.1 bt390.2.2.2.1 bt390.2.2.2.2.1 bt390.2.2.2.2.2.1).bind fun t417 => (redpencillaw09_NodeHolds.j3 kj72 bt390.2.2.2.2.2.2 bt398.2.2.2.2.2.2 bt406.2.2.2.2.2.2 (!t417) a0_0 a0_1 a0_2 a0_3 a0_4 a0_5 a2_0 a2_1 a2_2 a2_3 a2_4 a2_5 bt390.1 bt390.2.1 bt390.2.2.1 bt390.2.2.2.1 bt390.2.2.2.2.1 bt390.2.2.2.2.2.1 bt398.1 bt398.2.1 bt398.2.2.1 bt398.2.2.2.1 bt398.2.2.2.2.1 bt398.2.2.2.2.2.1))) else ((node_Dead.f a1_0 a1_1 a1_2 a1_3 a1_4 a1_5).bind fun t418 => (if (t415 != t418) = true then (redpencillaw09_NodeHolds.j3 kj72 bt390.2.2.2.2.2.2 bt398.2.2.2.2.2.2 bt406.2.2.2.2.2.2 true a0_0 a0_1 a0_2 a0_3 a0_4 a0_5 a2_0 a2_1 a2_2 a2_3 a2_4 a2_5 bt390.1 bt390.2.1 bt390.2.2.1 bt390.2.2.2.1 bt390.2.2.2.2.1 bt390.2.2.2.2.2.1 bt398.1 bt398.2.1 bt398.2.2.1 bt398.2.2.2.1 bt398.2.2.2.2.1 bt398.2.2.2.2.2.1) else ((node_Valid.f kj72 bt390.1 bt390.2.1 bt390.2.2.1 bt390.2.2.2.1 bt390.2.2.2.2.1 bt390.2.2.2.2.2.1).bind fun t419 => (redpencillaw09_NodeHolds.j3 kj72 bt390.2.2.2.2.2.2 bt398.2.2.2.2.2.2 bt406.2.2.2.2.2.2 (!t419) a0_0 a0_1 a0_2 a0_3 a0_4 a0_5 a2_0 a2_1 a2_2 a2_3 a2_4 a2_5 bt390.1 bt390.2.1 bt390.2.2.1 bt390.2.2.2.1 bt390.2.2.2.2.1 bt390.2.2.2.2.2.1 bt398.1 bt398.2.1 bt398.2.2.1 bt398.2.2.2.1 bt398.2.2.2.2.1 bt398.2.2.2.2.2.1))))))) else (redpencillaw09_NodeHolds.j3 kj72 bt390.2.2.2.2.2.2 bt398.2.2.2.2.2.2 bt406.2.2.2.2.2.2 false a0_0 a0_1 a0_2 a0_3 a0_4 a0_5 a2_0 a2_1 a2_2 a2_3 a2_4 a2_5 bt390.1 bt390.2.1 bt390.2.2.1 bt390.2.2.2.1 bt390.2.2.2.2.1 bt390.2.2.2.2.2.1 bt398.1 bt398.2.1 bt398.2.2.1 bt398.2.2.2.1 bt398.2.2.2.2.1 bt398.2.2.2.2.2.1)) else (redpencillaw09_NodeHolds.j3 kj72 bt390.2.2.2.2.2.2 bt398.2.2.2.2.2.2 bt406.2.2.2.2.2.2 true a0_0 a0_1 a0_2 a0_3 a0_4 a0_5 a2_0 a2_1 a2_2 a2_3 a2_4 a2_5 bt390.1 bt390.2.1 bt390.2.2.1 bt390.2.2.2.1 bt390.2.2.2.2.1 bt390.2.2.2.2.2.1 bt398.1 bt398.2.1 bt398.2.2.1 bt398.2.2.2.1 bt398.2.2.2.2.1 bt398.2.2.2.2.2.1)))))) = some true := by rw [if_neg (show ¬ (false = true) by decide)] at H; exact H
          clear H
          have H := H1
          clear H1
          replace H := Option.bind_eq_some_iff.mp H
          obtain ⟨⟨t390, t391, t392, t393, t394, t395, t396⟩, A1070, H⟩ := H
          replace H : ((node_Merge.f kj72 a1_0 a1_1 a1_2 a1_3 a1_4 a1_5 a2_0 a2_1 a2_2 a2_3 a2_4 a2_5).bind fun bt398 => ((node_Merge.f kj72 a0_0 a0_1 a0_2 a0_3 a0_4 a0_5 a2_0 a2_1 a2_2 a2_3 a2_4 a2_5).bind fun bt406 => ((redpencillaw09_merges.f kj72 a1_0 a1_1 a1_2 a1_3 a1_4 a1_5 a0_0 a0_1 a0_2 a0_3 a0_4 a0_5 t390 t391 t392 t393 t394 t395 t396).bind fun t414 => (if t414 = true then (if t396 = 0 then ((node_Dead.f t390 t391 t392 t393 t394 t395).bind fun t415 => ((node_Dead.f a0_0 a0_1 a0_2 a0_3 a0_4 a0_5).bind fun t416 => (if t416 = true then (if (t415 != true) = true then (redpencillaw09_NodeHolds.j3 kj72 t396 bt398.2.2.2.2.2.2 bt406.2.2.2.2.2.2 true a0_0 a0_1 a0_2 a0_3 a0_4 a0_5 a2_0 a2_1 a2_2 a2_3 a2_4 a2_5 t390 t391 t392 t393 t394 t395 bt398.1 bt398.2.1 bt398.2.2.1 bt398.2.2.2.1 bt398.2.2.2.2.1 bt398.2.2.2.2.2.1) else ((node_Valid.f kj72 t390 t391 t392 t393 t394 t395).bind fun t417 => (redpencillaw09_NodeHolds.j3 kj72 t396 bt398.2.2.2.2.2.2 bt406.2.2.2.2.2.2 (!t417) a0_0 a0_1 a0_2 a0_3 a0_4 a0_5 a2_0 a2_1 a2_2 a2_3 a2_4 a2_5 t390 t391 t392 t393 t394 t395 bt398.1 bt398.2.1 bt398.2.2.1 bt398.2.2.2.1 bt398.2.2.2.2.1 bt398.2.2.2.2.2.1))) else ((node_Dead.f a1_0 a1_1 a1_2 a1_3 a1_4 a1_5).bind fun t418 => (if (t415 != t418) = true then (redpencillaw09_NodeHolds.j3 kj72 t396 bt398.2.2.2.2.2.2 bt406.2.2.2.2.2.2 true a0_0 a0_1 a0_2 a0_3 a0_4 a0_5 a2_0 a2_1 a2_2 a2_3 a2_4 a2_5 t390 t391 t392 t393 t394 t395 bt398.1 bt398.2.1 bt398.2.2.1 bt398.2.2.2.1 bt398.2.2.2.2.1 bt398.2.2.2.2.2.1) else ((node_Valid.f kj72 t390 t391 t392 t393 t394 t395).bind fun t419 => (redpencillaw09_NodeHolds.j3 kj72 t396 bt398.2.2.2.2.2.2 bt406.2.2.2.2.2.2 (!t419) a0_0 a0_1 a0_2 a0_3 a0_4 a0_5 a2_0 a2_1 a2_2 a2_3 a2_4 a2_5 t390 t391 t392 t393 t394 t395 bt398.1 bt398.2.1 bt398.2.2.1 bt398.2.2.2.1 bt398.2.2.2.2.1 bt398.2.2.2.2.2.1))))))) else (redpencillaw09_NodeHolds.j3 kj72 t396 bt398.2.2.2.2.2.2 bt406.2.2.2.2.2.2 false a0_0 a0_1 a0_2 a0_3 a0_4 a0_5 a2_0 a2_1 a2_2 a2_3 a2_4 a2_5 t390 t391 t392 t393 t394 t395 bt398.1 bt398.2.1 bt398.2.2.1 bt398.2.2.2.1 bt398.2.2.2.2.1 bt398.2.2.2.2.2.1)) else (redpencillaw09_NodeHolds.j3 kj72 t396 bt398.2.2.2.2.2.2 bt406.2.2.2.2.2.2 true a0_0 a0_1 a0_2 a0_3 a0_4 a0_5 a2_0 a2_1 a2_2 a2_3 a2_4 a2_5 t390 t391 t392 t393 t394 t395 bt398.1 bt398.2.1 bt398.2.2.1 bt398.2.2.2.1 bt398.2.2.2.2.1 bt398.2.2.2.2.2.1))))) = some true := H
          have A107 := Aside0.mk A1070
          clear A1070
          replace H := Option.bind_eq_some_iff.mp H
          obtain ⟨⟨t398, t399, t400, t401, t402, t403, t404⟩, A1080, H⟩ := H
          replace H : ((node_Merge.f kj72 a0_0 a0_1 a0_2 a0_3 a0_4 a0_5 a2_0 a2_1 a2_2 a2_3 a2_4 a2_5).bind fun bt406 => ((redpencillaw09_merges.f kj72 a1_0 a1_1 a1_2 a1_3 a1_4 a1_5 a0_0 a0_1 a0_2 a0_3 a0_4 a0_5 t390 t391 t392 t393 t394 t395 t396).bind fun t414 => (if t414 = true then (if t396 = 0 then ((node_Dead.f t390 t391 t392 t393 t394 t395).bind fun t415 => ((node_Dead.f a0_0 a0_1 a0_2 a0_3 a0_4 a0_5).bind fun t416 => (if t416 = true then (if (t415 != true) = true then (redpencillaw09_NodeHolds.j3 kj72 t396 t404 bt406.2.2.2.2.2.2 true a0_0 a0_1 a0_2 a0_3 a0_4 a0_5 a2_0 a2_1 a2_2 a2_3 a2_4 a2_5 t390 t391 t392 t393 t394 t395 t398 t399 t400 t401 t402 t403) else ((node_Valid.f kj72 t390 t391 t392 t393 t394 t395).bind fun t417 => (redpencillaw09_NodeHolds.j3 kj72 t396 t404 bt406.2.2.2.2.2.2 (!t417) a0_0 a0_1 a0_2 a0_3 a0_4 a0_5 a2_0 a2_1 a2_2 a2_3 a2_4 a2_5 t390 t391 t392 t393 t394 t395 t398 t399 t400 t401 t402 t403))) else ((node_Dead.f a1_0 a1_1 a1_2 a1_3 a1_4 a1_5).bind fun t418 => (if (t415 != t418) = true then (redpencillaw09_NodeHolds.j3 kj72 t396 t404 bt406.2.2.2.2.2.2 true a0_0 a0_1 a0_2 a0_3 a0_4 a0_5 a2_0 a2_1 a2_2 a2_3 a2_4 a2_5 t390 t391 t392 t393 t394 t395 t398 t399 t400 t401 t402 t403) else ((node_Valid.f kj72 t390 t391 t392 t393 t394 t395).bind fun t419 => (redpencillaw09_NodeHolds.j3 kj72 t396 t404 bt406.2.2.2.2.2.2 (!t419) a0_0 a0_1 a0_2 a0_3 a0_4 a0_5 a2_0 a2_1 a2_2 a2_3 a2_4 a2_5 t390 t391 t392 t393 t394 t395 t398 t399 t400 t401 t402 t403))))))) else (redpencillaw09_NodeHolds.j3 kj72 t396 t404 bt406.2.2.2.2.2.2 false a0_0 a0_1 a0_2 a0_3 a0_4 a0_5 a2_0 a2_1 a2_2 a2_3 a2_4 a2_5 t390 t391 t392 t393 t394 t395 t398 t399 t400 t401 t402 t403)) else (redpencillaw09_NodeHolds.j3 kj72 t396 t404 bt406.2.2.2.2.2.2 true a0_0 a0_1 a0_2 a0_3 a0_4 a0_5 a2_0 a2_1 a2_2 a2_3 a2_4 a2_5 t390 t391 t392 t393 t394 t395 t398 t399 t400 t401 t402 t403)))) = some true := H
          have A108 := Aside0.mk A1080
          clear A1080
          replace H := Option.bind_eq_some_iff.mp H
          obtain ⟨⟨t406, t407, t408, t409, t410, t411, t412⟩, A1090, H⟩ := H
          replace H : ((redpencillaw09_merges.f kj72 a1_0 a1_1 a1_2 a1_3 a1_4 a1_5 a0_0 a0_1 a0_2 a0_3 a0_4 a0_5 t390 t391 t392 t393 t394 t395 t396).bind fun t414 => (if t414 = true then (if t396 = 0 then ((node_Dead.f t390 t391 t392 t393 t394 t395).bind fun t415 => ((node_Dead.f a0_0 a0_1 a0_2 a0_3 a0_4 a0_5).bind fun t416 => (if t416 = true then (if (t415 != true) = true then (redpencillaw09_NodeHolds.j3 kj72 t396 t404 t412 true a0_0 a0_1 a0_2 a0_3 a0_4 a0_5 a2_0 a2_1 a2_2 a2_3 a2_4 a2_5 t390 t391 t392 t393 t394 t395 t398 t399 t400 t401 t402 t403) else ((node_Valid.f kj72 t390 t391 t392 t393 t394 t395).bind fun t417 => (redpencillaw09_NodeHolds.j3 kj72 t396 t404 t412 (!t417) a0_0 a0_1 a0_2 a0_3 a0_4 a0_5 a2_0 a2_1 a2_2 a2_3 a2_4 a2_5 t390 t391 t392 t393 t394 t395 t398 t399 t400 t401 t402 t403))) else ((node_Dead.f a1_0 a1_1 a1_2 a1_3 a1_4 a1_5).bind fun t418 => (if (t415 != t418) = true then (redpencillaw09_NodeHolds.j3 kj72 t396 t404 t412 true a0_0 a0_1 a0_2 a0_3 a0_4 a0_5 a2_0 a2_1 a2_2 a2_3 a2_4 a2_5 t390 t391 t392 t393 t394 t395 t398 t399 t400 t401 t402 t403) else ((node_Valid.f kj72 t390 t391 t392 t393 t394 t395).bind fun t419 => (redpencillaw09_NodeHolds.j3 kj72 t396 t404 t412 (!t419) a0_0 a0_1 a0_2 a0_3 a0_4 a0_5 a2_0 a2_1 a2_2 a2_3 a2_4 a2_5 t390 t391 t392 t393 t394 t395 t398 t399 t400 t401 t402 t403))))))) else (redpencillaw09_NodeHolds.j3 kj72 t396 t404 t412 false a0_0 a0_1 a0_2 a0_3 a0_4 a0_5 a2_0 a2_1 a2_2 a2_3 a2_4 a2_5 t390 t391 t392 t393 t394 t395 t398 t399 t400 t401 t402 t403)) else (redpencillaw09_NodeHolds.j3 kj72 t396 t404 t412 true a0_0 a0_1 a0_2 a0_3 a0_4 a0_5 a2_0 a2_1 a2_2 a2_3 a2_4 a2_5 t390 t391 t392 t393 t394 t395 t398 t399 t400 t401 t402 t403))) = some true := H
          have A109 := Aside0.mk A1090
          clear A1090
          have HC110 := Aside0.mk H
          clear H
          have hnb111 := NB377_378.out
          have hnc111 := NB378_377.out
          have hnb112 := NB377_379.out
          have hnc112 := NB379_377.out
          have hcz113_0 : wc.cell? ⟨gb377, 0, none⟩ = some (.int .i64 a0_0) := (blk_cell BK377.out 0).trans rfl
          have hcz113_1 : wc.cell? ⟨gb377, 1, none⟩ = some (.int .i64 a0_1) := (blk_cell BK377.out 1).trans rfl
          have hcz113_2 : wc.cell? ⟨gb377, 2, none⟩ = some (.int .i64 a0_2) := (blk_cell BK377.out 2).trans rfl
          have hcz113_3 : wc.cell? ⟨gb377, 3, none⟩ = some (.int .i64 a0_3) := (blk_cell BK377.out 3).trans rfl
          have hcz113_4 : wc.cell? ⟨gb377, 4, none⟩ = some (.int .i64 a0_4) := (blk_cell BK377.out 4).trans rfl
          have hcz113_5 : wc.cell? ⟨gb377, 5, none⟩ = some (.int .i32 a0_5) := (blk_cell BK377.out 5).trans rfl
          have hfz113_0 := blk_frozen BK377.out 0
          have hfz113_1 := blk_frozen BK377.out 1
          have hfz113_2 := blk_frozen BK377.out 2
          have hfz113_3 := blk_frozen BK377.out 3
          have hfz113_4 := blk_frozen BK377.out 4
          have hfz113_5 := blk_frozen BK377.out 5
          have hnb114 := NB378_379.out
          have hnc114 := NB379_378.out
          have hcz115_0 : wc.cell? ⟨gb378, 0, none⟩ = some (.int .i64 a1_0) := (blk_cell BK378.out 0).trans rfl
          have hcz115_1 : wc.cell? ⟨gb378, 1, none⟩ = some (.int .i64 a1_1) := (blk_cell BK378.out 1).trans rfl
          have hcz115_2 : wc.cell? ⟨gb378, 2, none⟩ = some (.int .i64 a1_2) := (blk_cell BK378.out 2).trans rfl
          have hcz115_3 : wc.cell? ⟨gb378, 3, none⟩ = some (.int .i64 a1_3) := (blk_cell BK378.out 3).trans rfl
          have hcz115_4 : wc.cell? ⟨gb378, 4, none⟩ = some (.int .i64 a1_4) := (blk_cell BK378.out 4).trans rfl
          have hcz115_5 : wc.cell? ⟨gb378, 5, none⟩ = some (.int .i32 a1_5) := (blk_cell BK378.out 5).trans rfl
          have hfz115_0 := blk_frozen BK378.out 0
          have hfz115_1 := blk_frozen BK378.out 1
          have hfz115_2 := blk_frozen BK378.out 2
          have hfz115_3 := blk_frozen BK378.out 3
          have hfz115_4 := blk_frozen BK378.out 4
          have hfz115_5 := blk_frozen BK378.out 5
          go_upto_region 12 with (first | ((have gd_ := A107; clear gd_); (with_reducible refine gate_callee (f := 18) rfl ?_); refine goesL_ (some 90) rfl rfl Tryz.func18 (by kernel_rfl) rfl #[.agg #[.int .i64 a0_0, .int .i64 a0_1, .int .i64 a0_2, .int .i64 a0_3, .int .i64 a0_4, .int .i32 a0_5], .agg #[.int .i64 a1_0, .int .i64 a1_1, .int .i64 a1_2, .int .i64 a1_3, .int .i64 a1_4, .int .i32 a1_5]] rfl (by (try simp only [List.map_toArray, List.map_cons, List.map_nil]); first | done | rfl | (simp only [List.length_drop, List.length_take]; rfl)) ?_; (with_reducible refine (node_Merge.calls kj72 a0_0 a0_1 a0_2 a0_3 a0_4 a0_5 a1_0 a1_1 a1_2 a1_3 a1_4 a1_5 t390 t391 t392 t393 t394 t395 t396 _ A107.out).mono ?_); rintro e w116 ⟨rfl, hb⟩; (try clear A107); refine ⟨_, rfl, ?_⟩; have n0_ := Aside0.mk (blk_below (g := gb377) (by rp_; exact BK377.out) hb); have n1_ := Aside0.mk (blk_below (g := gb378) (by rp_; exact BK378.out) hb); have n2_ := Aside0.mk (blk_below (g := gb379) (by rp_; exact BK379.out) hb); have n3_ := Aside0.mk (below_step (by repeat (first | (with_reducible first | exact HB.out | apply below_alloc | apply pw_below_drewN | apply below_drew1 | refine below_set ?_ GE377.out | refine below_set ?_ GE378.out | refine below_set ?_ GE379.out) | exact HB.out)) hb); clear BK377; clear BK378; clear BK379; clear HB; have BK377 := n0_; have BK378 := n1_; have BK379 := n2_; have HB := n3_; clear n0_ n1_ n2_ n3_; (try clear hb); (try clear hb2); (try clear hk); (try clear hi)) | ((with_reducible refine gate_dst (N := 11) rfl ?_); refine box_event ?hg (N := 11) ?hd (cs := #[.int .i64 0, .int .i64 0, .int .i64 0, .int .i64 0, .int .i64 0, .int .i32 0]) (t := 25) ?hr ?_; (case hd => rfl); (case hg => rfl); (case hr => first | (go_simp; done) | (go_simp; rfl)); intro gb397 hg w117 hbox hb; have n0_ := Aside0.mk (blk_below (g := gb377) (by rp_; exact BK377.out) hb); have n1_ := Aside0.mk (blk_below (g := gb378) (by rp_; exact BK378.out) hb); have n2_ := Aside0.mk (blk_below (g := gb379) (by rp_; exact BK379.out) hb); have n3_ := Aside0.mk (below_step (by repeat (first | (with_reducible first | exact HB.out | apply below_alloc | apply pw_below_drewN | apply below_drew1 | refine below_set ?_ GE377.out | refine below_set ?_ GE378.out | refine below_set ?_ GE379.out) | exact HB.out)) hb); have n4_ := Aside0.mk (hbox); have n5_ := Aside0.mk ((by rw [hg]; exact (below_size (by repeat (first | (with_reducible first | exact HB.out | apply below_alloc | apply pw_below_drewN | apply below_drew1 | refine below_set ?_ GE377.out | refine below_set ?_ GE378.out | refine below_set ?_ GE379.out) | exact HB.out))) : w.heap.size ≤ gb397)); have n6_ := Aside0.mk ((by rw [hg]; exact (below_size (by repeat (first | (with_reducible first | exact HB.out | apply below_alloc | apply pw_below_drewN | apply below_drew1 | refine below_set ?_ GE377.out | refine below_set ?_ GE378.out | refine below_set ?_ GE379.out) | exact HB.out))) : w.heap.size ≤ gb397)); have n7_ := Aside0.mk ((by rw [hg]; exact Nat.ne_of_lt (blk_lt (g := gb377) (by rp_; exact BK377.out)) : gb377 ≠ gb397)); have n8_ := Aside0.mk ((by rw [hg]; exact Nat.ne_of_gt (blk_lt (g := gb377) (by rp_; exact BK377.out)) : gb397 ≠ gb377)); have n9_ := Aside0.mk ((by rw [hg]; exact Nat.ne_of_lt (blk_lt (g := gb378) (by rp_; exact BK378.out)) : gb378 ≠ gb397)); have n10_ := Aside0.mk ((by rw [hg]; exact Nat.ne_of_gt (blk_lt (g := gb378) (by rp_; exact BK378.out)) : gb397 ≠ gb378)); have n11_ := Aside0.mk ((by rw [hg]; exact Nat.ne_of_lt (blk_lt (g := gb379) (by rp_; exact BK379.out)) : gb379 ≠ gb397)); have n12_ := Aside0.mk ((by rw [hg]; exact Nat.ne_of_gt (blk_lt (g := gb379) (by rp_; exact BK379.out)) : gb397 ≠ gb379)); clear BK377; clear BK378; clear BK379; clear HB; have BK377 := n0_; have BK378 := n1_; have BK379 := n2_; have HB := n3_; have BK397 := n4_; have GW397 := n5_; have GE397 := n6_; have NB377_397 := n7_; have NB397_377 := n8_; have NB378_397 := n9_; have NB397_378 := n10_; have NB379_397 := n11_; have NB397_379 := n12_; clear n0_ n1_ n2_ n3_ n4_ n5_ n6_ n7_ n8_ n9_ n10_ n11_ n12_; clear hb hbox hg; have hnb118 := NB397_377.out; have hnc118 := NB377_397.out; have hnb119 := NB397_378.out; have hnc119 := NB378_397.out; have hnb120 := NB397_379.out; have hnc120 := NB379_397.out; have hcz121_0 : w117.cell? ⟨gb397, 0, none⟩ = some (.int .i64 0) := (blk_cell BK397.out 0).trans rfl; have hcz121_1 : w117.cell? ⟨gb397, 1, none⟩ = some (.int .i64 0) := (blk_cell BK397.out 1).trans rfl; have hcz121_2 : w117.cell? ⟨gb397, 2, none⟩ = some (.int .i64 0) := (blk_cell BK397.out 2).trans rfl; have hcz121_3 : w117.cell? ⟨gb397, 3, none⟩ = some (.int .i64 0) := (blk_cell BK397.out 3).trans rfl; have hcz121_4 : w117.cell? ⟨gb397, 4, none⟩ = some (.int .i64 0) := (blk_cell BK397.out 4).trans rfl; have hcz121_5 : w117.cell? ⟨gb397, 5, none⟩ = some (.int .i32 0) := (blk_cell BK397.out 5).trans rfl; have hfz121_0 := blk_frozen BK397.out 0; have hfz121_1 := blk_frozen BK397.out 1; have hfz121_2 := blk_frozen BK397.out 2; have hfz121_3 := blk_frozen BK397.out 3; have hfz121_4 := blk_frozen BK397.out 4; have hfz121_5 := blk_frozen BK397.out 5; have hcz122_0 : w117.cell? ⟨gb378, 0, none⟩ = some (.int .i64 a1_0) := (blk_cell BK378.out 0).trans rfl; have hcz122_1 : w117.cell? ⟨gb378, 1, none⟩ = some (.int .i64 a1_1) := (blk_cell BK378.out 1).trans rfl; have hcz122_2 : w117.cell? ⟨gb378, 2, none⟩ = some (.int .i64 a1_2) := (blk_cell BK378.out 2).trans rfl; have hcz122_3 : w117.cell? ⟨gb378, 3, none⟩ = some (.int .i64 a1_3) := (blk_cell BK378.out 3).trans rfl; have hcz122_4 : w117.cell? ⟨gb378, 4, none⟩ = some (.int .i64 a1_4) := (blk_cell BK378.out 4).trans rfl; have hcz122_5 : w117.cell? ⟨gb378, 5, none⟩ = some (.int .i32 a1_5) := (blk_cell BK378.out 5).trans rfl; have hfz122_0 := blk_frozen BK378.out 0; have hfz122_1 := blk_frozen BK378.out 1; have hfz122_2 := blk_frozen BK378.out 2; have hfz122_3 := blk_frozen BK378.out 3; have hfz122_4 := blk_frozen BK378.out 4; have hfz122_5 := blk_frozen BK378.out 5; have hcz123_0 : w117.cell? ⟨gb379, 0, none⟩ = some (.int .i64 a2_0) := (blk_cell BK379.out 0).trans rfl; have hcz123_1 : w117.cell? ⟨gb379, 1, none⟩ = some (.int .i64 a2_1) := (blk_cell BK379.out 1).trans rfl; have hcz123_2 : w117.cell? ⟨gb379, 2, none⟩ = some (.int .i64 a2_2) := (blk_cell BK379.out 2).trans rfl; have hcz123_3 : w117.cell? ⟨gb379, 3, none⟩ = some (.int .i64 a2_3) := (blk_cell BK379.out 3).trans rfl; have hcz123_4 : w117.cell? ⟨gb379, 4, none⟩ = some (.int .i64 a2_4) := (blk_cell BK379.out 4).trans rfl; have hcz123_5 : w117.cell? ⟨gb379, 5, none⟩ = some (.int .i32 a2_5) := (blk_cell BK379.out 5).trans rfl; have hfz123_0 := blk_frozen BK379.out 0; have hfz123_1 := blk_frozen BK379.out 1; have hfz123_2 := blk_frozen BK379.out 2; have hfz123_3 := blk_frozen BK379.out 3; have hfz123_4 := blk_frozen BK379.out 4; have hfz123_5 := blk_frozen BK379.out 5) | ((have gd_ := A108; clear gd_); (with_reducible refine gate_callee (f := 18) rfl ?_); refine goesL_ (some 96) rfl rfl Tryz.func18 (by kernel_rfl) rfl #[.agg #[.int .i64 a1_0, .int .i64 a1_1, .int .i64 a1_2, .int .i64 a1_3, .int .i64 a1_4, .int .i32 a1_5], .agg #[.int .i64 a2_0, .int .i64 a2_1, .int .i64 a2_2, .int .i64 a2_3, .int .i64 a2_4, .int .i32 a2_5]] rfl (by (try simp only [List.map_toArray, List.map_cons, List.map_nil]); first | done | rfl | (simp only [List.length_drop, List.length_take]; rfl)) ?_; (with_reducible refine (node_Merge.calls kj72 a1_0 a1_1 a1_2 a1_3 a1_4 a1_5 a2_0 a2_1 a2_2 a2_3 a2_4 a2_5 t398 t399 t400 t401 t402 t403 t404 _ A108.out).mono ?_); rintro e w124 ⟨rfl, hb⟩; (try clear A108); refine ⟨_, rfl, ?_⟩; have n0_ := Aside0.mk (blk_below_of BK377.out (by rp_; refine blk_far ?_ NB377_397.out _; rp_; refine blk_far ?_ NB377_397.out _; rp_; refine blk_far ?_ NB377_397.out _; rp_; refine blk_far ?_ NB377_397.out _; rp_; refine blk_far ?_ NB377_397.out _; rp_; refine blk_far ?_ NB377_397.out _; rp_; exact BK377.out) hb); have n1_ := Aside0.mk (blk_below_of BK378.out (by rp_; refine blk_far ?_ NB378_397.out _; rp_; refine blk_far ?_ NB378_397.out _; rp_; refine blk_far ?_ NB378_397.out _; rp_; refine blk_far ?_ NB378_397.out _; rp_; refine blk_far ?_ NB378_397.out _; rp_; refine blk_far ?_ NB378_397.out _; rp_; exact BK378.out) hb); have n2_ := Aside0.mk (blk_below_of BK379.out (by rp_; refine blk_far ?_ NB379_397.out _; rp_; refine blk_far ?_ NB379_397.out _; rp_; refine blk_far ?_ NB379_397.out _; rp_; refine blk_far ?_ NB379_397.out _; rp_; refine blk_far ?_ NB379_397.out _; rp_; refine blk_far ?_ NB379_397.out _; rp_; exact BK379.out) hb); have n3_ := Aside0.mk (blk_below_k BK397.out (by rp_; refine blk_put (cs := #[.int .i64 t390, .int .i64 t391, .int .i64 t392, .int .i64 t393, .int .i64 t394, .int .i32 0]) ?_ 5 _ rfl; rp_; refine blk_put (cs := #[.int .i64 t390, .int .i64 t391, .int .i64 t392, .int .i64 t393, .int .i64 0, .int .i32 0]) ?_ 4 _ rfl; rp_; refine blk_put (cs := #[.int .i64 t390, .int .i64 t391, .int .i64 t392, .int .i64 0, .int .i64 0, .int .i32 0]) ?_ 3 _ rfl; rp_; refine blk_put (cs := #[.int .i64 t390, .int .i64 t391, .int .i64 0, .int .i64 0, .int .i64 0, .int .i32 0]) ?_ 2 _ rfl; rp_; refine blk_put (cs := #[.int .i64 t390, .int .i64 0, .int .i64 0, .int .i64 0, .int .i64 0, .int .i32 0]) ?_ 1 _ rfl; rp_; refine blk_put (cs := #[.int .i64 0, .int .i64 0, .int .i64 0, .int .i64 0, .int .i64 0, .int .i32 0]) ?_ 0 _ rfl; rp_; exact BK397.out) hb); have n4_ := Aside0.mk (below_step (by repeat (first | (with_reducible first | exact HB.out | apply below_alloc | apply pw_below_drewN | apply below_drew1 | refine below_set ?_ GE377.out | refine below_set ?_ GE378.out | refine below_set ?_ GE379.out | refine below_set ?_ GE397.out) | exact HB.out)) hb); clear BK377; clear BK378; clear BK379; clear BK397; clear HB; have BK377 := n0_; have BK378 := n1_; have BK379 := n2_; have BK397 := n3_; have HB := n4_; clear n0_ n1_ n2_ n3_ n4_; (try clear hb); (try clear hb2); (try clear hk); (try clear hi)) | ((with_reducible refine gate_dst (N := 12) rfl ?_); refine box_event ?hg (N := 12) ?hd (cs := #[.int .i64 0, .int .i64 0, .int .i64 0, .int .i64 0, .int .i64 0, .int .i32 0]) (t := 25) ?hr ?_; (case hd => rfl); (case hg => rfl); (case hr => first | (go_simp; done) | (go_simp; rfl)); intro gb405 hg w125 hbox hb; have n0_ := Aside0.mk (blk_below (g := gb377) (by rp_; exact BK377.out) hb); have n1_ := Aside0.mk (blk_below (g := gb378) (by rp_; exact BK378.out) hb); have n2_ := Aside0.mk (blk_below (g := gb379) (by rp_; exact BK379.out) hb); have n3_ := Aside0.mk (blk_below (g := gb397) (by rp_; exact BK397.out) hb); have n4_ := Aside0.mk (below_step (by repeat (first | (with_reducible first | exact HB.out | apply below_alloc | apply pw_below_drewN | apply below_drew1 | refine below_set ?_ GE377.out | refine below_set ?_ GE378.out | refine below_set ?_ GE379.out | refine below_set ?_ GE397.out) | exact HB.out)) hb); have n5_ := Aside0.mk (hbox); have n6_ := Aside0.mk ((by rw [hg]; exact (below_size (by repeat (first | (with_reducible first | exact HB.out | apply below_alloc | apply pw_below_drewN | apply below_drew1 | refine below_set ?_ GE377.out | refine below_set ?_ GE378.out | refine below_set ?_ GE379.out | refine below_set ?_ GE397.out) | exact HB.out))) : w.heap.size ≤ gb405)); have n7_ := Aside0.mk ((by rw [hg]; exact (below_size (by repeat (first | (with_reducible first | exact HB.out | apply below_alloc | apply pw_below_drewN | apply below_drew1 | refine below_set ?_ GE377.out | refine below_set ?_ GE378.out | refine below_set ?_ GE379.out | refine below_set ?_ GE397.out) | exact HB.out))) : w.heap.size ≤ gb405)); have n8_ := Aside0.mk ((by rw [hg]; exact Nat.ne_of_lt (blk_lt (g := gb377) (by rp_; exact BK377.out)) : gb377 ≠ gb405)); have n9_ := Aside0.mk ((by rw [hg]; exact Nat.ne_of_gt (blk_lt (g := gb377) (by rp_; exact BK377.out)) : gb405 ≠ gb377)); have n10_ := Aside0.mk ((by rw [hg]; exact Nat.ne_of_lt (blk_lt (g := gb378) (by rp_; exact BK378.out)) : gb378 ≠ gb405)); have n11_ := Aside0.mk ((by rw [hg]; exact Nat.ne_of_gt (blk_lt (g := gb378) (by rp_; exact BK378.out)) : gb405 ≠ gb378)); have n12_ := Aside0.mk ((by rw [hg]; exact Nat.ne_of_lt (blk_lt (g := gb379) (by rp_; exact BK379.out)) : gb379 ≠ gb405)); have n13_ := Aside0.mk ((by rw [hg]; exact Nat.ne_of_gt (blk_lt (g := gb379) (by rp_; exact BK379.out)) : gb405 ≠ gb379)); have n14_ := Aside0.mk ((by rw [hg]; exact Nat.ne_of_lt (blk_lt (g := gb397) (by rp_; exact BK397.out)) : gb397 ≠ gb405)); have n15_ := Aside0.mk ((by rw [hg]; exact Nat.ne_of_gt (blk_lt (g := gb397) (by rp_; exact BK397.out)) : gb405 ≠ gb397)); clear BK377; clear BK378; clear BK379; clear BK397; clear HB; have BK377 := n0_; have BK378 := n1_; have BK379 := n2_; have BK397 := n3_; have HB := n4_; have BK405 := n5_; have GW405 := n6_; have GE405 := n7_; have NB377_405 := n8_; have NB405_377 := n9_; have NB378_405 := n10_; have NB405_378 := n11_; have NB379_405 := n12_; have NB405_379 := n13_; have NB397_405 := n14_; have NB405_397 := n15_; clear n0_ n1_ n2_ n3_ n4_ n5_ n6_ n7_ n8_ n9_ n10_ n11_ n12_ n13_ n14_ n15_; clear hb hbox hg; have hnb126 := NB405_377.out; have hnc126 := NB377_405.out; have hnb127 := NB405_378.out; have hnc127 := NB378_405.out; have hnb128 := NB405_379.out; have hnc128 := NB379_405.out; have hnb129 := NB405_397.out; have hnc129 := NB397_405.out; have hcz130_0 : w125.cell? ⟨gb405, 0, none⟩ = some (.int .i64 0) := (blk_cell BK405.out 0).trans rfl; have hcz130_1 : w125.cell? ⟨gb405, 1, none⟩ = some (.int .i64 0) := (blk_cell BK405.out 1).trans rfl; have hcz130_2 : w125.cell? ⟨gb405, 2, none⟩ = some (.int .i64 0) := (blk_cell BK405.out 2).trans rfl; have hcz130_3 : w125.cell? ⟨gb405, 3, none⟩ = some (.int .i64 0) := (blk_cell BK405.out 3).trans rfl; have hcz130_4 : w125.cell? ⟨gb405, 4, none⟩ = some (.int .i64 0) := (blk_cell BK405.out 4).trans rfl; have hcz130_5 : w125.cell? ⟨gb405, 5, none⟩ = some (.int .i32 0) := (blk_cell BK405.out 5).trans rfl; have hfz130_0 := blk_frozen BK405.out 0; have hfz130_1 := blk_frozen BK405.out 1; have hfz130_2 := blk_frozen BK405.out 2; have hfz130_3 := blk_frozen BK405.out 3; have hfz130_4 := blk_frozen BK405.out 4; have hfz130_5 := blk_frozen BK405.out 5; have hcz131_0 : w125.cell? ⟨gb377, 0, none⟩ = some (.int .i64 a0_0) := (blk_cell BK377.out 0).trans rfl; have hcz131_1 : w125.cell? ⟨gb377, 1, none⟩ = some (.int .i64 a0_1) := (blk_cell BK377.out 1).trans rfl; have hcz131_2 : w125.cell? ⟨gb377, 2, none⟩ = some (.int .i64 a0_2) := (blk_cell BK377.out 2).trans rfl; have hcz131_3 : w125.cell? ⟨gb377, 3, none⟩ = some (.int .i64 a0_3) := (blk_cell BK377.out 3).trans rfl; have hcz131_4 : w125.cell? ⟨gb377, 4, none⟩ = some (.int .i64 a0_4) := (blk_cell BK377.out 4).trans rfl; have hcz131_5 : w125.cell? ⟨gb377, 5, none⟩ = some (.int .i32 a0_5) := (blk_cell BK377.out 5).trans rfl; have hfz131_0 := blk_frozen BK377.out 0; have hfz131_1 := blk_frozen BK377.out 1; have hfz131_2 := blk_frozen BK377.out 2; have hfz131_3 := blk_frozen BK377.out 3; have hfz131_4 := blk_frozen BK377.out 4; have hfz131_5 := blk_frozen BK377.out 5; have hcz132_0 : w125.cell? ⟨gb379, 0, none⟩ = some (.int .i64 a2_0) := (blk_cell BK379.out 0).trans rfl; have hcz132_1 : w125.cell? ⟨gb379, 1, none⟩ = some (.int .i64 a2_1) := (blk_cell BK379.out 1).trans rfl; have hcz132_2 : w125.cell? ⟨gb379, 2, none⟩ = some (.int .i64 a2_2) := (blk_cell BK379.out 2).trans rfl; have hcz132_3 : w125.cell? ⟨gb379, 3, none⟩ = some (.int .i64 a2_3) := (blk_cell BK379.out 3).trans rfl; have hcz132_4 : w125.cell? ⟨gb379, 4, none⟩ = some (.int .i64 a2_4) := (blk_cell BK379.out 4).trans rfl; have hcz132_5 : w125.cell? ⟨gb379, 5, none⟩ = some (.int .i32 a2_5) := (blk_cell BK379.out 5).trans rfl; have hfz132_0 := blk_frozen BK379.out 0; have hfz132_1 := blk_frozen BK379.out 1; have hfz132_2 := blk_frozen BK379.out 2; have hfz132_3 := blk_frozen BK379.out 3; have hfz132_4 := blk_frozen BK379.out 4; have hfz132_5 := blk_frozen BK379.out 5) | ((have gd_ := A109; clear gd_); (with_reducible refine gate_callee (f := 18) rfl ?_); refine goesL_ (some 102) rfl rfl Tryz.func18 (by kernel_rfl) rfl #[.agg #[.int .i64 a0_0, .int .i64 a0_1, .int .i64 a0_2, .int .i64 a0_3, .int .i64 a0_4, .int .i32 a0_5], .agg #[.int .i64 a2_0, .int .i64 a2_1, .int .i64 a2_2, .int .i64 a2_3, .int .i64 a2_4, .int .i32 a2_5]] rfl (by (try simp only [List.map_toArray, List.map_cons, List.map_nil]); first | done | rfl | (simp only [List.length_drop, List.length_take]; rfl)) ?_; (with_reducible refine (node_Merge.calls kj72 a0_0 a0_1 a0_2 a0_3 a0_4 a0_5 a2_0 a2_1 a2_2 a2_3 a2_4 a2_5 t406 t407 t408 t409 t410 t411 t412 _ A109.out).mono ?_); rintro e w133 ⟨rfl, hb⟩; (try clear A109); refine ⟨_, rfl, ?_⟩; have n0_ := Aside0.mk (blk_below_of BK377.out (by rp_; refine blk_far ?_ NB377_405.out _; rp_; refine blk_far ?_ NB377_405.out _; rp_; refine blk_far ?_ NB377_405.out _; rp_; refine blk_far ?_ NB377_405.out _; rp_; refine blk_far ?_ NB377_405.out _; rp_; refine blk_far ?_ NB377_405.out _; rp_; exact BK377.out) hb); have n1_ := Aside0.mk (blk_below_of BK378.out (by rp_; refine blk_far ?_ NB378_405.out _; rp_; refine blk_far ?_ NB378_405.out _; rp_; refine blk_far ?_ NB378_405.out _; rp_; refine blk_far ?_ NB378_405.out _; rp_; refine blk_far ?_ NB378_405.out _; rp_; refine blk_far ?_ NB378_405.out _; rp_; exact BK378.out) hb); have n2_ := Aside0.mk (blk_below_of BK379.out (by rp_; refine blk_far ?_ NB379_405.out _; rp_; refine blk_far ?_ NB379_405.out _; rp_; refine blk_far ?_ NB379_405.out _; rp_; refine blk_far ?_ NB379_405.out _; rp_; refine blk_far ?_ NB379_405.out _; rp_; refine blk_far ?_ NB379_405.out _; rp_; exact BK379.out) hb); have n3_ := Aside0.mk (blk_below_of BK397.out (by rp_; refine blk_far ?_ NB397_405.out _; rp_; refine blk_far ?_ NB397_405.out _; rp_; refine blk_far ?_ NB397_405.out _; rp_; refine blk_far ?_ NB397_405.out _; rp_; refine blk_far ?_ NB397_405.out _; rp_; refine blk_far ?_ NB397_405.out _; rp_; exact BK397.out) hb); have n4_ := Aside0.mk (blk_below_k BK405.out (by rp_; refine blk_put (cs := #[.int .i64 t398, .int .i64 t399, .int .i64 t400, .int .i64 t401, .int .i64 t402, .int .i32 0]) ?_ 5 _ rfl; rp_; refine blk_put (cs := #[.int .i64 t398, .int .i64 t399, .int .i64 t400, .int .i64 t401, .int .i64 0, .int .i32 0]) ?_ 4 _ rfl; rp_; refine blk_put (cs := #[.int .i64 t398, .int .i64 t399, .int .i64 t400, .int .i64 0, .int .i64 0, .int .i32 0]) ?_ 3 _ rfl; rp_; refine blk_put (cs := #[.int .i64 t398, .int .i64 t399, .int .i64 0, .int .i64 0, .int .i64 0, .int .i32 0]) ?_ 2 _ rfl; rp_; refine blk_put (cs := #[.int .i64 t398, .int .i64 0, .int .i64 0, .int .i64 0, .int .i64 0, .int .i32 0]) ?_ 1 _ rfl; rp_; refine blk_put (cs := #[.int .i64 0, .int .i64 0, .int .i64 0, .int .i64 0, .int .i64 0, .int .i32 0]) ?_ 0 _ rfl; rp_; exact BK405.out) hb); have n5_ := Aside0.mk (below_step (by repeat (first | (with_reducible first | exact HB.out | apply below_alloc | apply pw_below_drewN | apply below_drew1 | refine below_set ?_ GE377.out | refine below_set ?_ GE378.out | refine below_set ?_ GE379.out | refine below_set ?_ GE397.out | refine below_set ?_ GE405.out) | exact HB.out)) hb); clear BK377; clear BK378; clear BK379; clear BK397; clear BK405; clear HB; have BK377 := n0_; have BK378 := n1_; have BK379 := n2_; have BK397 := n3_; have BK405 := n4_; have HB := n5_; clear n0_ n1_ n2_ n3_ n4_ n5_; (try clear hb); (try clear hb2); (try clear hk); (try clear hi)) | ((with_reducible refine gate_dst (N := 14) rfl ?_); refine box_event ?hg (N := 14) ?hd (cs := #[.int .i64 0, .int .i64 0, .int .i64 0, .int .i64 0, .int .i64 0, .int .i32 0]) (t := 25) ?hr ?_; (case hd => rfl); (case hg => rfl); (case hr => first | (go_simp; done) | (go_simp; rfl)); intro gb413 hg w134 hbox hb; have n0_ := Aside0.mk (blk_below (g := gb377) (by rp_; exact BK377.out) hb); have n1_ := Aside0.mk (blk_below (g := gb378) (by rp_; exact BK378.out) hb); have n2_ := Aside0.mk (blk_below (g := gb379) (by rp_; exact BK379.out) hb); have n3_ := Aside0.mk (blk_below (g := gb397) (by rp_; exact BK397.out) hb); have n4_ := Aside0.mk (blk_below (g := gb405) (by rp_; exact BK405.out) hb); have n5_ := Aside0.mk (below_step (by repeat (first | (with_reducible first | exact HB.out | apply below_alloc | apply pw_below_drewN | apply below_drew1 | refine below_set ?_ GE377.out | refine below_set ?_ GE378.out | refine below_set ?_ GE379.out | refine below_set ?_ GE397.out | refine below_set ?_ GE405.out) | exact HB.out)) hb); have n6_ := Aside0.mk (hbox); have n7_ := Aside0.mk ((by rw [hg]; exact (below_size (by repeat (first | (with_reducible first | exact HB.out | apply below_alloc | apply pw_below_drewN | apply below_drew1 | refine below_set ?_ GE377.out | refine below_set ?_ GE378.out | refine below_set ?_ GE379.out | refine below_set ?_ GE397.out | refine below_set ?_ GE405.out) | exact HB.out))) : w.heap.size ≤ gb413)); have n8_ := Aside0.mk ((by rw [hg]; exact (below_size (by repeat (first | (with_reducible first | exact HB.out | apply below_alloc | apply pw_below_drewN | apply below_drew1 | refine below_set ?_ GE377.out | refine below_set ?_ GE378.out | refine below_set ?_ GE379.out | refine below_set ?_ GE397.out | refine below_set ?_ GE405.out) | exact HB.out))) : w.heap.size ≤ gb413)); have n9_ := Aside0.mk ((by rw [hg]; exact Nat.ne_of_lt (blk_lt (g := gb377) (by rp_; exact BK377.out)) : gb377 ≠ gb413)); have n10_ := Aside0.mk ((by rw [hg]; exact Nat.ne_of_gt (blk_lt (g := gb377) (by rp_; exact BK377.out)) : gb413 ≠ gb377)); have n11_ := Aside0.mk ((by rw [hg]; exact Nat.ne_of_lt (blk_lt (g := gb378) (by rp_; exact BK378.out)) : gb378 ≠ gb413)); have n12_ := Aside0.mk ((by rw [hg]; exact Nat.ne_of_gt (blk_lt (g := gb378) (by rp_; exact BK378.out)) : gb413 ≠ gb378)); have n13_ := Aside0.mk ((by rw [hg]; exact Nat.ne_of_lt (blk_lt (g := gb379) (by rp_; exact BK379.out)) : gb379 ≠ gb413)); have n14_ := Aside0.mk ((by rw [hg]; exact Nat.ne_of_gt (blk_lt (g := gb379) (by rp_; exact BK379.out)) : gb413 ≠ gb379)); have n15_ := Aside0.mk ((by rw [hg]; exact Nat.ne_of_lt (blk_lt (g := gb397) (by rp_; exact BK397.out)) : gb397 ≠ gb413)); have n16_ := Aside0.mk ((by rw [hg]; exact Nat.ne_of_gt (blk_lt (g := gb397) (by rp_; exact BK397.out)) : gb413 ≠ gb397)); have n17_ := Aside0.mk ((by rw [hg]; exact Nat.ne_of_lt (blk_lt (g := gb405) (by rp_; exact BK405.out)) : gb405 ≠ gb413)); have n18_ := Aside0.mk ((by rw [hg]; exact Nat.ne_of_gt (blk_lt (g := gb405) (by rp_; exact BK405.out)) : gb413 ≠ gb405)); clear BK377; clear BK378; clear BK379; clear BK397; clear BK405; clear HB; have BK377 := n0_; have BK378 := n1_; have BK379 := n2_; have BK397 := n3_; have BK405 := n4_; have HB := n5_; have BK413 := n6_; have GW413 := n7_; have GE413 := n8_; have NB377_413 := n9_; have NB413_377 := n10_; have NB378_413 := n11_; have NB413_378 := n12_; have NB379_413 := n13_; have NB413_379 := n14_; have NB397_413 := n15_; have NB413_397 := n16_; have NB405_413 := n17_; have NB413_405 := n18_; clear n0_ n1_ n2_ n3_ n4_ n5_ n6_ n7_ n8_ n9_ n10_ n11_ n12_ n13_ n14_ n15_ n16_ n17_ n18_; clear hb hbox hg; have hnb135 := NB413_377.out; have hnc135 := NB377_413.out; have hnb136 := NB413_378.out; have hnc136 := NB378_413.out; have hnb137 := NB413_379.out; have hnc137 := NB379_413.out; have hnb138 := NB413_397.out; have hnc138 := NB397_413.out; have hnb139 := NB413_405.out; have hnc139 := NB405_413.out; have hcz140_0 : w134.cell? ⟨gb413, 0, none⟩ = some (.int .i64 0) := (blk_cell BK413.out 0).trans rfl; have hcz140_1 : w134.cell? ⟨gb413, 1, none⟩ = some (.int .i64 0) := (blk_cell BK413.out 1).trans rfl; have hcz140_2 : w134.cell? ⟨gb413, 2, none⟩ = some (.int .i64 0) := (blk_cell BK413.out 2).trans rfl; have hcz140_3 : w134.cell? ⟨gb413, 3, none⟩ = some (.int .i64 0) := (blk_cell BK413.out 3).trans rfl; have hcz140_4 : w134.cell? ⟨gb413, 4, none⟩ = some (.int .i64 0) := (blk_cell BK413.out 4).trans rfl; have hcz140_5 : w134.cell? ⟨gb413, 5, none⟩ = some (.int .i32 0) := (blk_cell BK413.out 5).trans rfl; have hfz140_0 := blk_frozen BK413.out 0; have hfz140_1 := blk_frozen BK413.out 1; have hfz140_2 := blk_frozen BK413.out 2; have hfz140_3 := blk_frozen BK413.out 3; have hfz140_4 := blk_frozen BK413.out 4; have hfz140_5 := blk_frozen BK413.out 5))
          (try simp only [Act.put, List.setIfInBounds_toArray, List.set_cons_zero, List.set_cons_succ])
          go_cut [130] (fun v130 wc => ∃ (kq : Nat) (x130_109 : Bool), v130 = .bool x130_109 ∧ Aside0 (redpencillaw09_NodeHolds.j3 kq t396 t404 t412 x130_109 a0_0 a0_1 a0_2 a0_3 a0_4 a0_5 a2_0 a2_1 a2_2 a2_3 a2_4 a2_5 t390 t391 t392 t393 t394 t395 t398 t399 t400 t401 t402 t403 = some true) ∧ Aside0 (kq ≤ kj72) ∧ Aside0 (wc.heap[gb377]? = some (.cells #[.int .i64 a0_0, .int .i64 a0_1, .int .i64 a0_2, .int .i64 a0_3, .int .i64 a0_4, .int .i32 a0_5] 25 (0, 0))) ∧ Aside0 (wc.heap[gb378]? = some (.cells #[.int .i64 a1_0, .int .i64 a1_1, .int .i64 a1_2, .int .i64 a1_3, .int .i64 a1_4, .int .i32 a1_5] 25 (0, 0))) ∧ Aside0 (wc.heap[gb379]? = some (.cells #[.int .i64 a2_0, .int .i64 a2_1, .int .i64 a2_2, .int .i64 a2_3, .int .i64 a2_4, .int .i32 a2_5] 25 (0, 0))) ∧ Aside0 (wc.heap[gb397]? = some (.cells #[.int .i64 t390, .int .i64 t391, .int .i64 t392, .int .i64 t393, .int .i64 t394, .int .i32 t395] 25 (0, 0))) ∧ Aside0 (wc.heap[gb405]? = some (.cells #[.int .i64 t398, .int .i64 t399, .int .i64 t400, .int .i64 t401, .int .i64 t402, .int .i32 t403] 25 (0, 0))) ∧ Aside0 (wc.heap[gb413]? = some (.cells #[.int .i64 t406, .int .i64 t407, .int .i64 t408, .int .i64 t409, .int .i64 t410, .int .i32 t411] 25 (0, 0))) ∧ Aside0 (Below w.heap.size w wc))
          case first =>
           have H := HC110.out
           clear HC110
           replace H := Option.bind_eq_some_iff.mp H
           obtain ⟨t414, A1410, H⟩ := H
           replace H : (if t414 = true then (if t396 = 0 then ((node_Dead.f t390 t391 t392 t393 t394 t395).bind fun t415 => ((node_Dead.f a0_0 a0_1 a0_2 a0_3 a0_4 a0_5).bind fun t416 => (if t416 = true then (if (t415 != true) = true then (redpencillaw09_NodeHolds.j3 kj72 t396 t404 t412 true a0_0 a0_1 a0_2 a0_3 a0_4 a0_5 a2_0 a2_1 a2_2 a2_3 a2_4 a2_5 t390 t391 t392 t393 t394 t395 t398 t399 t400 t401 t402 t403) else ((node_Valid.f kj72 t390 t391 t392 t393 t394 t395).bind fun t417 => (redpencillaw09_NodeHolds.j3 kj72 t396 t404 t412 (!t417) a0_0 a0_1 a0_2 a0_3 a0_4 a0_5 a2_0 a2_1 a2_2 a2_3 a2_4 a2_5 t390 t391 t392 t393 t394 t395 t398 t399 t400 t401 t402 t403))) else ((node_Dead.f a1_0 a1_1 a1_2 a1_3 a1_4 a1_5).bind fun t418 => (if (t415 != t418) = true then (redpencillaw09_NodeHolds.j3 kj72 t396 t404 t412 true a0_0 a0_1 a0_2 a0_3 a0_4 a0_5 a2_0 a2_1 a2_2 a2_3 a2_4 a2_5 t390 t391 t392 t393 t394 t395 t398 t399 t400 t401 t402 t403) else ((node_Valid.f kj72 t390 t391 t392 t393 t394 t395).bind fun t419 => (redpencillaw09_NodeHolds.j3 kj72 t396 t404 t412 (!t419) a0_0 a0_1 a0_2 a0_3 a0_4 a0_5 a2_0 a2_1 a2_2 a2_3 a2_4 a2_5 t390 t391 t392 t393 t394 t395 t398 t399 t400 t401 t402 t403))))))) else (redpencillaw09_NodeHolds.j3 kj72 t396 t404 t412 false a0_0 a0_1 a0_2 a0_3 a0_4 a0_5 a2_0 a2_1 a2_2 a2_3 a2_4 a2_5 t390 t391 t392 t393 t394 t395 t398 t399 t400 t401 t402 t403)) else (redpencillaw09_NodeHolds.j3 kj72 t396 t404 t412 true a0_0 a0_1 a0_2 a0_3 a0_4 a0_5 a2_0 a2_1 a2_2 a2_3 a2_4 a2_5 t390 t391 t392 t393 t394 t395 t398 t399 t400 t401 t402 t403)) = some true := H
           have A141 := Aside0.mk A1410
           clear A1410
           by_cases c142 : t414 = true
           ·
            subst c142
            have H1 : (if t396 = 0 then ((node_Dead.f t390 t391 t392 t393 t394 t395).bind fun t415 => ((node_Dead.f a0_0 a0_1 a0_2 a0_3 a0_4 a0_5).bind fun t416 => (if t416 = true then (if (t415 != true) = true then (redpencillaw09_NodeHolds.j3 kj72 t396 t404 t412 true a0_0 a0_1 a0_2 a0_3 a0_4 a0_5 a2_0 a2_1 a2_2 a2_3 a2_4 a2_5 t390 t391 t392 t393 t394 t395 t398 t399 t400 t401 t402 t403) else ((node_Valid.f kj72 t390 t391 t392 t393 t394 t395).bind fun t417 => (redpencillaw09_NodeHolds.j3 kj72 t396 t404 t412 (!t417) a0_0 a0_1 a0_2 a0_3 a0_4 a0_5 a2_0 a2_1 a2_2 a2_3 a2_4 a2_5 t390 t391 t392 t393 t394 t395 t398 t399 t400 t401 t402 t403))) else ((node_Dead.f a1_0 a1_1 a1_2 a1_3 a1_4 a1_5).bind fun t418 => (if (t415 != t418) = true then (redpencillaw09_NodeHolds.j3 kj72 t396 t404 t412 true a0_0 a0_1 a0_2 a0_3 a0_4 a0_5 a2_0 a2_1 a2_2 a2_3 a2_4 a2_5 t390 t391 t392 t393 t394 t395 t398 t399 t400 t401 t402 t403) else ((node_Valid.f kj72 t390 t391 t392 t393 t394 t395).bind fun t419 => (redpencillaw09_NodeHolds.j3 kj72 t396 t404 t412 (!t419) a0_0 a0_1 a0_2 a0_3 a0_4 a0_5 a2_0 a2_1 a2_2 a2_3 a2_4 a2_5 t390 t391 t392 t393 t394 t395 t398 t399 t400 t401 t402 t403))))))) else (redpencillaw09_NodeHolds.j3 kj72 t396 t404 t412 false a0_0 a0_1 a0_2 a0_3 a0_4 a0_5 a2_0 a2_1 a2_2 a2_3 a2_4 a2_5 t390 t391 t392 t393 t394 t395 t398 t399 t400 t401 t402 t403)) = some true := by rw [if_pos rfl] at H; exact H
            clear H
            have H := H1
            clear H1
            by_cases c143 : t396 = 0
            ·
             rw [if_pos c143] at H
             have c143b0 : (t396 == 0) = true := beq_iff_eq.mpr c143
             have c143b1 : (t396 != 0) = false := bne_eq_false_iff_eq.mpr c143
             clear c143
             (first | rw [c143b0] | (simp only [i64_w, i32_w]; rw [c143b0]) | skip)
             replace H := Option.bind_eq_some_iff.mp H
             obtain ⟨t415, A1440, H⟩ := H
             replace H : ((node_Dead.f a0_0 a0_1 a0_2 a0_3 a0_4 a0_5).bind fun t416 => (if t416 = true then (if (t415 != true) = true then (redpencillaw09_NodeHolds.j3 kj72 t396 t404 t412 true a0_0 a0_1 a0_2 a0_3 a0_4 a0_5 a2_0 a2_1 a2_2 a2_3 a2_4 a2_5 t390 t391 t392 t393 t394 t395 t398 t399 t400 t401 t402 t403) else ((node_Valid.f kj72 t390 t391 t392 t393 t394 t395).bind fun t417 => (redpencillaw09_NodeHolds.j3 kj72 t396 t404 t412 (!t417) a0_0 a0_1 a0_2 a0_3 a0_4 a0_5 a2_0 a2_1 a2_2 a2_3 a2_4 a2_5 t390 t391 t392 t393 t394 t395 t398 t399 t400 t401 t402 t403))) else ((node_Dead.f a1_0 a1_1 a1_2 a1_3 a1_4 a1_5).bind fun t418 => (if (t415 != t418) = true then (redpencillaw09_NodeHolds.j3 kj72 t396 t404 t412 true a0_0 a0_1 a0_2 a0_3 a0_4 a0_5 a2_0 a2_1 a2_2 a2_3 a2_4 a2_5 t390 t391 t392 t393 t394 t395 t398 t399 t400 t401 t402 t403) else ((node_Valid.f kj72 t390 t391 t392 t393 t394 t395).bind fun t419 => (redpencillaw09_NodeHolds.j3 kj72 t396 t404 t412 (!t419) a0_0 a0_1 a0_2 a0_3 a0_4 a0_5 a2_0 a2_1 a2_2 a2_3 a2_4 a2_5 t390 t391 t392 t393 t394 t395 t398 t399 t400 t401 t402 t403)))))) = some true := H
             have A144 := Aside0.mk A1440
             clear A1440
             replace H := Option.bind_eq_some_iff.mp H
             obtain ⟨t416, A1450, H⟩ := H
             replace H : (if t416 = true then (if (t415 != true) = true then (redpencillaw09_NodeHolds.j3 kj72 t396 t404 t412 true a0_0 a0_1 a0_2 a0_3 a0_4 a0_5 a2_0 a2_1 a2_2 a2_3 a2_4 a2_5 t390 t391 t392 t393 t394 t395 t398 t399 t400 t401 t402 t403) else ((node_Valid.f kj72 t390 t391 t392 t393 t394 t395).bind fun t417 => (redpencillaw09_NodeHolds.j3 kj72 t396 t404 t412 (!t417) a0_0 a0_1 a0_2 a0_3 a0_4 a0_5 a2_0 a2_1 a2_2 a2_3 a2_4 a2_5 t390 t391 t392 t393 t394 t395 t398 t399 t400 t401 t402 t403))) else ((node_Dead.f a1_0 a1_1 a1_2 a1_3 a1_4 a1_5).bind fun t418 => (if (t415 != t418) = true then (redpencillaw09_NodeHolds.j3 kj72 t396 t404 t412 true a0_0 a0_1 a0_2 a0_3 a0_4 a0_5 a2_0 a2_1 a2_2 a2_3 a2_4 a2_5 t390 t391 t392 t393 t394 t395 t398 t399 t400 t401 t402 t403) else ((node_Valid.f kj72 t390 t391 t392 t393 t394 t395).bind fun t419 => (redpencillaw09_NodeHolds.j3 kj72 t396 t404 t412 (!t419) a0_0 a0_1 a0_2 a0_3 a0_4 a0_5 a2_0 a2_1 a2_2 a2_3 a2_4 a2_5 t390 t391 t392 t393 t394 t395 t398 t399 t400 t401 t402 t403))))) = some true := H
             have A145 := Aside0.mk A1450
             clear A1450
             by_cases c146 : t416 = true
             ·
              subst c146
              have H1 : (if (t415 != true) = true then (redpencillaw09_NodeHolds.j3 kj72 t396 t404 t412 true a0_0 a0_1 a0_2 a0_3 a0_4 a0_5 a2_0 a2_1 a2_2 a2_3 a2_4 a2_5 t390 t391 t392 t393 t394 t395 t398 t399 t400 t401 t402 t403) else ((node_Valid.f kj72 t390 t391 t392 t393 t394 t395).bind fun t417 => (redpencillaw09_NodeHolds.j3 kj72 t396 t404 t412 (!t417) a0_0 a0_1 a0_2 a0_3 a0_4 a0_5 a2_0 a2_1 a2_2 a2_3 a2_4 a2_5 t390 t391 t392 t393 t394 t395 t398 t399 t400 t401 t402 t403))) = some true := by rw [if_pos rfl] at H; exact H
              clear H
              have H := H1
              clear H1
              by_cases c147 : (t415 != true) = true
              ·
               rw [if_pos c147] at H
               exact absurd H (redpencillaw09_NodeHolds.j3_no _ _ _ _ _ _ _ _ _ _ _ _ _ _ _ _ _ _ _ _ _ _ _ _ _ _ _ _)
              ·
               rw [if_neg c147] at H
               have c147b0 : (t415 != true) = false := by simpa using c147
               (try (have c147b1 : decide (t415 = true) = true := by simpa using c147))
               (try (have c147b2 : (t415 == true) = true := by simpa using c147))
               clear c147
               replace H := Option.bind_eq_some_iff.mp H
               obtain ⟨t417, A1530, H⟩ := H
               replace H : (redpencillaw09_NodeHolds.j3 kj72 t396 t404 t412 (!t417) a0_0 a0_1 a0_2 a0_3 a0_4 a0_5 a2_0 a2_1 a2_2 a2_3 a2_4 a2_5 t390 t391 t392 t393 t394 t395 t398 t399 t400 t401 t402 t403) = some true := H
               have A153 := Aside0.mk A1530
               clear A1530
               have H' := Aside0.mk H
               clear H
               try go_wp2
               have n0_ : Aside0 (((((((w134.setCell ⟨gb413, 0, none⟩ (.int .i64 t406)).setCell ⟨gb413, 1, none⟩ (.int .i64 t407)).setCell ⟨gb413, 2, none⟩ (.int .i64 t408)).setCell ⟨gb413, 3, none⟩ (.int .i64 t409)).setCell ⟨gb413, 4, none⟩ (.int .i64 t410)).setCell ⟨gb413, 5, none⟩ (.int .i32 t411)).heap[gb377]? = some (.cells #[.int .i64 a0_0, .int .i64 a0_1, .int .i64 a0_2, .int .i64 a0_3, .int .i64 a0_4, .int .i32 a0_5] 25 (0, 0))) := ⟨by rp_; refine blk_far ?_ NB377_413.out _; rp_; refine blk_far ?_ NB377_413.out _; rp_; refine blk_far ?_ NB377_413.out _; rp_; refine blk_far ?_ NB377_413.out _; rp_; refine blk_far ?_ NB377_413.out _; rp_; refine blk_far ?_ NB377_413.out _; rp_; exact BK377.out⟩
               have n1_ : Aside0 (((((((w134.setCell ⟨gb413, 0, none⟩ (.int .i64 t406)).setCell ⟨gb413, 1, none⟩ (.int .i64 t407)).setCell ⟨gb413, 2, none⟩ (.int .i64 t408)).setCell ⟨gb413, 3, none⟩ (.int .i64 t409)).setCell ⟨gb413, 4, none⟩ (.int .i64 t410)).setCell ⟨gb413, 5, none⟩ (.int .i32 t411)).heap[gb378]? = some (.cells #[.int .i64 a1_0, .int .i64 a1_1, .int .i64 a1_2, .int .i64 a1_3, .int .i64 a1_4, .int .i32 a1_5] 25 (0, 0))) := ⟨by rp_; refine blk_far ?_ NB378_413.out _; rp_; refine blk_far ?_ NB378_413.out _; rp_; refine blk_far ?_ NB378_413.out _; rp_; refine blk_far ?_ NB378_413.out _; rp_; refine blk_far ?_ NB378_413.out _; rp_; refine blk_far ?_ NB378_413.out _; rp_; exact BK378.out⟩
               have n2_ : Aside0 (((((((w134.setCell ⟨gb413, 0, none⟩ (.int .i64 t406)).setCell ⟨gb413, 1, none⟩ (.int .i64 t407)).setCell ⟨gb413, 2, none⟩ (.int .i64 t408)).setCell ⟨gb413, 3, none⟩ (.int .i64 t409)).setCell ⟨gb413, 4, none⟩ (.int .i64 t410)).setCell ⟨gb413, 5, none⟩ (.int .i32 t411)).heap[gb379]? = some (.cells #[.int .i64 a2_0, .int .i64 a2_1, .int .i64 a2_2, .int .i64 a2_3, .int .i64 a2_4, .int .i32 a2_5] 25 (0, 0))) := ⟨by rp_; refine blk_far ?_ NB379_413.out _; rp_; refine blk_far ?_ NB379_413.out _; rp_; refine blk_far ?_ NB379_413.out _; rp_; refine blk_far ?_ NB379_413.out _; rp_; refine blk_far ?_ NB379_413.out _; rp_; refine blk_far ?_ NB379_413.out _; rp_; exact BK379.out⟩
               have n3_ : Aside0 (((((((w134.setCell ⟨gb413, 0, none⟩ (.int .i64 t406)).setCell ⟨gb413, 1, none⟩ (.int .i64 t407)).setCell ⟨gb413, 2, none⟩ (.int .i64 t408)).setCell ⟨gb413, 3, none⟩ (.int .i64 t409)).setCell ⟨gb413, 4, none⟩ (.int .i64 t410)).setCell ⟨gb413, 5, none⟩ (.int .i32 t411)).heap[gb397]? = some (.cells #[.int .i64 t390, .int .i64 t391, .int .i64 t392, .int .i64 t393, .int .i64 t394, .int .i32 t395] 25 (0, 0))) := ⟨by rp_; refine blk_far ?_ NB397_413.out _; rp_; refine blk_far ?_ NB397_413.out _; rp_; refine blk_far ?_ NB397_413.out _; rp_; refine blk_far ?_ NB397_413.out _; rp_; refine blk_far ?_ NB397_413.out _; rp_; refine blk_far ?_ NB397_413.out _; rp_; exact BK397.out⟩
               have n4_ : Aside0 (((((((w134.setCell ⟨gb413, 0, none⟩ (.int .i64 t406)).setCell ⟨gb413, 1, none⟩ (.int .i64 t407)).setCell ⟨gb413, 2, none⟩ (.int .i64 t408)).setCell ⟨gb413, 3, none⟩ (.int .i64 t409)).setCell ⟨gb413, 4, none⟩ (.int .i64 t410)).setCell ⟨gb413, 5, none⟩ (.int .i32 t411)).heap[gb405]? = some (.cells #[.int .i64 t398, .int .i64 t399, .int .i64 t400, .int .i64 t401, .int .i64 t402, .int .i32 t403] 25 (0, 0))) := ⟨by rp_; refine blk_far ?_ NB405_413.out _; rp_; refine blk_far ?_ NB405_413.out _; rp_; refine blk_far ?_ NB405_413.out _; rp_; refine blk_far ?_ NB405_413.out _; rp_; refine blk_far ?_ NB405_413.out _; rp_; refine blk_far ?_ NB405_413.out _; rp_; exact BK405.out⟩
               have n5_ : Aside0 (((((((w134.setCell ⟨gb413, 0, none⟩ (.int .i64 t406)).setCell ⟨gb413, 1, none⟩ (.int .i64 t407)).setCell ⟨gb413, 2, none⟩ (.int .i64 t408)).setCell ⟨gb413, 3, none⟩ (.int .i64 t409)).setCell ⟨gb413, 4, none⟩ (.int .i64 t410)).setCell ⟨gb413, 5, none⟩ (.int .i32 t411)).heap[gb413]? = some (.cells #[.int .i64 t406, .int .i64 t407, .int .i64 t408, .int .i64 t409, .int .i64 t410, .int .i32 t411] 25 (0, 0))) := ⟨by rp_; refine blk_put (cs := #[.int .i64 t406, .int .i64 t407, .int .i64 t408, .int .i64 t409, .int .i64 t410, .int .i32 0]) ?_ 5 _ rfl; rp_; refine blk_put (cs := #[.int .i64 t406, .int .i64 t407, .int .i64 t408, .int .i64 t409, .int .i64 0, .int .i32 0]) ?_ 4 _ rfl; rp_; refine blk_put (cs := #[.int .i64 t406, .int .i64 t407, .int .i64 t408, .int .i64 0, .int .i64 0, .int .i32 0]) ?_ 3 _ rfl; rp_; refine blk_put (cs := #[.int .i64 t406, .int .i64 t407, .int .i64 0, .int .i64 0, .int .i64 0, .int .i32 0]) ?_ 2 _ rfl; rp_; refine blk_put (cs := #[.int .i64 t406, .int .i64 0, .int .i64 0, .int .i64 0, .int .i64 0, .int .i32 0]) ?_ 1 _ rfl; rp_; refine blk_put (cs := #[.int .i64 0, .int .i64 0, .int .i64 0, .int .i64 0, .int .i64 0, .int .i32 0]) ?_ 0 _ rfl; rp_; exact BK413.out⟩
               have n6_ : Aside0 (Below w.heap.size w ((((((w134.setCell ⟨gb413, 0, none⟩ (.int .i64 t406)).setCell ⟨gb413, 1, none⟩ (.int .i64 t407)).setCell ⟨gb413, 2, none⟩ (.int .i64 t408)).setCell ⟨gb413, 3, none⟩ (.int .i64 t409)).setCell ⟨gb413, 4, none⟩ (.int .i64 t410)).setCell ⟨gb413, 5, none⟩ (.int .i32 t411))) := ⟨by repeat (first | (with_reducible first | exact HB.out | apply below_alloc | apply pw_below_drewN | apply below_drew1 | refine below_set ?_ GE377.out | refine below_set ?_ GE378.out | refine below_set ?_ GE379.out | refine below_set ?_ GE397.out | refine below_set ?_ GE405.out | refine below_set ?_ GE413.out) | exact HB.out)⟩
               (try clear BK377)
               (try clear BK378)
               (try clear BK379)
               (try clear BK397)
               (try clear BK405)
               (try clear BK413)
               (try clear HB)
               generalize ((((((w134.setCell ⟨gb413, 0, none⟩ (.int .i64 t406)).setCell ⟨gb413, 1, none⟩ (.int .i64 t407)).setCell ⟨gb413, 2, none⟩ (.int .i64 t408)).setCell ⟨gb413, 3, none⟩ (.int .i64 t409)).setCell ⟨gb413, 4, none⟩ (.int .i64 t410)).setCell ⟨gb413, 5, none⟩ (.int .i32 t411)) = w154 at n0_ n1_ n2_ n3_ n4_ n5_ n6_ ⊢
               have BK377 := n0_
               have BK378 := n1_
               have BK379 := n2_
               have BK397 := n3_
               have BK405 := n4_
               have BK413 := n5_
               have HB := n6_
               clear n0_ n1_ n2_ n3_ n4_ n5_ n6_
               have n0_ := Aside0.mk (blk_drew BK377.out)
               have n1_ := Aside0.mk (blk_drew BK378.out)
               have n2_ := Aside0.mk (blk_drew BK379.out)
               have n3_ := Aside0.mk (blk_drew BK397.out)
               have n4_ := Aside0.mk (blk_drew BK405.out)
               have n5_ := Aside0.mk (blk_drew BK413.out)
               have n6_ := Aside0.mk (below_drew1 HB.out)
               clear BK377
               clear BK378
               clear BK379
               clear BK397
               clear BK405
               clear BK413
               clear HB
               have BK377 := n0_
               have BK378 := n1_
               have BK379 := n2_
               have BK397 := n3_
               have BK405 := n4_
               have BK413 := n5_
               have HB := n6_
               clear n0_ n1_ n2_ n3_ n4_ n5_ n6_
               refine start_ (n := 26) (S := fun w' => w'.cell? ⟨gb378, 0, none⟩ = some (.int .i64 a1_0) ∧ w'.cell? ⟨gb378, 1, none⟩ = some (.int .i64 a1_1) ∧ w'.cell? ⟨gb378, 2, none⟩ = some (.int .i64 a1_2) ∧ w'.cell? ⟨gb378, 3, none⟩ = some (.int .i64 a1_3) ∧ w'.cell? ⟨gb378, 4, none⟩ = some (.int .i64 a1_4) ∧ w'.cell? ⟨gb378, 5, none⟩ = some (.int .i32 a1_5) ∧ w'.cell? ⟨gb377, 0, none⟩ = some (.int .i64 a0_0) ∧ w'.cell? ⟨gb377, 1, none⟩ = some (.int .i64 a0_1) ∧ w'.cell? ⟨gb377, 2, none⟩ = some (.int .i64 a0_2) ∧ w'.cell? ⟨gb377, 3, none⟩ = some (.int .i64 a0_3) ∧ w'.cell? ⟨gb377, 4, none⟩ = some (.int .i64 a0_4) ∧ w'.cell? ⟨gb377, 5, none⟩ = some (.int .i32 a0_5) ∧ w'.cell? ⟨gb397, 0, none⟩ = some (.int .i64 t390) ∧ w'.cell? ⟨gb397, 1, none⟩ = some (.int .i64 t391) ∧ w'.cell? ⟨gb397, 2, none⟩ = some (.int .i64 t392) ∧ w'.cell? ⟨gb397, 3, none⟩ = some (.int .i64 t393) ∧ w'.cell? ⟨gb397, 4, none⟩ = some (.int .i64 t394) ∧ w'.cell? ⟨gb397, 5, none⟩ = some (.int .i32 t395)) (ds := []) #[false, false, false, false, false, false, false, false, false, false, false, false, false, false, false, false, false, false, false, false, false, false, false, false, false, false] (by kernel_rfl) rfl rfl ⟨(blk_cell BK378.out 0).trans rfl, (blk_cell BK378.out 1).trans rfl, (blk_cell BK378.out 2).trans rfl, (blk_cell BK378.out 3).trans rfl, (blk_cell BK378.out 4).trans rfl, (blk_cell BK378.out 5).trans rfl, (blk_cell BK377.out 0).trans rfl, (blk_cell BK377.out 1).trans rfl, (blk_cell BK377.out 2).trans rfl, (blk_cell BK377.out 3).trans rfl, (blk_cell BK377.out 4).trans rfl, (blk_cell BK377.out 5).trans rfl, (blk_cell BK397.out 0).trans rfl, (blk_cell BK397.out 1).trans rfl, (blk_cell BK397.out 2).trans rfl, (blk_cell BK397.out 3).trans rfl, (blk_cell BK397.out 4).trans rfl, (blk_cell BK397.out 5).trans rfl⟩ (fun hHeld => ?_); refine with_tabW redpencillaw09_NodeHolds.tab12 redpencillaw09_NodeHolds.bits12 (fun HT_ HW_ => ?_)
               generalize w154.drew = w155 at BK377 BK378 BK379 BK397 BK405 BK413 HB hHeld ⊢
               refine pure_ (i := 3) (N := some 108) (v := ?_) (a' := ?_) #[false, false, false, true, false, false, false, false, false, false, false, false, false, false, false, false, false, false, false, false, false, false, false, false, false, false] rfl rfl (any_of HT_.out (by kernel_rfl)) (fun _ _ _ h => h) (Or.inl ⟨by rfl, ?_⟩) ?_ ?_
               rotate_left
               ·
                intro w'
                go_simp
                with_reducible rfl
               rotate_left
               ·
                pt_
                rfl
               refine take_ (i := 0) (N := some 105) (v := ?_) (a' := ?_) #[true, false, false, true, false, false, false, false, false, false, false, false, false, false, false, false, false, false, false, false, false, false, false, false, false, false] rfl rfl (take_ofW HT_.out HW_.out (by kernel_rfl)) (fun _ _ _ h => h) (Or.inl ⟨by rfl, ?_⟩) hHeld ?_ ?_
               rotate_left
               ·
                rintro w' ⟨s0, s1, s2, s3, s4, s5, s6, s7, s8, s9, s10, s11, s12, s13, s14, s15, s16, s17⟩
                go_simp
                with_reducible rfl
               rotate_left
               ·
                pt_
                rfl
               refine take_ (i := 1) (N := some 106) (v := ?_) (a' := ?_) #[true, true, false, true, false, false, false, false, false, false, false, false, false, false, false, false, false, false, false, false, false, false, false, false, false, false] rfl rfl (take_ofW HT_.out HW_.out (by kernel_rfl)) (fun _ _ _ h => h) (Or.inl ⟨by rfl, ?_⟩) hHeld ?_ ?_
               rotate_left
               ·
                rintro w' ⟨s0, s1, s2, s3, s4, s5, s6, s7, s8, s9, s10, s11, s12, s13, s14, s15, s16, s17⟩
                go_simp
                with_reducible rfl
               rotate_left
               ·
                pt_
                rfl
               refine take_ (i := 2) (N := some 107) (v := ?_) (a' := ?_) #[true, true, true, true, false, false, false, false, false, false, false, false, false, false, false, false, false, false, false, false, false, false, false, false, false, false] rfl rfl (take_ofW HT_.out HW_.out (by kernel_rfl)) (fun _ _ _ h => h) (Or.inl ⟨by rfl, ?_⟩) hHeld ?_ ?_
               rotate_left
               ·
                rintro w' ⟨s0, s1, s2, s3, s4, s5, s6, s7, s8, s9, s10, s11, s12, s13, s14, s15, s16, s17⟩
                go_simp
                with_reducible rfl
               rotate_left
               ·
                pt_
                rfl
               refine one_ (i := 4) (N := some 109) #[true, true, true, true, true, false, false, false, false, false, false, false, false, false, false, false, false, false, false, false, false, false, false, false, false, false] rfl rfl (one_of HT_.out (by kernel_rfl)) (by decide) (fun K hK => ?_)
               refine goes_ Tryz.func17 (by kernel_rfl) rfl #[.agg #[.int .i64 a1_0, .int .i64 a1_1, .int .i64 a1_2, .int .i64 a1_3, .int .i64 a1_4, .int .i32 a1_5], .agg #[.int .i64 a0_0, .int .i64 a0_1, .int .i64 a0_2, .int .i64 a0_3, .int .i64 a0_4, .int .i32 a0_5], .agg #[.int .i64 t390, .int .i64 t391, .int .i64 t392, .int .i64 t393, .int .i64 t394, .int .i32 t395], .int .i64 t396] (by rfl) rfl rfl (by (try simp only [List.map_toArray, List.map_cons, List.map_nil]); first | done | rfl | (simp only [List.length_drop, List.length_take]; rfl)) ?_
               with_reducible refine (redpencillaw09_merges.calls kj72 a1_0 a1_1 a1_2 a1_3 a1_4 a1_5 a0_0 a0_1 a0_2 a0_3 a0_4 a0_5 t390 t391 t392 t393 t394 t395 t396 true _ A141.out).mono ?_
               rintro e w156 ⟨rfl, hb⟩
               refine ⟨_, rfl, ?_⟩
               have n0_ := Aside0.mk (blk_below (g := gb377) (by rp_; exact BK377.out) hb)
               have n1_ := Aside0.mk (blk_below (g := gb378) (by rp_; exact BK378.out) hb)
               have n2_ := Aside0.mk (blk_below (g := gb379) (by rp_; exact BK379.out) hb)
               have n3_ := Aside0.mk (blk_below (g := gb397) (by rp_; exact BK397.out) hb)
               have n4_ := Aside0.mk (blk_below (g := gb405) (by rp_; exact BK405.out) hb)
               have n5_ := Aside0.mk (blk_below (g := gb413) (by rp_; exact BK413.out) hb)
               have n6_ := Aside0.mk (below_step (by repeat (first | (with_reducible first | exact HB.out | apply below_alloc | apply pw_below_drewN | apply below_drew1 | refine below_set ?_ GE377.out | refine below_set ?_ GE378.out | refine below_set ?_ GE379.out | refine below_set ?_ GE397.out | refine below_set ?_ GE405.out | refine below_set ?_ GE413.out) | exact HB.out)) hb)
               clear BK377
               clear BK378
               clear BK379
               clear BK397
               clear BK405
               clear BK413
               clear HB
               have BK377 := n0_
               have BK378 := n1_
               have BK379 := n2_
               have BK397 := n3_
               have BK405 := n4_
               have BK413 := n5_
               have HB := n6_
               clear n0_ n1_ n2_ n3_ n4_ n5_ n6_
               (try clear hb)
               (try clear hb2)
               (try clear hk)
               (try clear hi)
               refine hK.out _ _ ⟨(blk_cell BK378.out 0).trans rfl, (blk_cell BK378.out 1).trans rfl, (blk_cell BK378.out 2).trans rfl, (blk_cell BK378.out 3).trans rfl, (blk_cell BK378.out 4).trans rfl, (blk_cell BK378.out 5).trans rfl, (blk_cell BK377.out 0).trans rfl, (blk_cell BK377.out 1).trans rfl, (blk_cell BK377.out 2).trans rfl, (blk_cell BK377.out 3).trans rfl, (blk_cell BK377.out 4).trans rfl, (blk_cell BK377.out 5).trans rfl, (blk_cell BK397.out 0).trans rfl, (blk_cell BK397.out 1).trans rfl, (blk_cell BK397.out 2).trans rfl, (blk_cell BK397.out 3).trans rfl, (blk_cell BK397.out 4).trans rfl, (blk_cell BK397.out 5).trans rfl⟩ (fun hHeld => ?_)
               clear hK K
               refine norm_ (a' := ?_) ?_ ?_
               rotate_left
               ·
                show Act.put _ (some 109) _ = _
                pt_
                rfl
               refine pure_ (i := 5) (N := some 110) (v := ?_) (a' := ?_) #[true, true, true, true, true, true, false, false, false, false, false, false, false, false, false, false, false, false, false, false, false, false, false, false, false, false] rfl rfl (any_of HT_.out (by kernel_rfl)) (fun _ _ _ h => h) (Or.inl ⟨by rfl, ?_⟩) ?_ ?_
               rotate_left
               ·
                intro w'
                go_simp
                with_reducible rfl
               rotate_left
               ·
                pt_
                rfl
               refine pure_ (i := 6) (N := some 111) (v := ?_) (a' := ?_) #[true, true, true, true, true, true, true, false, false, false, false, false, false, false, false, false, false, false, false, false, false, false, false, false, false, false] rfl rfl (any_of HT_.out (by kernel_rfl)) (fun _ _ _ h => h) (Or.inl ⟨by rfl, ?_⟩) ?_ ?_
               rotate_left
               ·
                intro w'
                go_simp
                with_reducible rfl
               rotate_left
               ·
                pt_
                rfl
               refine pure_ (i := 7) (N := some 112) (v := ?_) (a' := ?_) #[true, true, true, true, true, true, true, true, false, false, false, false, false, false, false, false, false, false, false, false, false, false, false, false, false, false] rfl rfl (any_of HT_.out (by kernel_rfl)) (fun _ _ _ h => h) (Or.inl ⟨by rfl, ?_⟩) ?_ ?_
               rotate_left
               ·
                intro w'
                go_simp
                with_reducible rfl
               rotate_left
               ·
                pt_
                rfl
               refine pure_ (i := 8) (N := some 113) (v := ?_) (a' := ?_) #[true, true, true, true, true, true, true, true, true, false, false, false, false, false, false, false, false, false, false, false, false, false, false, false, false, false] rfl rfl (any_of HT_.out (by kernel_rfl)) (fun _ _ _ h => h) (Or.inl ⟨by rfl, ?_⟩) ?_ ?_
               rotate_left
               ·
                intro w'
                go_simp
                with_reducible rfl
               rotate_left
               ·
                pt_
                rfl
               refine pure_ (i := 9) (N := some 114) (v := ?_) (a' := ?_) #[true, true, true, true, true, true, true, true, true, true, false, false, false, false, false, false, false, false, false, false, false, false, false, false, false, false] rfl rfl (any_of HT_.out (by kernel_rfl)) (fun _ _ _ h => h) (Or.inl ⟨by rfl, ?_⟩) ?_ ?_
               rotate_left
               ·
                intro w'
                go_simp
                with_reducible rfl
               rotate_left
               ·
                pt_
                rfl
               refine take_ (i := 10) (N := some 115) (v := ?_) (a' := ?_) #[true, true, true, true, true, true, true, true, true, true, true, false, false, false, false, false, false, false, false, false, false, false, false, false, false, false] rfl rfl (take_ofW HT_.out HW_.out (by kernel_rfl)) (fun _ _ _ h => h) (Or.inl ⟨by rfl, ?_⟩) hHeld ?_ ?_
               rotate_left
               ·
                rintro w' ⟨s0, s1, s2, s3, s4, s5, s6, s7, s8, s9, s10, s11, s12, s13, s14, s15, s16, s17⟩
                go_simp
                with_reducible rfl
               rotate_left
               ·
                pt_
                rfl
               refine take_ (i := 12) (N := some 117) (v := ?_) (a' := ?_) #[true, true, true, true, true, true, true, true, true, true, true, false, true, false, false, false, false, false, false, false, false, false, false, false, false, false] rfl rfl (take_ofW HT_.out HW_.out (by kernel_rfl)) (fun _ _ _ h => h) (Or.inl ⟨by rfl, ?_⟩) hHeld ?_ ?_
               rotate_left
               ·
                rintro w' ⟨s0, s1, s2, s3, s4, s5, s6, s7, s8, s9, s10, s11, s12, s13, s14, s15, s16, s17⟩
                go_simp
                with_reducible rfl
               rotate_left
               ·
                pt_
                rfl
               refine one_ (i := 11) (N := some 116) #[true, true, true, true, true, true, true, true, true, true, true, true, true, false, false, false, false, false, false, false, false, false, false, false, false, false] rfl rfl (one_of HT_.out (by kernel_rfl)) (by decide) (fun K hK => ?_)
               refine goes_ Tryz.func19 (by kernel_rfl) rfl #[.agg #[.int .i64 t390, .int .i64 t391, .int .i64 t392, .int .i64 t393, .int .i64 t394, .int .i32 t395]] (by rfl) rfl rfl (by (try simp only [List.map_toArray, List.map_cons, List.map_nil]); first | done | rfl | (simp only [List.length_drop, List.length_take]; rfl)) ?_
               with_reducible refine (node_Dead.calls t390 t391 t392 t393 t394 t395 t415 _ A144.out).mono ?_
               rintro e w157 ⟨rfl, hb⟩
               refine ⟨_, rfl, ?_⟩
               have n0_ := Aside0.mk (blk_below (g := gb377) (by rp_; exact BK377.out) hb)
               have n1_ := Aside0.mk (blk_below (g := gb378) (by rp_; exact BK378.out) hb)
               have n2_ := Aside0.mk (blk_below (g := gb379) (by rp_; exact BK379.out) hb)
               have n3_ := Aside0.mk (blk_below (g := gb397) (by rp_; exact BK397.out) hb)
               have n4_ := Aside0.mk (blk_below (g := gb405) (by rp_; exact BK405.out) hb)
               have n5_ := Aside0.mk (blk_below (g := gb413) (by rp_; exact BK413.out) hb)
               have n6_ := Aside0.mk (below_step (by repeat (first | (with_reducible first | exact HB.out | apply below_alloc | apply pw_below_drewN | apply below_drew1 | refine below_set ?_ GE377.out | refine below_set ?_ GE378.out | refine below_set ?_ GE379.out | refine below_set ?_ GE397.out | refine below_set ?_ GE405.out | refine below_set ?_ GE413.out) | exact HB.out)) hb)
               clear BK377
               clear BK378
               clear BK379
               clear BK397
               clear BK405
               clear BK413
               clear HB
               have BK377 := n0_
               have BK378 := n1_
               have BK379 := n2_
               have BK397 := n3_
               have BK405 := n4_
               have BK413 := n5_
               have HB := n6_
               clear n0_ n1_ n2_ n3_ n4_ n5_ n6_
               (try clear hb)
               (try clear hb2)
               (try clear hk)
               (try clear hi)
               refine hK.out _ _ ⟨(blk_cell BK378.out 0).trans rfl, (blk_cell BK378.out 1).trans rfl, (blk_cell BK378.out 2).trans rfl, (blk_cell BK378.out 3).trans rfl, (blk_cell BK378.out 4).trans rfl, (blk_cell BK378.out 5).trans rfl, (blk_cell BK377.out 0).trans rfl, (blk_cell BK377.out 1).trans rfl, (blk_cell BK377.out 2).trans rfl, (blk_cell BK377.out 3).trans rfl, (blk_cell BK377.out 4).trans rfl, (blk_cell BK377.out 5).trans rfl, (blk_cell BK397.out 0).trans rfl, (blk_cell BK397.out 1).trans rfl, (blk_cell BK397.out 2).trans rfl, (blk_cell BK397.out 3).trans rfl, (blk_cell BK397.out 4).trans rfl, (blk_cell BK397.out 5).trans rfl⟩ (fun hHeld => ?_)
               clear hK K
               refine norm_ (a' := ?_) ?_ ?_
               rotate_left
               ·
                show Act.put _ (some 116) _ = _
                pt_
                rfl
               refine one_ (i := 13) (N := some 118) #[true, true, true, true, true, true, true, true, true, true, true, true, true, true, false, false, false, false, false, false, false, false, false, false, false, false] rfl rfl (one_of HT_.out (by kernel_rfl)) (by decide) (fun K hK => ?_)
               refine goes_ Tryz.func19 (by kernel_rfl) rfl #[.agg #[.int .i64 a0_0, .int .i64 a0_1, .int .i64 a0_2, .int .i64 a0_3, .int .i64 a0_4, .int .i32 a0_5]] (by rfl) rfl rfl (by (try simp only [List.map_toArray, List.map_cons, List.map_nil]); first | done | rfl | (simp only [List.length_drop, List.length_take]; rfl)) ?_
               with_reducible refine (node_Dead.calls a0_0 a0_1 a0_2 a0_3 a0_4 a0_5 true _ A145.out).mono ?_
               rintro e w158 ⟨rfl, hb⟩
               refine ⟨_, rfl, ?_⟩
               have n0_ := Aside0.mk (blk_below (g := gb377) (by rp_; exact BK377.out) hb)
               have n1_ := Aside0.mk (blk_below (g := gb378) (by rp_; exact BK378.out) hb)
               have n2_ := Aside0.mk (blk_below (g := gb379) (by rp_; exact BK379.out) hb)
               have n3_ := Aside0.mk (blk_below (g := gb397) (by rp_; exact BK397.out) hb)
               have n4_ := Aside0.mk (blk_below (g := gb405) (by rp_; exact BK405.out) hb)
               have n5_ := Aside0.mk (blk_below (g := gb413) (by rp_; exact BK413.out) hb)
               have n6_ := Aside0.mk (below_step (by repeat (first | (with_reducible first | exact HB.out | apply below_alloc | apply pw_below_drewN | apply below_drew1 | refine below_set ?_ GE377.out | refine below_set ?_ GE378.out | refine below_set ?_ GE379.out | refine below_set ?_ GE397.out | refine below_set ?_ GE405.out | refine below_set ?_ GE413.out) | exact HB.out)) hb)
               clear BK377
               clear BK378
               clear BK379
               clear BK397
               clear BK405
               clear BK413
               clear HB
               have BK377 := n0_
               have BK378 := n1_
               have BK379 := n2_
               have BK397 := n3_
               have BK405 := n4_
               have BK413 := n5_
               have HB := n6_
               clear n0_ n1_ n2_ n3_ n4_ n5_ n6_
               (try clear hb)
               (try clear hb2)
               (try clear hk)
               (try clear hi)
               refine hK.out _ _ ⟨(blk_cell BK378.out 0).trans rfl, (blk_cell BK378.out 1).trans rfl, (blk_cell BK378.out 2).trans rfl, (blk_cell BK378.out 3).trans rfl, (blk_cell BK378.out 4).trans rfl, (blk_cell BK378.out 5).trans rfl, (blk_cell BK377.out 0).trans rfl, (blk_cell BK377.out 1).trans rfl, (blk_cell BK377.out 2).trans rfl, (blk_cell BK377.out 3).trans rfl, (blk_cell BK377.out 4).trans rfl, (blk_cell BK377.out 5).trans rfl, (blk_cell BK397.out 0).trans rfl, (blk_cell BK397.out 1).trans rfl, (blk_cell BK397.out 2).trans rfl, (blk_cell BK397.out 3).trans rfl, (blk_cell BK397.out 4).trans rfl, (blk_cell BK397.out 5).trans rfl⟩ (fun hHeld => ?_)
               clear hK K
               refine norm_ (a' := ?_) ?_ ?_
               rotate_left
               ·
                show Act.put _ (some 118) _ = _
                pt_
                rfl
               refine pure_ (i := 14) (N := some 119) (v := ?_) (a' := ?_) #[true, true, true, true, true, true, true, true, true, true, true, true, true, true, true, false, false, false, false, false, false, false, false, false, false, false] rfl rfl (any_of HT_.out (by kernel_rfl)) (fun _ _ _ h => h) (Or.inl ⟨by rfl, ?_⟩) ?_ ?_
               rotate_left
               ·
                intro w'
                go_simp
                with_reducible rfl
               rotate_left
               ·
                pt_
                rfl
               refine pure_ (i := 15) (N := some 120) (v := undef) (a' := ?_) #[true, true, true, true, true, true, true, true, true, true, true, true, true, true, true, true, false, false, false, false, false, false, false, false, false, false] rfl rfl (any_of HT_.out (by kernel_rfl)) (fun _ _ _ h => h) (Or.inr ⟨by rfl, rfl⟩) ?_ ?_
               rotate_left
               ·
                pt_
                rfl
               refine pure_ (i := 16) (N := some 121) (v := undef) (a' := ?_) #[true, true, true, true, true, true, true, true, true, true, true, true, true, true, true, true, true, false, false, false, false, false, false, false, false, false] rfl rfl (any_of HT_.out (by kernel_rfl)) (fun _ _ _ h => h) (Or.inr ⟨by rfl, rfl⟩) ?_ ?_
               rotate_left
               ·
                pt_
                rfl
               refine pure_ (i := 17) (N := some 122) (v := ?_) (a' := ?_) #[true, true, true, true, true, true, true, true, true, true, true, true, true, true, true, true, true, true, false, false, false, false, false, false, false, false] rfl rfl (any_of HT_.out (by kernel_rfl)) (fun _ _ _ h => h) (Or.inl ⟨by rfl, ?_⟩) ?_ ?_
               rotate_left
               ·
                intro w'
                go_simp
                with_reducible rfl
               rotate_left
               ·
                pt_
                rfl
               refine pure_ (i := 18) (N := some 123) (v := ?_) (a' := ?_) #[true, true, true, true, true, true, true, true, true, true, true, true, true, true, true, true, true, true, true, false, false, false, false, false, false, false] rfl rfl (any_of HT_.out (by kernel_rfl)) (fun _ _ _ h => h) (Or.inl ⟨by rfl, ?_⟩) ?_ ?_
               rotate_left
               ·
                intro w'
                go_simp
                with_reducible rfl
               rotate_left
               ·
                pt_
                rfl
               refine pure_ (i := 19) (N := some 124) (v := ?_) (a' := ?_) #[true, true, true, true, true, true, true, true, true, true, true, true, true, true, true, true, true, true, true, true, false, false, false, false, false, false] rfl rfl (any_of HT_.out (by kernel_rfl)) (fun _ _ _ h => h) (Or.inl ⟨by rfl, ?_⟩) ?_ ?_
               rotate_left
               ·
                intro w'
                go_simp
                with_reducible rfl
               rotate_left
               ·
                pt_
                rfl
               refine take_ (i := 20) (N := some 125) (v := ?_) (a' := ?_) #[true, true, true, true, true, true, true, true, true, true, true, true, true, true, true, true, true, true, true, true, true, false, false, false, false, false] rfl rfl (take_ofW HT_.out HW_.out (by kernel_rfl)) (fun _ _ _ h => h) (Or.inl ⟨by rfl, ?_⟩) hHeld ?_ ?_
               rotate_left
               ·
                rintro w' ⟨s0, s1, s2, s3, s4, s5, s6, s7, s8, s9, s10, s11, s12, s13, s14, s15, s16, s17⟩
                go_simp
                with_reducible rfl
               rotate_left
               ·
                pt_
                rfl
               refine one_ (i := 21) (N := some 126) #[true, true, true, true, true, true, true, true, true, true, true, true, true, true, true, true, true, true, true, true, true, true, false, false, false, false] rfl rfl (one_of HT_.out (by kernel_rfl)) (by decide) (fun K hK => ?_)
               refine goes_ Tryz.func16 (by kernel_rfl) rfl #[.agg #[.int .i64 t390, .int .i64 t391, .int .i64 t392, .int .i64 t393, .int .i64 t394, .int .i32 t395]] (by rfl) rfl rfl (by (try simp only [List.map_toArray, List.map_cons, List.map_nil]); first | done | rfl | (simp only [List.length_drop, List.length_take]; rfl)) ?_
               with_reducible refine (node_Valid.calls kj72 t390 t391 t392 t393 t394 t395 t417 _ A153.out).mono ?_
               rintro e w159 ⟨rfl, hb⟩
               refine ⟨_, rfl, ?_⟩
               have n0_ := Aside0.mk (blk_below (g := gb377) (by rp_; exact BK377.out) hb)
               have n1_ := Aside0.mk (blk_below (g := gb378) (by rp_; exact BK378.out) hb)
               have n2_ := Aside0.mk (blk_below (g := gb379) (by rp_; exact BK379.out) hb)
               have n3_ := Aside0.mk (blk_below (g := gb397) (by rp_; exact BK397.out) hb)
               have n4_ := Aside0.mk (blk_below (g := gb405) (by rp_; exact BK405.out) hb)
               have n5_ := Aside0.mk (blk_below (g := gb413) (by rp_; exact BK413.out) hb)
               have n6_ := Aside0.mk (below_step (by repeat (first | (with_reducible first | exact HB.out | apply below_alloc | apply pw_below_drewN | apply below_drew1 | refine below_set ?_ GE377.out | refine below_set ?_ GE378.out | refine below_set ?_ GE379.out | refine below_set ?_ GE397.out | refine below_set ?_ GE405.out | refine below_set ?_ GE413.out) | exact HB.out)) hb)
               clear BK377
               clear BK378
               clear BK379
               clear BK397
               clear BK405
               clear BK413
               clear HB
               have BK377 := n0_
               have BK378 := n1_
               have BK379 := n2_
               have BK397 := n3_
               have BK405 := n4_
               have BK413 := n5_
               have HB := n6_
               clear n0_ n1_ n2_ n3_ n4_ n5_ n6_
               (try clear hb)
               (try clear hb2)
               (try clear hk)
               (try clear hi)
               refine hK.out _ _ ⟨(blk_cell BK378.out 0).trans rfl, (blk_cell BK378.out 1).trans rfl, (blk_cell BK378.out 2).trans rfl, (blk_cell BK378.out 3).trans rfl, (blk_cell BK378.out 4).trans rfl, (blk_cell BK378.out 5).trans rfl, (blk_cell BK377.out 0).trans rfl, (blk_cell BK377.out 1).trans rfl, (blk_cell BK377.out 2).trans rfl, (blk_cell BK377.out 3).trans rfl, (blk_cell BK377.out 4).trans rfl, (blk_cell BK377.out 5).trans rfl, (blk_cell BK397.out 0).trans rfl, (blk_cell BK397.out 1).trans rfl, (blk_cell BK397.out 2).trans rfl, (blk_cell BK397.out 3).trans rfl, (blk_cell BK397.out 4).trans rfl, (blk_cell BK397.out 5).trans rfl⟩ (fun hHeld => ?_)
               clear hK K
               refine norm_ (a' := ?_) ?_ ?_
               rotate_left
               ·
                show Act.put _ (some 126) _ = _
                pt_
                rfl
               refine pure_ (i := 22) (N := some 127) (v := ?_) (a' := ?_) #[true, true, true, true, true, true, true, true, true, true, true, true, true, true, true, true, true, true, true, true, true, true, true, false, false, false] rfl rfl (any_of HT_.out (by kernel_rfl)) (fun _ _ _ h => h) (Or.inl ⟨by rfl, ?_⟩) ?_ ?_
               rotate_left
               ·
                intro w'
                go_simp
                with_reducible rfl
               rotate_left
               ·
                pt_
                rfl
               refine pure_ (i := 23) (N := some 128) (v := ?_) (a' := ?_) #[true, true, true, true, true, true, true, true, true, true, true, true, true, true, true, true, true, true, true, true, true, true, true, true, false, false] rfl rfl (any_of HT_.out (by kernel_rfl)) (fun _ _ _ h => h) (Or.inl ⟨by rfl, ?_⟩) ?_ ?_
               rotate_left
               ·
                intro w'
                go_simp
                with_reducible rfl
               rotate_left
               ·
                pt_
                rfl
               refine pure_ (i := 24) (N := some 129) (v := ?_) (a' := ?_) #[true, true, true, true, true, true, true, true, true, true, true, true, true, true, true, true, true, true, true, true, true, true, true, true, true, false] rfl rfl (any_of HT_.out (by kernel_rfl)) (fun _ _ _ h => h) (Or.inl ⟨by rfl, ?_⟩) ?_ ?_
               rotate_left
               ·
                intro w'
                go_simp
                with_reducible rfl
               rotate_left
               ·
                pt_
                rfl
               refine pure_ (i := 25) (N := some 130) (v := ?_) (a' := ?_) #[true, true, true, true, true, true, true, true, true, true, true, true, true, true, true, true, true, true, true, true, true, true, true, true, true, true] rfl rfl (any_of HT_.out (by kernel_rfl)) (fun _ _ _ h => h) (Or.inl ⟨by rfl, ?_⟩) ?_ ?_
               rotate_left
               ·
                intro w'
                go_simp
                with_reducible rfl
               rotate_left
               ·
                pt_
                rfl
               refine done_ (done_of HT_.out (by kernel_rfl)) ?_
               try go_wp2
               go_meet
               case rel => exact ⟨_, (!t417), (by first | rfl | (simp; done) | (simp [*]; done)), H', ⟨by have := HJ5.out; have := HJ37.out; have := HJ72.out; first | omega | exact Nat.le_refl _⟩, ⟨by rp_; exact BK377.out⟩, ⟨by rp_; exact BK378.out⟩, ⟨by rp_; exact BK379.out⟩, ⟨by rp_; exact BK397.out⟩, ⟨by rp_; exact BK405.out⟩, ⟨by rp_; exact BK413.out⟩, ⟨by repeat (first | (with_reducible first | exact HB.out | apply below_alloc | apply pw_below_drewN | apply below_drew1 | refine below_set ?_ GE377.out | refine below_set ?_ GE378.out | refine below_set ?_ GE379.out | refine below_set ?_ GE397.out | refine below_set ?_ GE405.out | refine below_set ?_ GE413.out) | exact HB.out)⟩⟩
             ·
              replace c146 := Bool.eq_false_iff.mpr c146
              subst c146
              have H1 : ((node_Dead.f a1_0 a1_1 a1_2 a1_3 a1_4 a1_5).bind fun t418 => (if (t415 != t418) = true then (redpencillaw09_NodeHolds.j3 kj72 t396 t404 t412 true a0_0 a0_1 a0_2 a0_3 a0_4 a0_5 a2_0 a2_1 a2_2 a2_3 a2_4 a2_5 t390 t391 t392 t393 t394 t395 t398 t399 t400 t401 t402 t403) else ((node_Valid.f kj72 t390 t391 t392 t393 t394 t395).bind fun t419 => (redpencillaw09_NodeHolds.j3 kj72 t396 t404 t412 (!t419) a0_0 a0_1 a0_2 a0_3 a0_4 a0_5 a2_0 a2_1 a2_2 a2_3 a2_4 a2_5 t390 t391 t392 t393 t394 t395 t398 t399 t400 t401 t402 t403)))) = some true := by rw [if_neg (show ¬ (false = true) by decide)] at H; exact H
              clear H
              have H := H1
              clear H1
              replace H := Option.bind_eq_some_iff.mp H
              obtain ⟨t418, A1600, H⟩ := H
              replace H : (if (t415 != t418) = true then (redpencillaw09_NodeHolds.j3 kj72 t396 t404 t412 true a0_0 a0_1 a0_2 a0_3 a0_4 a0_5 a2_0 a2_1 a2_2 a2_3 a2_4 a2_5 t390 t391 t392 t393 t394 t395 t398 t399 t400 t401 t402 t403) else ((node_Valid.f kj72 t390 t391 t392 t393 t394 t395).bind fun t419 => (redpencillaw09_NodeHolds.j3 kj72 t396 t404 t412 (!t419) a0_0 a0_1 a0_2 a0_3 a0_4 a0_5 a2_0 a2_1 a2_2 a2_3 a2_4 a2_5 t390 t391 t392 t393 t394 t395 t398 t399 t400 t401 t402 t403))) = some true := H
              have A160 := Aside0.mk A1600
              clear A1600
              by_cases c161 : (t415 != t418) = true
              ·
               rw [if_pos c161] at H
               exact absurd H (redpencillaw09_NodeHolds.j3_no _ _ _ _ _ _ _ _ _ _ _ _ _ _ _ _ _ _ _ _ _ _ _ _ _ _ _ _)
              ·
               rw [if_neg c161] at H
               have c161b0 : (t415 != t418) = false := by simpa using c161
               (try (have c161b1 : decide (t415 = t418) = true := by simpa using c161))
               (try (have c161b2 : (t415 == t418) = true := by simpa using c161))
               clear c161
               replace H := Option.bind_eq_some_iff.mp H
               obtain ⟨t419, A1680, H⟩ := H
               replace H : (redpencillaw09_NodeHolds.j3 kj72 t396 t404 t412 (!t419) a0_0 a0_1 a0_2 a0_3 a0_4 a0_5 a2_0 a2_1 a2_2 a2_3 a2_4 a2_5 t390 t391 t392 t393 t394 t395 t398 t399 t400 t401 t402 t403) = some true := H
               have A168 := Aside0.mk A1680
               clear A1680
               have H' := Aside0.mk H
               clear H
               try go_wp2
               have n0_ : Aside0 (((((((w134.setCell ⟨gb413, 0, none⟩ (.int .i64 t406)).setCell ⟨gb413, 1, none⟩ (.int .i64 t407)).setCell ⟨gb413, 2, none⟩ (.int .i64 t408)).setCell ⟨gb413, 3, none⟩ (.int .i64 t409)).setCell ⟨gb413, 4, none⟩ (.int .i64 t410)).setCell ⟨gb413, 5, none⟩ (.int .i32 t411)).heap[gb377]? = some (.cells #[.int .i64 a0_0, .int .i64 a0_1, .int .i64 a0_2, .int .i64 a0_3, .int .i64 a0_4, .int .i32 a0_5] 25 (0, 0))) := ⟨by rp_; refine blk_far ?_ NB377_413.out _; rp_; refine blk_far ?_ NB377_413.out _; rp_; refine blk_far ?_ NB377_413.out _; rp_; refine blk_far ?_ NB377_413.out _; rp_; refine blk_far ?_ NB377_413.out _; rp_; refine blk_far ?_ NB377_413.out _; rp_; exact BK377.out⟩
               have n1_ : Aside0 (((((((w134.setCell ⟨gb413, 0, none⟩ (.int .i64 t406)).setCell ⟨gb413, 1, none⟩ (.int .i64 t407)).setCell ⟨gb413, 2, none⟩ (.int .i64 t408)).setCell ⟨gb413, 3, none⟩ (.int .i64 t409)).setCell ⟨gb413, 4, none⟩ (.int .i64 t410)).setCell ⟨gb413, 5, none⟩ (.int .i32 t411)).heap[gb378]? = some (.cells #[.int .i64 a1_0, .int .i64 a1_1, .int .i64 a1_2, .int .i64 a1_3, .int .i64 a1_4, .int .i32 a1_5] 25 (0, 0))) := ⟨by rp_; refine blk_far ?_ NB378_413.out _; rp_; refine blk_far ?_ NB378_413.out _; rp_; refine blk_far ?_ NB378_413.out _; rp_; refine blk_far ?_ NB378_413.out _; rp_; refine blk_far ?_ NB378_413.out _; rp_; refine blk_far ?_ NB378_413.out _; rp_; exact BK378.out⟩
               have n2_ : Aside0 (((((((w134.setCell ⟨gb413, 0, none⟩ (.int .i64 t406)).setCell ⟨gb413, 1, none⟩ (.int .i64 t407)).setCell ⟨gb413, 2, none⟩ (.int .i64 t408)).setCell ⟨gb413, 3, none⟩ (.int .i64 t409)).setCell ⟨gb413, 4, none⟩ (.int .i64 t410)).setCell ⟨gb413, 5, none⟩ (.int .i32 t411)).heap[gb379]? = some (.cells #[.int .i64 a2_0, .int .i64 a2_1, .int .i64 a2_2, .int .i64 a2_3, .int .i64 a2_4, .int .i32 a2_5] 25 (0, 0))) := ⟨by rp_; refine blk_far ?_ NB379_413.out _; rp_; refine blk_far ?_ NB379_413.out _; rp_; refine blk_far ?_ NB379_413.out _; rp_; refine blk_far ?_ NB379_413.out _; rp_; refine blk_far ?_ NB379_413.out _; rp_; refine blk_far ?_ NB379_413.out _; rp_; exact BK379.out⟩
               have n3_ : Aside0 (((((((w134.setCell ⟨gb413, 0, none⟩ (.int .i64 t406)).setCell ⟨gb413, 1, none⟩ (.int .i64 t407)).setCell ⟨gb413, 2, none⟩ (.int .i64 t408)).setCell ⟨gb413, 3, none⟩ (.int .i64 t409)).setCell ⟨gb413, 4, none⟩ (.int .i64 t410)).setCell ⟨gb413, 5, none⟩ (.int .i32 t411)).heap[gb397]? = some (.cells #[.int .i64 t390, .int .i64 t391, .int .i64 t392, .int .i64 t393, .int .i64 t394, .int .i32 t395] 25 (0, 0))) := ⟨by rp_; refine blk_far ?_ NB397_413.out _; rp_; refine blk_far ?_ NB397_413.out _; rp_; refine blk_far ?_ NB397_413.out _; rp_; refine blk_far ?_ NB397_413.out _; rp_; refine blk_far ?_ NB397_413.out _; rp_; refine blk_far ?_ NB397_413.out _; rp_; exact BK397.out⟩
               have n4_ : Aside0 (((((((w134.setCell ⟨gb413, 0, none⟩ (.int .i64 t406)).setCell ⟨gb413, 1, none⟩ (.int .i64 t407)).setCell ⟨gb413, 2, none⟩ (.int .i64 t408)).setCell ⟨gb413, 3, none⟩ (.int .i64 t409)).setCell ⟨gb413, 4, none⟩ (.int .i64 t410)).setCell ⟨gb413, 5, none⟩ (.int .i32 t411)).heap[gb405]? = some (.cells #[.int .i64 t398, .int .i64 t399, .int .i64 t400, .int .i64 t401, .int .i64 t402, .int .i32 t403] 25 (0, 0))) := ⟨by rp_; refine blk_far ?_ NB405_413.out _; rp_; refine blk_far ?_ NB405_413.out _; rp_; refine blk_far ?_ NB405_413.out _; rp_; refine blk_far ?_ NB405_413.out _; rp_; refine blk_far ?_ NB405_413.out _; rp_; refine blk_far ?_ NB405_413.out _; rp_; exact BK405.out⟩
               have n5_ : Aside0 (((((((w134.setCell ⟨gb413, 0, none⟩ (.int .i64 t406)).setCell ⟨gb413, 1, none⟩ (.int .i64 t407)).setCell ⟨gb413, 2, none⟩ (.int .i64 t408)).setCell ⟨gb413, 3, none⟩ (.int .i64 t409)).setCell ⟨gb413, 4, none⟩ (.int .i64 t410)).setCell ⟨gb413, 5, none⟩ (.int .i32 t411)).heap[gb413]? = some (.cells #[.int .i64 t406, .int .i64 t407, .int .i64 t408, .int .i64 t409, .int .i64 t410, .int .i32 t411] 25 (0, 0))) := ⟨by rp_; refine blk_put (cs := #[.int .i64 t406, .int .i64 t407, .int .i64 t408, .int .i64 t409, .int .i64 t410, .int .i32 0]) ?_ 5 _ rfl; rp_; refine blk_put (cs := #[.int .i64 t406, .int .i64 t407, .int .i64 t408, .int .i64 t409, .int .i64 0, .int .i32 0]) ?_ 4 _ rfl; rp_; refine blk_put (cs := #[.int .i64 t406, .int .i64 t407, .int .i64 t408, .int .i64 0, .int .i64 0, .int .i32 0]) ?_ 3 _ rfl; rp_; refine blk_put (cs := #[.int .i64 t406, .int .i64 t407, .int .i64 0, .int .i64 0, .int .i64 0, .int .i32 0]) ?_ 2 _ rfl; rp_; refine blk_put (cs := #[.int .i64 t406, .int .i64 0, .int .i64 0, .int .i64 0, .int .i64 0, .int .i32 0]) ?_ 1 _ rfl; rp_; refine blk_put (cs := #[.int .i64 0, .int .i64 0, .int .i64 0, .int .i64 0, .int .i64 0, .int .i32 0]) ?_ 0 _ rfl; rp_; exact BK413.out⟩
               have n6_ : Aside0 (Below w.heap.size w ((((((w134.setCell ⟨gb413, 0, none⟩ (.int .i64 t406)).setCell ⟨gb413, 1, none⟩ (.int .i64 t407)).setCell ⟨gb413, 2, none⟩ (.int .i64 t408)).setCell ⟨gb413, 3, none⟩ (.int .i64 t409)).setCell ⟨gb413, 4, none⟩ (.int .i64 t410)).setCell ⟨gb413, 5, none⟩ (.int .i32 t411))) := ⟨by repeat (first | (with_reducible first | exact HB.out | apply below_alloc | apply pw_below_drewN | apply below_drew1 | refine below_set ?_ GE377.out | refine below_set ?_ GE378.out | refine below_set ?_ GE379.out | refine below_set ?_ GE397.out | refine below_set ?_ GE405.out | refine below_set ?_ GE413.out) | exact HB.out)⟩
               (try clear BK377)
               (try clear BK378)
               (try clear BK379)
               (try clear BK397)
               (try clear BK405)
               (try clear BK413)
               (try clear HB)
               generalize ((((((w134.setCell ⟨gb413, 0, none⟩ (.int .i64 t406)).setCell ⟨gb413, 1, none⟩ (.int .i64 t407)).setCell ⟨gb413, 2, none⟩ (.int .i64 t408)).setCell ⟨gb413, 3, none⟩ (.int .i64 t409)).setCell ⟨gb413, 4, none⟩ (.int .i64 t410)).setCell ⟨gb413, 5, none⟩ (.int .i32 t411)) = w169 at n0_ n1_ n2_ n3_ n4_ n5_ n6_ ⊢
               have BK377 := n0_
               have BK378 := n1_
               have BK379 := n2_
               have BK397 := n3_
               have BK405 := n4_
               have BK413 := n5_
               have HB := n6_
               clear n0_ n1_ n2_ n3_ n4_ n5_ n6_
               have n0_ := Aside0.mk (blk_drew BK377.out)
               have n1_ := Aside0.mk (blk_drew BK378.out)
               have n2_ := Aside0.mk (blk_drew BK379.out)
               have n3_ := Aside0.mk (blk_drew BK397.out)
               have n4_ := Aside0.mk (blk_drew BK405.out)
               have n5_ := Aside0.mk (blk_drew BK413.out)
               have n6_ := Aside0.mk (below_drew1 HB.out)
               clear BK377
               clear BK378
               clear BK379
               clear BK397
               clear BK405
               clear BK413
               clear HB
               have BK377 := n0_
               have BK378 := n1_
               have BK379 := n2_
               have BK397 := n3_
               have BK405 := n4_
               have BK413 := n5_
               have HB := n6_
               clear n0_ n1_ n2_ n3_ n4_ n5_ n6_
               refine start_ (n := 26) (S := fun w' => w'.cell? ⟨gb378, 0, none⟩ = some (.int .i64 a1_0) ∧ w'.cell? ⟨gb378, 1, none⟩ = some (.int .i64 a1_1) ∧ w'.cell? ⟨gb378, 2, none⟩ = some (.int .i64 a1_2) ∧ w'.cell? ⟨gb378, 3, none⟩ = some (.int .i64 a1_3) ∧ w'.cell? ⟨gb378, 4, none⟩ = some (.int .i64 a1_4) ∧ w'.cell? ⟨gb378, 5, none⟩ = some (.int .i32 a1_5) ∧ w'.cell? ⟨gb377, 0, none⟩ = some (.int .i64 a0_0) ∧ w'.cell? ⟨gb377, 1, none⟩ = some (.int .i64 a0_1) ∧ w'.cell? ⟨gb377, 2, none⟩ = some (.int .i64 a0_2) ∧ w'.cell? ⟨gb377, 3, none⟩ = some (.int .i64 a0_3) ∧ w'.cell? ⟨gb377, 4, none⟩ = some (.int .i64 a0_4) ∧ w'.cell? ⟨gb377, 5, none⟩ = some (.int .i32 a0_5) ∧ w'.cell? ⟨gb397, 0, none⟩ = some (.int .i64 t390) ∧ w'.cell? ⟨gb397, 1, none⟩ = some (.int .i64 t391) ∧ w'.cell? ⟨gb397, 2, none⟩ = some (.int .i64 t392) ∧ w'.cell? ⟨gb397, 3, none⟩ = some (.int .i64 t393) ∧ w'.cell? ⟨gb397, 4, none⟩ = some (.int .i64 t394) ∧ w'.cell? ⟨gb397, 5, none⟩ = some (.int .i32 t395)) (ds := []) #[false, false, false, false, false, false, false, false, false, false, false, false, false, false, false, false, false, false, false, false, false, false, false, false, false, false] (by kernel_rfl) rfl rfl ⟨(blk_cell BK378.out 0).trans rfl, (blk_cell BK378.out 1).trans rfl, (blk_cell BK378.out 2).trans rfl, (blk_cell BK378.out 3).trans rfl, (blk_cell BK378.out 4).trans rfl, (blk_cell BK378.out 5).trans rfl, (blk_cell BK377.out 0).trans rfl, (blk_cell BK377.out 1).trans rfl, (blk_cell BK377.out 2).trans rfl, (blk_cell BK377.out 3).trans rfl, (blk_cell BK377.out 4).trans rfl, (blk_cell BK377.out 5).trans rfl, (blk_cell BK397.out 0).trans rfl, (blk_cell BK397.out 1).trans rfl, (blk_cell BK397.out 2).trans rfl, (blk_cell BK397.out 3).trans rfl, (blk_cell BK397.out 4).trans rfl, (blk_cell BK397.out 5).trans rfl⟩ (fun hHeld => ?_); refine with_tabW redpencillaw09_NodeHolds.tab12 redpencillaw09_NodeHolds.bits12 (fun HT_ HW_ => ?_)
               generalize w169.drew = w170 at BK377 BK378 BK379 BK397 BK405 BK413 HB hHeld ⊢
               refine pure_ (i := 3) (N := some 108) (v := ?_) (a' := ?_) #[false, false, false, true, false, false, false, false, false, false, false, false, false, false, false, false, false, false, false, false, false, false, false, false, false, false] rfl rfl (any_of HT_.out (by kernel_rfl)) (fun _ _ _ h => h) (Or.inl ⟨by rfl, ?_⟩) ?_ ?_
               rotate_left
               ·
                intro w'
                go_simp
                with_reducible rfl
               rotate_left
               ·
                pt_
                rfl
               refine take_ (i := 0) (N := some 105) (v := ?_) (a' := ?_) #[true, false, false, true, false, false, false, false, false, false, false, false, false, false, false, false, false, false, false, false, false, false, false, false, false, false] rfl rfl (take_ofW HT_.out HW_.out (by kernel_rfl)) (fun _ _ _ h => h) (Or.inl ⟨by rfl, ?_⟩) hHeld ?_ ?_
               rotate_left
               ·
                rintro w' ⟨s0, s1, s2, s3, s4, s5, s6, s7, s8, s9, s10, s11, s12, s13, s14, s15, s16, s17⟩
                go_simp
                with_reducible rfl
               rotate_left
               ·
                pt_
                rfl
               refine take_ (i := 1) (N := some 106) (v := ?_) (a' := ?_) #[true, true, false, true, false, false, false, false, false, false, false, false, false, false, false, false, false, false, false, false, false, false, false, false, false, false] rfl rfl (take_ofW HT_.out HW_.out (by kernel_rfl)) (fun _ _ _ h => h) (Or.inl ⟨by rfl, ?_⟩) hHeld ?_ ?_
               rotate_left
               ·
                rintro w' ⟨s0, s1, s2, s3, s4, s5, s6, s7, s8, s9, s10, s11, s12, s13, s14, s15, s16, s17⟩
                go_simp
                with_reducible rfl
               rotate_left
               ·
                pt_
                rfl
               refine take_ (i := 2) (N := some 107) (v := ?_) (a' := ?_) #[true, true, true, true, false, false, false, false, false, false, false, false, false, false, false, false, false, false, false, false, false, false, false, false, false, false] rfl rfl (take_ofW HT_.out HW_.out (by kernel_rfl)) (fun _ _ _ h => h) (Or.inl ⟨by rfl, ?_⟩) hHeld ?_ ?_
               rotate_left
               ·
                rintro w' ⟨s0, s1, s2, s3, s4, s5, s6, s7, s8, s9, s10, s11, s12, s13, s14, s15, s16, s17⟩
                go_simp
                with_reducible rfl
               rotate_left
               ·
                pt_
                rfl
               refine one_ (i := 4) (N := some 109) #[true, true, true, true, true, false, false, false, false, false, false, false, false, false, false, false, false, false, false, false, false, false, false, false, false, false] rfl rfl (one_of HT_.out (by kernel_rfl)) (by decide) (fun K hK => ?_)
               refine goes_ Tryz.func17 (by kernel_rfl) rfl #[.agg #[.int .i64 a1_0, .int .i64 a1_1, .int .i64 a1_2, .int .i64 a1_3, .int .i64 a1_4, .int .i32 a1_5], .agg #[.int .i64 a0_0, .int .i64 a0_1, .int .i64 a0_2, .int .i64 a0_3, .int .i64 a0_4, .int .i32 a0_5], .agg #[.int .i64 t390, .int .i64 t391, .int .i64 t392, .int .i64 t393, .int .i64 t394, .int .i32 t395], .int .i64 t396] (by rfl) rfl rfl (by (try simp only [List.map_toArray, List.map_cons, List.map_nil]); first | done | rfl | (simp only [List.length_drop, List.length_take]; rfl)) ?_
               with_reducible refine (redpencillaw09_merges.calls kj72 a1_0 a1_1 a1_2 a1_3 a1_4 a1_5 a0_0 a0_1 a0_2 a0_3 a0_4 a0_5 t390 t391 t392 t393 t394 t395 t396 true _ A141.out).mono ?_
               rintro e w171 ⟨rfl, hb⟩
               refine ⟨_, rfl, ?_⟩
               have n0_ := Aside0.mk (blk_below (g := gb377) (by rp_; exact BK377.out) hb)
               have n1_ := Aside0.mk (blk_below (g := gb378) (by rp_; exact BK378.out) hb)
               have n2_ := Aside0.mk (blk_below (g := gb379) (by rp_; exact BK379.out) hb)
               have n3_ := Aside0.mk (blk_below (g := gb397) (by rp_; exact BK397.out) hb)
               have n4_ := Aside0.mk (blk_below (g := gb405) (by rp_; exact BK405.out) hb)
               have n5_ := Aside0.mk (blk_below (g := gb413) (by rp_; exact BK413.out) hb)
               have n6_ := Aside0.mk (below_step (by repeat (first | (with_reducible first | exact HB.out | apply below_alloc | apply pw_below_drewN | apply below_drew1 | refine below_set ?_ GE377.out | refine below_set ?_ GE378.out | refine below_set ?_ GE379.out | refine below_set ?_ GE397.out | refine below_set ?_ GE405.out | refine below_set ?_ GE413.out) | exact HB.out)) hb)
               clear BK377
               clear BK378
               clear BK379
               clear BK397
               clear BK405
               clear BK413
               clear HB
               have BK377 := n0_
               have BK378 := n1_
               have BK379 := n2_
               have BK397 := n3_
               have BK405 := n4_
               have BK413 := n5_
               have HB := n6_
               clear n0_ n1_ n2_ n3_ n4_ n5_ n6_
               (try clear hb)
               (try clear hb2)
               (try clear hk)
               (try clear hi)
               refine hK.out _ _ ⟨(blk_cell BK378.out 0).trans rfl, (blk_cell BK378.out 1).trans rfl, (blk_cell BK378.out 2).trans rfl, (blk_cell BK378.out 3).trans rfl, (blk_cell BK378.out 4).trans rfl, (blk_cell BK378.out 5).trans rfl, (blk_cell BK377.out 0).trans rfl, (blk_cell BK377.out 1).trans rfl, (blk_cell BK377.out 2).trans rfl, (blk_cell BK377.out 3).trans rfl, (blk_cell BK377.out 4).trans rfl, (blk_cell BK377.out 5).trans rfl, (blk_cell BK397.out 0).trans rfl, (blk_cell BK397.out 1).trans rfl, (blk_cell BK397.out 2).trans rfl, (blk_cell BK397.out 3).trans rfl, (blk_cell BK397.out 4).trans rfl, (blk_cell BK397.out 5).trans rfl⟩ (fun hHeld => ?_)
               clear hK K
               refine norm_ (a' := ?_) ?_ ?_
               rotate_left
               ·
                show Act.put _ (some 109) _ = _
                pt_
                rfl
               refine pure_ (i := 5) (N := some 110) (v := ?_) (a' := ?_) #[true, true, true, true, true, true, false, false, false, false, false, false, false, false, false, false, false, false, false, false, false, false, false, false, false, false] rfl rfl (any_of HT_.out (by kernel_rfl)) (fun _ _ _ h => h) (Or.inl ⟨by rfl, ?_⟩) ?_ ?_
               rotate_left
               ·
                intro w'
                go_simp
                with_reducible rfl
               rotate_left
               ·
                pt_
                rfl
               refine pure_ (i := 6) (N := some 111) (v := ?_) (a' := ?_) #[true, true, true, true, true, true, true, false, false, false, false, false, false, false, false, false, false, false, false, false, false, false, false, false, false, false] rfl rfl (any_of HT_.out (by kernel_rfl)) (fun _ _ _ h => h) (Or.inl ⟨by rfl, ?_⟩) ?_ ?_
               rotate_left
               ·
                intro w'
                go_simp
                with_reducible rfl
               rotate_left
               ·
                pt_
                rfl
               refine pure_ (i := 7) (N := some 112) (v := ?_) (a' := ?_) #[true, true, true, true, true, true, true, true, false, false, false, false, false, false, false, false, false, false, false, false, false, false, false, false, false, false] rfl rfl (any_of HT_.out (by kernel_rfl)) (fun _ _ _ h => h) (Or.inl ⟨by rfl, ?_⟩) ?_ ?_
               rotate_left
               ·
                intro w'
                go_simp
                with_reducible rfl
               rotate_left
               ·
                pt_
                rfl
               refine pure_ (i := 8) (N := some 113) (v := ?_) (a' := ?_) #[true, true, true, true, true, true, true, true, true, false, false, false, false, false, false, false, false, false, false, false, false, false, false, false, false, false] rfl rfl (any_of HT_.out (by kernel_rfl)) (fun _ _ _ h => h) (Or.inl ⟨by rfl, ?_⟩) ?_ ?_
               rotate_left
               ·
                intro w'
                go_simp
                with_reducible rfl
               rotate_left
               ·
                pt_
                rfl
               refine pure_ (i := 9) (N := some 114) (v := ?_) (a' := ?_) #[true, true, true, true, true, true, true, true, true, true, false, false, false, false, false, false, false, false, false, false, false, false, false, false, false, false] rfl rfl (any_of HT_.out (by kernel_rfl)) (fun _ _ _ h => h) (Or.inl ⟨by rfl, ?_⟩) ?_ ?_
               rotate_left
               ·
                intro w'
                go_simp
                with_reducible rfl
               rotate_left
               ·
                pt_
                rfl
               refine take_ (i := 10) (N := some 115) (v := ?_) (a' := ?_) #[true, true, true, true, true, true, true, true, true, true, true, false, false, false, false, false, false, false, false, false, false, false, false, false, false, false] rfl rfl (take_ofW HT_.out HW_.out (by kernel_rfl)) (fun _ _ _ h => h) (Or.inl ⟨by rfl, ?_⟩) hHeld ?_ ?_
               rotate_left
               ·
                rintro w' ⟨s0, s1, s2, s3, s4, s5, s6, s7, s8, s9, s10, s11, s12, s13, s14, s15, s16, s17⟩
                go_simp
                with_reducible rfl
               rotate_left
               ·
                pt_
                rfl
               refine take_ (i := 12) (N := some 117) (v := ?_) (a' := ?_) #[true, true, true, true, true, true, true, true, true, true, true, false, true, false, false, false, false, false, false, false, false, false, false, false, false, false] rfl rfl (take_ofW HT_.out HW_.out (by kernel_rfl)) (fun _ _ _ h => h) (Or.inl ⟨by rfl, ?_⟩) hHeld ?_ ?_
               rotate_left
               ·
                rintro w' ⟨s0, s1, s2, s3, s4, s5, s6, s7, s8, s9, s10, s11, s12, s13, s14, s15, s16, s17⟩
                go_simp
                with_reducible rfl
               rotate_left
               ·
                pt_
                rfl
               refine one_ (i := 11) (N := some 116) #[true, true, true, true, true, true, true, true, true, true, true, true, true, false, false, false, false, false, false, false, false, false, false, false, false, false] rfl rfl (one_of HT_.out (by kernel_rfl)) (by decide) (fun K hK => ?_)
               refine goes_ Tryz.func19 (by kernel_rfl) rfl #[.agg #[.int .i64 t390, .int .i64 t391, .int .i64 t392, .int .i64 t393, .int .i64 t394, .int .i32 t395]] (by rfl) rfl rfl (by (try simp only [List.map_toArray, List.map_cons, List.map_nil]); first | done | rfl | (simp only [List.length_drop, List.length_take]; rfl)) ?_
               with_reducible refine (node_Dead.calls t390 t391 t392 t393 t394 t395 t415 _ A144.out).mono ?_
               rintro e w172 ⟨rfl, hb⟩
               refine ⟨_, rfl, ?_⟩
               have n0_ := Aside0.mk (blk_below (g := gb377) (by rp_; exact BK377.out) hb)
               have n1_ := Aside0.mk (blk_below (g := gb378) (by rp_; exact BK378.out) hb)
               have n2_ := Aside0.mk (blk_below (g := gb379) (by rp_; exact BK379.out) hb)
               have n3_ := Aside0.mk (blk_below (g := gb397) (by rp_; exact BK397.out) hb)
               have n4_ := Aside0.mk (blk_below (g := gb405) (by rp_; exact BK405.out) hb)
               have n5_ := Aside0.mk (blk_below (g := gb413) (by rp_; exact BK413.out) hb)
               have n6_ := Aside0.mk (below_step (by repeat (first | (with_reducible first | exact HB.out | apply below_alloc | apply pw_below_drewN | apply below_drew1 | refine below_set ?_ GE377.out | refine below_set ?_ GE378.out | refine below_set ?_ GE379.out | refine below_set ?_ GE397.out | refine below_set ?_ GE405.out | refine below_set ?_ GE413.out) | exact HB.out)) hb)
               clear BK377
               clear BK378
               clear BK379
               clear BK397
               clear BK405
               clear BK413
               clear HB
               have BK377 := n0_
               have BK378 := n1_
               have BK379 := n2_
               have BK397 := n3_
               have BK405 := n4_
               have BK413 := n5_
               have HB := n6_
               clear n0_ n1_ n2_ n3_ n4_ n5_ n6_
               (try clear hb)
               (try clear hb2)
               (try clear hk)
               (try clear hi)
               refine hK.out _ _ ⟨(blk_cell BK378.out 0).trans rfl, (blk_cell BK378.out 1).trans rfl, (blk_cell BK378.out 2).trans rfl, (blk_cell BK378.out 3).trans rfl, (blk_cell BK378.out 4).trans rfl, (blk_cell BK378.out 5).trans rfl, (blk_cell BK377.out 0).trans rfl, (blk_cell BK377.out 1).trans rfl, (blk_cell BK377.out 2).trans rfl, (blk_cell BK377.out 3).trans rfl, (blk_cell BK377.out 4).trans rfl, (blk_cell BK377.out 5).trans rfl, (blk_cell BK397.out 0).trans rfl, (blk_cell BK397.out 1).trans rfl, (blk_cell BK397.out 2).trans rfl, (blk_cell BK397.out 3).trans rfl, (blk_cell BK397.out 4).trans rfl, (blk_cell BK397.out 5).trans rfl⟩ (fun hHeld => ?_)
               clear hK K
               refine norm_ (a' := ?_) ?_ ?_
               rotate_left
               ·
                show Act.put _ (some 116) _ = _
                pt_
                rfl
               refine one_ (i := 13) (N := some 118) #[true, true, true, true, true, true, true, true, true, true, true, true, true, true, false, false, false, false, false, false, false, false, false, false, false, false] rfl rfl (one_of HT_.out (by kernel_rfl)) (by decide) (fun K hK => ?_)
               refine goes_ Tryz.func19 (by kernel_rfl) rfl #[.agg #[.int .i64 a0_0, .int .i64 a0_1, .int .i64 a0_2, .int .i64 a0_3, .int .i64 a0_4, .int .i32 a0_5]] (by rfl) rfl rfl (by (try simp only [List.map_toArray, List.map_cons, List.map_nil]); first | done | rfl | (simp only [List.length_drop, List.length_take]; rfl)) ?_
               with_reducible refine (node_Dead.calls a0_0 a0_1 a0_2 a0_3 a0_4 a0_5 false _ A145.out).mono ?_
               rintro e w173 ⟨rfl, hb⟩
               refine ⟨_, rfl, ?_⟩
               have n0_ := Aside0.mk (blk_below (g := gb377) (by rp_; exact BK377.out) hb)
               have n1_ := Aside0.mk (blk_below (g := gb378) (by rp_; exact BK378.out) hb)
               have n2_ := Aside0.mk (blk_below (g := gb379) (by rp_; exact BK379.out) hb)
               have n3_ := Aside0.mk (blk_below (g := gb397) (by rp_; exact BK397.out) hb)
               have n4_ := Aside0.mk (blk_below (g := gb405) (by rp_; exact BK405.out) hb)
               have n5_ := Aside0.mk (blk_below (g := gb413) (by rp_; exact BK413.out) hb)
               have n6_ := Aside0.mk (below_step (by repeat (first | (with_reducible first | exact HB.out | apply below_alloc | apply pw_below_drewN | apply below_drew1 | refine below_set ?_ GE377.out | refine below_set ?_ GE378.out | refine below_set ?_ GE379.out | refine below_set ?_ GE397.out | refine below_set ?_ GE405.out | refine below_set ?_ GE413.out) | exact HB.out)) hb)
               clear BK377
               clear BK378
               clear BK379
               clear BK397
               clear BK405
               clear BK413
               clear HB
               have BK377 := n0_
               have BK378 := n1_
               have BK379 := n2_
               have BK397 := n3_
               have BK405 := n4_
               have BK413 := n5_
               have HB := n6_
               clear n0_ n1_ n2_ n3_ n4_ n5_ n6_
               (try clear hb)
               (try clear hb2)
               (try clear hk)
               (try clear hi)
               refine hK.out _ _ ⟨(blk_cell BK378.out 0).trans rfl, (blk_cell BK378.out 1).trans rfl, (blk_cell BK378.out 2).trans rfl, (blk_cell BK378.out 3).trans rfl, (blk_cell BK378.out 4).trans rfl, (blk_cell BK378.out 5).trans rfl, (blk_cell BK377.out 0).trans rfl, (blk_cell BK377.out 1).trans rfl, (blk_cell BK377.out 2).trans rfl, (blk_cell BK377.out 3).trans rfl, (blk_cell BK377.out 4).trans rfl, (blk_cell BK377.out 5).trans rfl, (blk_cell BK397.out 0).trans rfl, (blk_cell BK397.out 1).trans rfl, (blk_cell BK397.out 2).trans rfl, (blk_cell BK397.out 3).trans rfl, (blk_cell BK397.out 4).trans rfl, (blk_cell BK397.out 5).trans rfl⟩ (fun hHeld => ?_)
               clear hK K
               refine norm_ (a' := ?_) ?_ ?_
               rotate_left
               ·
                show Act.put _ (some 118) _ = _
                pt_
                rfl
               refine pure_ (i := 14) (N := some 119) (v := ?_) (a' := ?_) #[true, true, true, true, true, true, true, true, true, true, true, true, true, true, true, false, false, false, false, false, false, false, false, false, false, false] rfl rfl (any_of HT_.out (by kernel_rfl)) (fun _ _ _ h => h) (Or.inl ⟨by rfl, ?_⟩) ?_ ?_
               rotate_left
               ·
                intro w'
                go_simp
                with_reducible rfl
               rotate_left
               ·
                pt_
                rfl
               refine take_ (i := 15) (N := some 120) (v := ?_) (a' := ?_) #[true, true, true, true, true, true, true, true, true, true, true, true, true, true, true, true, false, false, false, false, false, false, false, false, false, false] rfl rfl (take_ofW HT_.out HW_.out (by kernel_rfl)) (fun _ _ _ h => h) (Or.inl ⟨by rfl, ?_⟩) hHeld ?_ ?_
               rotate_left
               ·
                rintro w' ⟨s0, s1, s2, s3, s4, s5, s6, s7, s8, s9, s10, s11, s12, s13, s14, s15, s16, s17⟩
                go_simp
                with_reducible rfl
               rotate_left
               ·
                pt_
                rfl
               refine one_ (i := 16) (N := some 121) #[true, true, true, true, true, true, true, true, true, true, true, true, true, true, true, true, true, false, false, false, false, false, false, false, false, false] rfl rfl (one_of HT_.out (by kernel_rfl)) (by decide) (fun K hK => ?_)
               refine goes_ Tryz.func19 (by kernel_rfl) rfl #[.agg #[.int .i64 a1_0, .int .i64 a1_1, .int .i64 a1_2, .int .i64 a1_3, .int .i64 a1_4, .int .i32 a1_5]] (by rfl) rfl rfl (by (try simp only [List.map_toArray, List.map_cons, List.map_nil]); first | done | rfl | (simp only [List.length_drop, List.length_take]; rfl)) ?_
               with_reducible refine (node_Dead.calls a1_0 a1_1 a1_2 a1_3 a1_4 a1_5 t418 _ A160.out).mono ?_
               rintro e w174 ⟨rfl, hb⟩
               refine ⟨_, rfl, ?_⟩
               have n0_ := Aside0.mk (blk_below (g := gb377) (by rp_; exact BK377.out) hb)
               have n1_ := Aside0.mk (blk_below (g := gb378) (by rp_; exact BK378.out) hb)
               have n2_ := Aside0.mk (blk_below (g := gb379) (by rp_; exact BK379.out) hb)
               have n3_ := Aside0.mk (blk_below (g := gb397) (by rp_; exact BK397.out) hb)
               have n4_ := Aside0.mk (blk_below (g := gb405) (by rp_; exact BK405.out) hb)
               have n5_ := Aside0.mk (blk_below (g := gb413) (by rp_; exact BK413.out) hb)
               have n6_ := Aside0.mk (below_step (by repeat (first | (with_reducible first | exact HB.out | apply below_alloc | apply pw_below_drewN | apply below_drew1 | refine below_set ?_ GE377.out | refine below_set ?_ GE378.out | refine below_set ?_ GE379.out | refine below_set ?_ GE397.out | refine below_set ?_ GE405.out | refine below_set ?_ GE413.out) | exact HB.out)) hb)
               clear BK377
               clear BK378
               clear BK379
               clear BK397
               clear BK405
               clear BK413
               clear HB
               have BK377 := n0_
               have BK378 := n1_
               have BK379 := n2_
               have BK397 := n3_
               have BK405 := n4_
               have BK413 := n5_
               have HB := n6_
               clear n0_ n1_ n2_ n3_ n4_ n5_ n6_
               (try clear hb)
               (try clear hb2)
               (try clear hk)
               (try clear hi)
               refine hK.out _ _ ⟨(blk_cell BK378.out 0).trans rfl, (blk_cell BK378.out 1).trans rfl, (blk_cell BK378.out 2).trans rfl, (blk_cell BK378.out 3).trans rfl, (blk_cell BK378.out 4).trans rfl, (blk_cell BK378.out 5).trans rfl, (blk_cell BK377.out 0).trans rfl, (blk_cell BK377.out 1).trans rfl, (blk_cell BK377.out 2).trans rfl, (blk_cell BK377.out 3).trans rfl, (blk_cell BK377.out 4).trans rfl, (blk_cell BK377.out 5).trans rfl, (blk_cell BK397.out 0).trans rfl, (blk_cell BK397.out 1).trans rfl, (blk_cell BK397.out 2).trans rfl, (blk_cell BK397.out 3).trans rfl, (blk_cell BK397.out 4).trans rfl, (blk_cell BK397.out 5).trans rfl⟩ (fun hHeld => ?_)
               clear hK K
               refine norm_ (a' := ?_) ?_ ?_
               rotate_left
               ·
                show Act.put _ (some 121) _ = _
                pt_
                rfl
               refine pure_ (i := 17) (N := some 122) (v := ?_) (a' := ?_) #[true, true, true, true, true, true, true, true, true, true, true, true, true, true, true, true, true, true, false, false, false, false, false, false, false, false] rfl rfl (any_of HT_.out (by kernel_rfl)) (fun _ _ _ h => h) (Or.inl ⟨by rfl, ?_⟩) ?_ ?_
               rotate_left
               ·
                intro w'
                go_simp
                with_reducible rfl
               rotate_left
               ·
                pt_
                rfl
               refine pure_ (i := 18) (N := some 123) (v := ?_) (a' := ?_) #[true, true, true, true, true, true, true, true, true, true, true, true, true, true, true, true, true, true, true, false, false, false, false, false, false, false] rfl rfl (any_of HT_.out (by kernel_rfl)) (fun _ _ _ h => h) (Or.inl ⟨by rfl, ?_⟩) ?_ ?_
               rotate_left
               ·
                intro w'
                go_simp
                with_reducible rfl
               rotate_left
               ·
                pt_
                rfl
               refine pure_ (i := 19) (N := some 124) (v := ?_) (a' := ?_) #[true, true, true, true, true, true, true, true, true, true, true, true, true, true, true, true, true, true, true, true, false, false, false, false, false, false] rfl rfl (any_of HT_.out (by kernel_rfl)) (fun _ _ _ h => h) (Or.inl ⟨by rfl, ?_⟩) ?_ ?_
               rotate_left
               ·
                intro w'
                go_simp
                with_reducible rfl
               rotate_left
               ·
                pt_
                rfl
               refine take_ (i := 20) (N := some 125) (v := ?_) (a' := ?_) #[true, true, true, true, true, true, true, true, true, true, true, true, true, true, true, true, true, true, true, true, true, false, false, false, false, false] rfl rfl (take_ofW HT_.out HW_.out (by kernel_rfl)) (fun _ _ _ h => h) (Or.inl ⟨by rfl, ?_⟩) hHeld ?_ ?_
               rotate_left
               ·
                rintro w' ⟨s0, s1, s2, s3, s4, s5, s6, s7, s8, s9, s10, s11, s12, s13, s14, s15, s16, s17⟩
                go_simp
                with_reducible rfl
               rotate_left
               ·
                pt_
                rfl
               refine one_ (i := 21) (N := some 126) #[true, true, true, true, true, true, true, true, true, true, true, true, true, true, true, true, true, true, true, true, true, true, false, false, false, false] rfl rfl (one_of HT_.out (by kernel_rfl)) (by decide) (fun K hK => ?_)
               refine goes_ Tryz.func16 (by kernel_rfl) rfl #[.agg #[.int .i64 t390, .int .i64 t391, .int .i64 t392, .int .i64 t393, .int .i64 t394, .int .i32 t395]] (by rfl) rfl rfl (by (try simp only [List.map_toArray, List.map_cons, List.map_nil]); first | done | rfl | (simp only [List.length_drop, List.length_take]; rfl)) ?_
               with_reducible refine (node_Valid.calls kj72 t390 t391 t392 t393 t394 t395 t419 _ A168.out).mono ?_
               rintro e w175 ⟨rfl, hb⟩
               refine ⟨_, rfl, ?_⟩
               have n0_ := Aside0.mk (blk_below (g := gb377) (by rp_; exact BK377.out) hb)
               have n1_ := Aside0.mk (blk_below (g := gb378) (by rp_; exact BK378.out) hb)
               have n2_ := Aside0.mk (blk_below (g := gb379) (by rp_; exact BK379.out) hb)
               have n3_ := Aside0.mk (blk_below (g := gb397) (by rp_; exact BK397.out) hb)
               have n4_ := Aside0.mk (blk_below (g := gb405) (by rp_; exact BK405.out) hb)
               have n5_ := Aside0.mk (blk_below (g := gb413) (by rp_; exact BK413.out) hb)
               have n6_ := Aside0.mk (below_step (by repeat (first | (with_reducible first | exact HB.out | apply below_alloc | apply pw_below_drewN | apply below_drew1 | refine below_set ?_ GE377.out | refine below_set ?_ GE378.out | refine below_set ?_ GE379.out | refine below_set ?_ GE397.out | refine below_set ?_ GE405.out | refine below_set ?_ GE413.out) | exact HB.out)) hb)
               clear BK377
               clear BK378
               clear BK379
               clear BK397
               clear BK405
               clear BK413
               clear HB
               have BK377 := n0_
               have BK378 := n1_
               have BK379 := n2_
               have BK397 := n3_
               have BK405 := n4_
               have BK413 := n5_
               have HB := n6_
               clear n0_ n1_ n2_ n3_ n4_ n5_ n6_
               (try clear hb)
               (try clear hb2)
               (try clear hk)
               (try clear hi)
               refine hK.out _ _ ⟨(blk_cell BK378.out 0).trans rfl, (blk_cell BK378.out 1).trans rfl, (blk_cell BK378.out 2).trans rfl, (blk_cell BK378.out 3).trans rfl, (blk_cell BK378.out 4).trans rfl, (blk_cell BK378.out 5).trans rfl, (blk_cell BK377.out 0).trans rfl, (blk_cell BK377.out 1).trans rfl, (blk_cell BK377.out 2).trans rfl, (blk_cell BK377.out 3).trans rfl, (blk_cell BK377.out 4).trans rfl, (blk_cell BK377.out 5).trans rfl, (blk_cell BK397.out 0).trans rfl, (blk_cell BK397.out 1).trans rfl, (blk_cell BK397.out 2).trans rfl, (blk_cell BK397.out 3).trans rfl, (blk_cell BK397.out 4).trans rfl, (blk_cell BK397.out 5).trans rfl⟩ (fun hHeld => ?_)
               clear hK K
               refine norm_ (a' := ?_) ?_ ?_
               rotate_left
               ·
                show Act.put _ (some 126) _ = _
                pt_
                rfl
               refine pure_ (i := 22) (N := some 127) (v := ?_) (a' := ?_) #[true, true, true, true, true, true, true, true, true, true, true, true, true, true, true, true, true, true, true, true, true, true, true, false, false, false] rfl rfl (any_of HT_.out (by kernel_rfl)) (fun _ _ _ h => h) (Or.inl ⟨by rfl, ?_⟩) ?_ ?_
               rotate_left
               ·
                intro w'
                go_simp
                with_reducible rfl
               rotate_left
               ·
                pt_
                rfl
               refine pure_ (i := 23) (N := some 128) (v := ?_) (a' := ?_) #[true, true, true, true, true, true, true, true, true, true, true, true, true, true, true, true, true, true, true, true, true, true, true, true, false, false] rfl rfl (any_of HT_.out (by kernel_rfl)) (fun _ _ _ h => h) (Or.inl ⟨by rfl, ?_⟩) ?_ ?_
               rotate_left
               ·
                intro w'
                go_simp
                with_reducible rfl
               rotate_left
               ·
                pt_
                rfl
               refine pure_ (i := 24) (N := some 129) (v := ?_) (a' := ?_) #[true, true, true, true, true, true, true, true, true, true, true, true, true, true, true, true, true, true, true, true, true, true, true, true, true, false] rfl rfl (any_of HT_.out (by kernel_rfl)) (fun _ _ _ h => h) (Or.inl ⟨by rfl, ?_⟩) ?_ ?_
               rotate_left
               ·
                intro w'
                go_simp
                with_reducible rfl
               rotate_left
               ·
                pt_
                rfl
               refine pure_ (i := 25) (N := some 130) (v := ?_) (a' := ?_) #[true, true, true, true, true, true, true, true, true, true, true, true, true, true, true, true, true, true, true, true, true, true, true, true, true, true] rfl rfl (any_of HT_.out (by kernel_rfl)) (fun _ _ _ h => h) (Or.inl ⟨by rfl, ?_⟩) ?_ ?_
               rotate_left
               ·
                intro w'
                go_simp
                with_reducible rfl
               rotate_left
               ·
                pt_
                rfl
               refine done_ (done_of HT_.out (by kernel_rfl)) ?_
               try go_wp2
               go_meet
               case rel => exact ⟨_, (!t419), (by first | rfl | (simp; done) | (simp [*]; done)), H', ⟨by have := HJ5.out; have := HJ37.out; have := HJ72.out; first | omega | exact Nat.le_refl _⟩, ⟨by rp_; exact BK377.out⟩, ⟨by rp_; exact BK378.out⟩, ⟨by rp_; exact BK379.out⟩, ⟨by rp_; exact BK397.out⟩, ⟨by rp_; exact BK405.out⟩, ⟨by rp_; exact BK413.out⟩, ⟨by repeat (first | (with_reducible first | exact HB.out | apply below_alloc | apply pw_below_drewN | apply below_drew1 | refine below_set ?_ GE377.out | refine below_set ?_ GE378.out | refine below_set ?_ GE379.out | refine below_set ?_ GE397.out | refine below_set ?_ GE405.out | refine below_set ?_ GE413.out) | exact HB.out)⟩⟩
            ·
             rw [if_neg c143] at H
             have c143b0 : (t396 == 0) = false := beq_eq_false_iff_ne.mpr c143
             have c143b1 : (t396 != 0) = true := bne_iff_ne.mpr c143
             (first | rw [c143b0] | (simp only [i64_w, i32_w]; rw [c143b0]) | skip)
             have H' := Aside0.mk H
             clear H
             try go_wp2
             have n0_ : Aside0 (((((((w134.setCell ⟨gb413, 0, none⟩ (.int .i64 t406)).setCell ⟨gb413, 1, none⟩ (.int .i64 t407)).setCell ⟨gb413, 2, none⟩ (.int .i64 t408)).setCell ⟨gb413, 3, none⟩ (.int .i64 t409)).setCell ⟨gb413, 4, none⟩ (.int .i64 t410)).setCell ⟨gb413, 5, none⟩ (.int .i32 t411)).heap[gb377]? = some (.cells #[.int .i64 a0_0, .int .i64 a0_1, .int .i64 a0_2, .int .i64 a0_3, .int .i64 a0_4, .int .i32 a0_5] 25 (0, 0))) := ⟨by rp_; refine blk_far ?_ NB377_413.out _; rp_; refine blk_far ?_ NB377_413.out _; rp_; refine blk_far ?_ NB377_413.out _; rp_; refine blk_far ?_ NB377_413.out _; rp_; refine blk_far ?_ NB377_413.out _; rp_; refine blk_far ?_ NB377_413.out _; rp_; exact BK377.out⟩
             have n1_ : Aside0 (((((((w134.setCell ⟨gb413, 0, none⟩ (.int .i64 t406)).setCell ⟨gb413, 1, none⟩ (.int .i64 t407)).setCell ⟨gb413, 2, none⟩ (.int .i64 t408)).setCell ⟨gb413, 3, none⟩ (.int .i64 t409)).setCell ⟨gb413, 4, none⟩ (.int .i64 t410)).setCell ⟨gb413, 5, none⟩ (.int .i32 t411)).heap[gb378]? = some (.cells #[.int .i64 a1_0, .int .i64 a1_1, .int .i64 a1_2, .int .i64 a1_3, .int .i64 a1_4, .int .i32 a1_5] 25 (0, 0))) := ⟨by rp_; refine blk_far ?_ NB378_413.out _; rp_; refine blk_far ?_ NB378_413.out _; rp_; refine blk_far ?_ NB378_413.out _; rp_; refine blk_far ?_ NB378_413.out _; rp_; refine blk_far ?_ NB378_413.out _; rp_; refine blk_far ?_ NB378_413.out _; rp_; exact BK378.out⟩
             have n2_ : Aside0 (((((((w134.setCell ⟨gb413, 0, none⟩ (.int .i64 t406)).setCell ⟨gb413, 1, none⟩ (.int .i64 t407)).setCell ⟨gb413, 2, none⟩ (.int .i64 t408)).setCell ⟨gb413, 3, none⟩ (.int .i64 t409)).setCell ⟨gb413, 4, none⟩ (.int .i64 t410)).setCell ⟨gb413, 5, none⟩ (.int .i32 t411)).heap[gb379]? = some (.cells #[.int .i64 a2_0, .int .i64 a2_1, .int .i64 a2_2, .int .i64 a2_3, .int .i64 a2_4, .int .i32 a2_5] 25 (0, 0))) := ⟨by rp_; refine blk_far ?_ NB379_413.out _; rp_; refine blk_far ?_ NB379_413.out _; rp_; refine blk_far ?_ NB379_413.out _; rp_; refine blk_far ?_ NB379_413.out _; rp_; refine blk_far ?_ NB379_413.out _; rp_; refine blk_far ?_ NB379_413.out _; rp_; exact BK379.out⟩
             have n3_ : Aside0 (((((((w134.setCell ⟨gb413, 0, none⟩ (.int .i64 t406)).setCell ⟨gb413, 1, none⟩ (.int .i64 t407)).setCell ⟨gb413, 2, none⟩ (.int .i64 t408)).setCell ⟨gb413, 3, none⟩ (.int .i64 t409)).setCell ⟨gb413, 4, none⟩ (.int .i64 t410)).setCell ⟨gb413, 5, none⟩ (.int .i32 t411)).heap[gb397]? = some (.cells #[.int .i64 t390, .int .i64 t391, .int .i64 t392, .int .i64 t393, .int .i64 t394, .int .i32 t395] 25 (0, 0))) := ⟨by rp_; refine blk_far ?_ NB397_413.out _; rp_; refine blk_far ?_ NB397_413.out _; rp_; refine blk_far ?_ NB397_413.out _; rp_; refine blk_far ?_ NB397_413.out _; rp_; refine blk_far ?_ NB397_413.out _; rp_; refine blk_far ?_ NB397_413.out _; rp_; exact BK397.out⟩
             have n4_ : Aside0 (((((((w134.setCell ⟨gb413, 0, none⟩ (.int .i64 t406)).setCell ⟨gb413, 1, none⟩ (.int .i64 t407)).setCell ⟨gb413, 2, none⟩ (.int .i64 t408)).setCell ⟨gb413, 3, none⟩ (.int .i64 t409)).setCell ⟨gb413, 4, none⟩ (.int .i64 t410)).setCell ⟨gb413, 5, none⟩ (.int .i32 t411)).heap[gb405]? = some (.cells #[.int .i64 t398, .int .i64 t399, .int .i64 t400, .int .i64 t401, .int .i64 t402, .int .i32 t403] 25 (0, 0))) := ⟨by rp_; refine blk_far ?_ NB405_413.out _; rp_; refine blk_far ?_ NB405_413.out _; rp_; refine blk_far ?_ NB405_413.out _; rp_; refine blk_far ?_ NB405_413.out _; rp_; refine blk_far ?_ NB405_413.out _; rp_; refine blk_far ?_ NB405_413.out _; rp_; exact BK405.out⟩
             have n5_ : Aside0 (((((((w134.setCell ⟨gb413, 0, none⟩ (.int .i64 t406)).setCell ⟨gb413, 1, none⟩ (.int .i64 t407)).setCell ⟨gb413, 2, none⟩ (.int .i64 t408)).setCell ⟨gb413, 3, none⟩ (.int .i64 t409)).setCell ⟨gb413, 4, none⟩ (.int .i64 t410)).setCell ⟨gb413, 5, none⟩ (.int .i32 t411)).heap[gb413]? = some (.cells #[.int .i64 t406, .int .i64 t407, .int .i64 t408, .int .i64 t409, .int .i64 t410, .int .i32 t411] 25 (0, 0))) := ⟨by rp_; refine blk_put (cs := #[.int .i64 t406, .int .i64 t407, .int .i64 t408, .int .i64 t409, .int .i64 t410, .int .i32 0]) ?_ 5 _ rfl; rp_; refine blk_put (cs := #[.int .i64 t406, .int .i64 t407, .int .i64 t408, .int .i64 t409, .int .i64 0, .int .i32 0]) ?_ 4 _ rfl; rp_; refine blk_put (cs := #[.int .i64 t406, .int .i64 t407, .int .i64 t408, .int .i64 0, .int .i64 0, .int .i32 0]) ?_ 3 _ rfl; rp_; refine blk_put (cs := #[.int .i64 t406, .int .i64 t407, .int .i64 0, .int .i64 0, .int .i64 0, .int .i32 0]) ?_ 2 _ rfl; rp_; refine blk_put (cs := #[.int .i64 t406, .int .i64 0, .int .i64 0, .int .i64 0, .int .i64 0, .int .i32 0]) ?_ 1 _ rfl; rp_; refine blk_put (cs := #[.int .i64 0, .int .i64 0, .int .i64 0, .int .i64 0, .int .i64 0, .int .i32 0]) ?_ 0 _ rfl; rp_; exact BK413.out⟩
             have n6_ : Aside0 (Below w.heap.size w ((((((w134.setCell ⟨gb413, 0, none⟩ (.int .i64 t406)).setCell ⟨gb413, 1, none⟩ (.int .i64 t407)).setCell ⟨gb413, 2, none⟩ (.int .i64 t408)).setCell ⟨gb413, 3, none⟩ (.int .i64 t409)).setCell ⟨gb413, 4, none⟩ (.int .i64 t410)).setCell ⟨gb413, 5, none⟩ (.int .i32 t411))) := ⟨by repeat (first | (with_reducible first | exact HB.out | apply below_alloc | apply pw_below_drewN | apply below_drew1 | refine below_set ?_ GE377.out | refine below_set ?_ GE378.out | refine below_set ?_ GE379.out | refine below_set ?_ GE397.out | refine below_set ?_ GE405.out | refine below_set ?_ GE413.out) | exact HB.out)⟩
             (try clear BK377)
             (try clear BK378)
             (try clear BK379)
             (try clear BK397)
             (try clear BK405)
             (try clear BK413)
             (try clear HB)
             generalize ((((((w134.setCell ⟨gb413, 0, none⟩ (.int .i64 t406)).setCell ⟨gb413, 1, none⟩ (.int .i64 t407)).setCell ⟨gb413, 2, none⟩ (.int .i64 t408)).setCell ⟨gb413, 3, none⟩ (.int .i64 t409)).setCell ⟨gb413, 4, none⟩ (.int .i64 t410)).setCell ⟨gb413, 5, none⟩ (.int .i32 t411)) = w176 at n0_ n1_ n2_ n3_ n4_ n5_ n6_ ⊢
             have BK377 := n0_
             have BK378 := n1_
             have BK379 := n2_
             have BK397 := n3_
             have BK405 := n4_
             have BK413 := n5_
             have HB := n6_
             clear n0_ n1_ n2_ n3_ n4_ n5_ n6_
             have n0_ := Aside0.mk (blk_drew BK377.out)
             have n1_ := Aside0.mk (blk_drew BK378.out)
             have n2_ := Aside0.mk (blk_drew BK379.out)
             have n3_ := Aside0.mk (blk_drew BK397.out)
             have n4_ := Aside0.mk (blk_drew BK405.out)
             have n5_ := Aside0.mk (blk_drew BK413.out)
             have n6_ := Aside0.mk (below_drew1 HB.out)
             clear BK377
             clear BK378
             clear BK379
             clear BK397
             clear BK405
             clear BK413
             clear HB
             have BK377 := n0_
             have BK378 := n1_
             have BK379 := n2_
             have BK397 := n3_
             have BK405 := n4_
             have BK413 := n5_
             have HB := n6_
             clear n0_ n1_ n2_ n3_ n4_ n5_ n6_
             refine start_ (n := 26) (S := fun w' => w'.cell? ⟨gb378, 0, none⟩ = some (.int .i64 a1_0) ∧ w'.cell? ⟨gb378, 1, none⟩ = some (.int .i64 a1_1) ∧ w'.cell? ⟨gb378, 2, none⟩ = some (.int .i64 a1_2) ∧ w'.cell? ⟨gb378, 3, none⟩ = some (.int .i64 a1_3) ∧ w'.cell? ⟨gb378, 4, none⟩ = some (.int .i64 a1_4) ∧ w'.cell? ⟨gb378, 5, none⟩ = some (.int .i32 a1_5) ∧ w'.cell? ⟨gb377, 0, none⟩ = some (.int .i64 a0_0) ∧ w'.cell? ⟨gb377, 1, none⟩ = some (.int .i64 a0_1) ∧ w'.cell? ⟨gb377, 2, none⟩ = some (.int .i64 a0_2) ∧ w'.cell? ⟨gb377, 3, none⟩ = some (.int .i64 a0_3) ∧ w'.cell? ⟨gb377, 4, none⟩ = some (.int .i64 a0_4) ∧ w'.cell? ⟨gb377, 5, none⟩ = some (.int .i32 a0_5) ∧ w'.cell? ⟨gb397, 0, none⟩ = some (.int .i64 t390) ∧ w'.cell? ⟨gb397, 1, none⟩ = some (.int .i64 t391) ∧ w'.cell? ⟨gb397, 2, none⟩ = some (.int .i64 t392) ∧ w'.cell? ⟨gb397, 3, none⟩ = some (.int .i64 t393) ∧ w'.cell? ⟨gb397, 4, none⟩ = some (.int .i64 t394) ∧ w'.cell? ⟨gb397, 5, none⟩ = some (.int .i32 t395)) (ds := []) #[false, false, false, false, false, false, false, false, false, false, false, false, false, false, false, false, false, false, false, false, false, false, false, false, false, false] (by kernel_rfl) rfl rfl ⟨(blk_cell BK378.out 0).trans rfl, (blk_cell BK378.out 1).trans rfl, (blk_cell BK378.out 2).trans rfl, (blk_cell BK378.out 3).trans rfl, (blk_cell BK378.out 4).trans rfl, (blk_cell BK378.out 5).trans rfl, (blk_cell BK377.out 0).trans rfl, (blk_cell BK377.out 1).trans rfl, (blk_cell BK377.out 2).trans rfl, (blk_cell BK377.out 3).trans rfl, (blk_cell BK377.out 4).trans rfl, (blk_cell BK377.out 5).trans rfl, (blk_cell BK397.out 0).trans rfl, (blk_cell BK397.out 1).trans rfl, (blk_cell BK397.out 2).trans rfl, (blk_cell BK397.out 3).trans rfl, (blk_cell BK397.out 4).trans rfl, (blk_cell BK397.out 5).trans rfl⟩ (fun hHeld => ?_); refine with_tabW redpencillaw09_NodeHolds.tab12 redpencillaw09_NodeHolds.bits12 (fun HT_ HW_ => ?_)
             generalize w176.drew = w177 at BK377 BK378 BK379 BK397 BK405 BK413 HB hHeld ⊢
             refine pure_ (i := 3) (N := some 108) (v := ?_) (a' := ?_) #[false, false, false, true, false, false, false, false, false, false, false, false, false, false, false, false, false, false, false, false, false, false, false, false, false, false] rfl rfl (any_of HT_.out (by kernel_rfl)) (fun _ _ _ h => h) (Or.inl ⟨by rfl, ?_⟩) ?_ ?_
             rotate_left
             ·
              intro w'
              go_simp
              with_reducible rfl
             rotate_left
             ·
              pt_
              rfl
             refine take_ (i := 0) (N := some 105) (v := ?_) (a' := ?_) #[true, false, false, true, false, false, false, false, false, false, false, false, false, false, false, false, false, false, false, false, false, false, false, false, false, false] rfl rfl (take_ofW HT_.out HW_.out (by kernel_rfl)) (fun _ _ _ h => h) (Or.inl ⟨by rfl, ?_⟩) hHeld ?_ ?_
             rotate_left
             ·
              rintro w' ⟨s0, s1, s2, s3, s4, s5, s6, s7, s8, s9, s10, s11, s12, s13, s14, s15, s16, s17⟩
              go_simp
              with_reducible rfl
             rotate_left
             ·
              pt_
              rfl
             refine take_ (i := 1) (N := some 106) (v := ?_) (a' := ?_) #[true, true, false, true, false, false, false, false, false, false, false, false, false, false, false, false, false, false, false, false, false, false, false, false, false, false] rfl rfl (take_ofW HT_.out HW_.out (by kernel_rfl)) (fun _ _ _ h => h) (Or.inl ⟨by rfl, ?_⟩) hHeld ?_ ?_
             rotate_left
             ·
              rintro w' ⟨s0, s1, s2, s3, s4, s5, s6, s7, s8, s9, s10, s11, s12, s13, s14, s15, s16, s17⟩
              go_simp
              with_reducible rfl
             rotate_left
             ·
              pt_
              rfl
             refine take_ (i := 2) (N := some 107) (v := ?_) (a' := ?_) #[true, true, true, true, false, false, false, false, false, false, false, false, false, false, false, false, false, false, false, false, false, false, false, false, false, false] rfl rfl (take_ofW HT_.out HW_.out (by kernel_rfl)) (fun _ _ _ h => h) (Or.inl ⟨by rfl, ?_⟩) hHeld ?_ ?_
             rotate_left
             ·
              rintro w' ⟨s0, s1, s2, s3, s4, s5, s6, s7, s8, s9, s10, s11, s12, s13, s14, s15, s16, s17⟩
              go_simp
              with_reducible rfl
             rotate_left
             ·
              pt_
              rfl
             refine one_ (i := 4) (N := some 109) #[true, true, true, true, true, false, false, false, false, false, false, false, false, false, false, false, false, false, false, false, false, false, false, false, false, false] rfl rfl (one_of HT_.out (by kernel_rfl)) (by decide) (fun K hK => ?_)
             refine goes_ Tryz.func17 (by kernel_rfl) rfl #[.agg #[.int .i64 a1_0, .int .i64 a1_1, .int .i64 a1_2, .int .i64 a1_3, .int .i64 a1_4, .int .i32 a1_5], .agg #[.int .i64 a0_0, .int .i64 a0_1, .int .i64 a0_2, .int .i64 a0_3, .int .i64 a0_4, .int .i32 a0_5], .agg #[.int .i64 t390, .int .i64 t391, .int .i64 t392, .int .i64 t393, .int .i64 t394, .int .i32 t395], .int .i64 t396] (by rfl) rfl rfl (by (try simp only [List.map_toArray, List.map_cons, List.map_nil]); first | done | rfl | (simp only [List.length_drop, List.length_take]; rfl)) ?_
             with_reducible refine (redpencillaw09_merges.calls kj72 a1_0 a1_1 a1_2 a1_3 a1_4 a1_5 a0_0 a0_1 a0_2 a0_3 a0_4 a0_5 t390 t391 t392 t393 t394 t395 t396 true _ A141.out).mono ?_
             rintro e w178 ⟨rfl, hb⟩
             refine ⟨_, rfl, ?_⟩
             have n0_ := Aside0.mk (blk_below (g := gb377) (by rp_; exact BK377.out) hb)
             have n1_ := Aside0.mk (blk_below (g := gb378) (by rp_; exact BK378.out) hb)
             have n2_ := Aside0.mk (blk_below (g := gb379) (by rp_; exact BK379.out) hb)
             have n3_ := Aside0.mk (blk_below (g := gb397) (by rp_; exact BK397.out) hb)
             have n4_ := Aside0.mk (blk_below (g := gb405) (by rp_; exact BK405.out) hb)
             have n5_ := Aside0.mk (blk_below (g := gb413) (by rp_; exact BK413.out) hb)
             have n6_ := Aside0.mk (below_step (by repeat (first | (with_reducible first | exact HB.out | apply below_alloc | apply pw_below_drewN | apply below_drew1 | refine below_set ?_ GE377.out | refine below_set ?_ GE378.out | refine below_set ?_ GE379.out | refine below_set ?_ GE397.out | refine below_set ?_ GE405.out | refine below_set ?_ GE413.out) | exact HB.out)) hb)
             clear BK377
             clear BK378
             clear BK379
             clear BK397
             clear BK405
             clear BK413
             clear HB
             have BK377 := n0_
             have BK378 := n1_
             have BK379 := n2_
             have BK397 := n3_
             have BK405 := n4_
             have BK413 := n5_
             have HB := n6_
             clear n0_ n1_ n2_ n3_ n4_ n5_ n6_
             (try clear hb)
             (try clear hb2)
             (try clear hk)
             (try clear hi)
             refine hK.out _ _ ⟨(blk_cell BK378.out 0).trans rfl, (blk_cell BK378.out 1).trans rfl, (blk_cell BK378.out 2).trans rfl, (blk_cell BK378.out 3).trans rfl, (blk_cell BK378.out 4).trans rfl, (blk_cell BK378.out 5).trans rfl, (blk_cell BK377.out 0).trans rfl, (blk_cell BK377.out 1).trans rfl, (blk_cell BK377.out 2).trans rfl, (blk_cell BK377.out 3).trans rfl, (blk_cell BK377.out 4).trans rfl, (blk_cell BK377.out 5).trans rfl, (blk_cell BK397.out 0).trans rfl, (blk_cell BK397.out 1).trans rfl, (blk_cell BK397.out 2).trans rfl, (blk_cell BK397.out 3).trans rfl, (blk_cell BK397.out 4).trans rfl, (blk_cell BK397.out 5).trans rfl⟩ (fun hHeld => ?_)
             clear hK K
             refine norm_ (a' := ?_) ?_ ?_
             rotate_left
             ·
              show Act.put _ (some 109) _ = _
              pt_
              rfl
             refine pure_ (i := 5) (N := some 110) (v := ?_) (a' := ?_) #[true, true, true, true, true, true, false, false, false, false, false, false, false, false, false, false, false, false, false, false, false, false, false, false, false, false] rfl rfl (any_of HT_.out (by kernel_rfl)) (fun _ _ _ h => h) (Or.inl ⟨by rfl, ?_⟩) ?_ ?_
             rotate_left
             ·
              intro w'
              go_simp
              with_reducible rfl
             rotate_left
             ·
              pt_
              rfl
             refine pure_ (i := 6) (N := some 111) (v := ?_) (a' := ?_) #[true, true, true, true, true, true, true, false, false, false, false, false, false, false, false, false, false, false, false, false, false, false, false, false, false, false] rfl rfl (any_of HT_.out (by kernel_rfl)) (fun _ _ _ h => h) (Or.inl ⟨by rfl, ?_⟩) ?_ ?_
             rotate_left
             ·
              intro w'
              go_simp
              with_reducible rfl
             rotate_left
             ·
              pt_
              rfl
             refine pure_ (i := 7) (N := some 112) (v := ?_) (a' := ?_) #[true, true, true, true, true, true, true, true, false, false, false, false, false, false, false, false, false, false, false, false, false, false, false, false, false, false] rfl rfl (any_of HT_.out (by kernel_rfl)) (fun _ _ _ h => h) (Or.inl ⟨by rfl, ?_⟩) ?_ ?_
             rotate_left
             ·
              intro w'
              go_simp
              with_reducible rfl
             rotate_left
             ·
              pt_
              rfl
             refine pure_ (i := 8) (N := some 113) (v := ?_) (a' := ?_) #[true, true, true, true, true, true, true, true, true, false, false, false, false, false, false, false, false, false, false, false, false, false, false, false, false, false] rfl rfl (any_of HT_.out (by kernel_rfl)) (fun _ _ _ h => h) (Or.inl ⟨by rfl, ?_⟩) ?_ ?_
             rotate_left
             ·
              intro w'
              go_simp
              with_reducible rfl
             rotate_left
             ·
              pt_
              rfl
             refine pure_ (i := 9) (N := some 114) (v := ?_) (a' := ?_) #[true, true, true, true, true, true, true, true, true, true, false, false, false, false, false, false, false, false, false, false, false, false, false, false, false, false] rfl rfl (any_of HT_.out (by kernel_rfl)) (fun _ _ _ h => h) (Or.inl ⟨by rfl, ?_⟩) ?_ ?_
             rotate_left
             ·
              intro w'
              go_simp
              with_reducible rfl
             rotate_left
             ·
              pt_
              rfl
             refine pure_ (i := 10) (N := some 115) (v := undef) (a' := ?_) #[true, true, true, true, true, true, true, true, true, true, true, false, false, false, false, false, false, false, false, false, false, false, false, false, false, false] rfl rfl (any_of HT_.out (by kernel_rfl)) (fun _ _ _ h => h) (Or.inr ⟨by rfl, rfl⟩) ?_ ?_
             rotate_left
             ·
              pt_
              rfl
             refine pure_ (i := 11) (N := some 116) (v := undef) (a' := ?_) #[true, true, true, true, true, true, true, true, true, true, true, true, false, false, false, false, false, false, false, false, false, false, false, false, false, false] rfl rfl (any_of HT_.out (by kernel_rfl)) (fun _ _ _ h => h) (Or.inr ⟨by rfl, rfl⟩) ?_ ?_
             rotate_left
             ·
              pt_
              rfl
             refine pure_ (i := 12) (N := some 117) (v := undef) (a' := ?_) #[true, true, true, true, true, true, true, true, true, true, true, true, true, false, false, false, false, false, false, false, false, false, false, false, false, false] rfl rfl (any_of HT_.out (by kernel_rfl)) (fun _ _ _ h => h) (Or.inr ⟨by rfl, rfl⟩) ?_ ?_
             rotate_left
             ·
              pt_
              rfl
             refine pure_ (i := 13) (N := some 118) (v := undef) (a' := ?_) #[true, true, true, true, true, true, true, true, true, true, true, true, true, true, false, false, false, false, false, false, false, false, false, false, false, false] rfl rfl (any_of HT_.out (by kernel_rfl)) (fun _ _ _ h => h) (Or.inr ⟨by rfl, rfl⟩) ?_ ?_
             rotate_left
             ·
              pt_
              rfl
             refine pure_ (i := 14) (N := some 119) (v := undef) (a' := ?_) #[true, true, true, true, true, true, true, true, true, true, true, true, true, true, true, false, false, false, false, false, false, false, false, false, false, false] rfl rfl (any_of HT_.out (by kernel_rfl)) (fun _ _ _ h => h) (Or.inr ⟨by rfl, rfl⟩) ?_ ?_
             rotate_left
             ·
              pt_
              rfl
             refine pure_ (i := 15) (N := some 120) (v := undef) (a' := ?_) #[true, true, true, true, true, true, true, true, true, true, true, true, true, true, true, true, false, false, false, false, false, false, false, false, false, false] rfl rfl (any_of HT_.out (by kernel_rfl)) (fun _ _ _ h => h) (Or.inr ⟨by rfl, rfl⟩) ?_ ?_
             rotate_left
             ·
              pt_
              rfl
             refine pure_ (i := 16) (N := some 121) (v := undef) (a' := ?_) #[true, true, true, true, true, true, true, true, true, true, true, true, true, true, true, true, true, false, false, false, false, false, false, false, false, false] rfl rfl (any_of HT_.out (by kernel_rfl)) (fun _ _ _ h => h) (Or.inr ⟨by rfl, rfl⟩) ?_ ?_
             rotate_left
             ·
              pt_
              rfl
             refine pure_ (i := 17) (N := some 122) (v := undef) (a' := ?_) #[true, true, true, true, true, true, true, true, true, true, true, true, true, true, true, true, true, true, false, false, false, false, false, false, false, false] rfl rfl (any_of HT_.out (by kernel_rfl)) (fun _ _ _ h => h) (Or.inr ⟨by rfl, rfl⟩) ?_ ?_
             rotate_left
             ·
              pt_
              rfl
             refine pure_ (i := 18) (N := some 123) (v := undef) (a' := ?_) #[true, true, true, true, true, true, true, true, true, true, true, true, true, true, true, true, true, true, true, false, false, false, false, false, false, false] rfl rfl (any_of HT_.out (by kernel_rfl)) (fun _ _ _ h => h) (Or.inr ⟨by rfl, rfl⟩) ?_ ?_
             rotate_left
             ·
              pt_
              rfl
             refine pure_ (i := 19) (N := some 124) (v := undef) (a' := ?_) #[true, true, true, true, true, true, true, true, true, true, true, true, true, true, true, true, true, true, true, true, false, false, false, false, false, false] rfl rfl (any_of HT_.out (by kernel_rfl)) (fun _ _ _ h => h) (Or.inr ⟨by rfl, rfl⟩) ?_ ?_
             rotate_left
             ·
              pt_
              rfl
             refine pure_ (i := 20) (N := some 125) (v := undef) (a' := ?_) #[true, true, true, true, true, true, true, true, true, true, true, true, true, true, true, true, true, true, true, true, true, false, false, false, false, false] rfl rfl (any_of HT_.out (by kernel_rfl)) (fun _ _ _ h => h) (Or.inr ⟨by rfl, rfl⟩) ?_ ?_
             rotate_left
             ·
              pt_
              rfl
             refine pure_ (i := 21) (N := some 126) (v := undef) (a' := ?_) #[true, true, true, true, true, true, true, true, true, true, true, true, true, true, true, true, true, true, true, true, true, true, false, false, false, false] rfl rfl (any_of HT_.out (by kernel_rfl)) (fun _ _ _ h => h) (Or.inr ⟨by rfl, rfl⟩) ?_ ?_
             rotate_left
             ·
              pt_
              rfl
             refine pure_ (i := 22) (N := some 127) (v := undef) (a' := ?_) #[true, true, true, true, true, true, true, true, true, true, true, true, true, true, true, true, true, true, true, true, true, true, true, false, false, false] rfl rfl (any_of HT_.out (by kernel_rfl)) (fun _ _ _ h => h) (Or.inr ⟨by rfl, rfl⟩) ?_ ?_
             rotate_left
             ·
              pt_
              rfl
             refine pure_ (i := 23) (N := some 128) (v := undef) (a' := ?_) #[true, true, true, true, true, true, true, true, true, true, true, true, true, true, true, true, true, true, true, true, true, true, true, true, false, false] rfl rfl (any_of HT_.out (by kernel_rfl)) (fun _ _ _ h => h) (Or.inr ⟨by rfl, rfl⟩) ?_ ?_
             rotate_left
             ·
              pt_
              rfl
             refine pure_ (i := 24) (N := some 129) (v := ?_) (a' := ?_) #[true, true, true, true, true, true, true, true, true, true, true, true, true, true, true, true, true, true, true, true, true, true, true, true, true, false] rfl rfl (any_of HT_.out (by kernel_rfl)) (fun _ _ _ h => h) (Or.inl ⟨by rfl, ?_⟩) ?_ ?_
             rotate_left
             ·
              intro w'
              go_simp
              with_reducible rfl
             rotate_left
             ·
              pt_
              rfl
             refine pure_ (i := 25) (N := some 130) (v := ?_) (a' := ?_) #[true, true, true, true, true, true, true, true, true, true, true, true, true, true, true, true, true, true, true, true, true, true, true, true, true, true] rfl rfl (any_of HT_.out (by kernel_rfl)) (fun _ _ _ h => h) (Or.inl ⟨by rfl, ?_⟩) ?_ ?_
             rotate_left
             ·
              intro w'
              go_simp
              with_reducible rfl
             rotate_left
             ·
              pt_
              rfl
             refine done_ (done_of HT_.out (by kernel_rfl)) ?_
             try go_wp2
             go_meet
             case rel => exact ⟨_, (false), (by first | rfl | (simp; done) | (simp [*]; done)), H', ⟨by have := HJ5.out; have := HJ37.out; have := HJ72.out; first | omega | exact Nat.le_refl _⟩, ⟨by rp_; exact BK377.out⟩, ⟨by rp_; exact BK378.out⟩, ⟨by rp_; exact BK379.out⟩, ⟨by rp_; exact BK397.out⟩, ⟨by rp_; exact BK405.out⟩, ⟨by rp_; exact BK413.out⟩, ⟨by repeat (first | (with_reducible first | exact HB.out | apply below_alloc | apply pw_below_drewN | apply below_drew1 | refine below_set ?_ GE377.out | refine below_set ?_ GE378.out | refine below_set ?_ GE379.out | refine below_set ?_ GE397.out | refine below_set ?_ GE405.out | refine below_set ?_ GE413.out) | exact HB.out)⟩⟩
           ·
            replace c142 := Bool.eq_false_iff.mpr c142
            subst c142
            have H1 : (redpencillaw09_NodeHolds.j3 kj72 t396 t404 t412 true a0_0 a0_1 a0_2 a0_3 a0_4 a0_5 a2_0 a2_1 a2_2 a2_3 a2_4 a2_5 t390 t391 t392 t393 t394 t395 t398 t399 t400 t401 t402 t403) = some true := by rw [if_neg (show ¬ (false = true) by decide)] at H; exact H
            exact absurd H1 (redpencillaw09_NodeHolds.j3_no _ _ _ _ _ _ _ _ _ _ _ _ _ _ _ _ _ _ _ _ _ _ _ _ _ _ _ _)
          case rest =>
           clear HC110
           try clear c1
           try clear p2
           try clear c14
           try clear c16
           try clear c17
           try clear c142
           try clear c143
           try clear c143b0
           try clear c143b1
           obtain ⟨kq, x130_109, rfl, HA, HJ109, BK377, BK378, BK379, BK397, BK405, BK413, HB⟩ := hcut
           cases kq with
           | zero => exact absurd HA.out (by simp [redpencillaw09_NodeHolds.j3])
           | succ kj109 =>
            have H := HA.out
            clear HA
            simp only [redpencillaw09_NodeHolds.j3] at H
            by_cases c182 : x130_109 = true
            ·
             subst c182
             have H1 : (some false) = some true := by rw [if_pos rfl] at H; exact H
             exact absurd H1 (by simp)
            ·
             replace c182 := Bool.eq_false_iff.mpr c182
             subst c182
             have H1 : (if t396 = 0 then (if t404 = 0 then (redpencillaw09_NodeHolds.j4 kj109 (t412 != 0) a0_0 a0_1 a0_2 a0_3 a0_4 a0_5 a2_0 a2_1 a2_2 a2_3 a2_4 a2_5 t390 t391 t392 t393 t394 t395 t398 t399 t400 t401 t402 t403) else (redpencillaw09_NodeHolds.j4 kj109 true a0_0 a0_1 a0_2 a0_3 a0_4 a0_5 a2_0 a2_1 a2_2 a2_3 a2_4 a2_5 t390 t391 t392 t393 t394 t395 t398 t399 t400 t401 t402 t403)) else (redpencillaw09_NodeHolds.j4 kj109 true a0_0 a0_1 a0_2 a0_3 a0_4 a0_5 a2_0 a2_1 a2_2 a2_3 a2_4 a2_5 t390 t391 t392 t393 t394 t395 t398 t399 t400 t401 t402 t403)) = some true := by rw [if_neg (show ¬ (false = true) by decide)] at H; exact H
             clear H
             have H := H1
             clear H1
             have HC183 := Aside0.mk H
             clear H
             go_upto_region 14 with (fail)
             go_cut [140] (fun v140 wc => ∃ (kq : Nat) (x140_182 : Bool), v140 = .bool x140_182 ∧ Aside0 (redpencillaw09_NodeHolds.j4 kq x140_182 a0_0 a0_1 a0_2 a0_3 a0_4 a0_5 a2_0 a2_1 a2_2 a2_3 a2_4 a2_5 t390 t391 t392 t393 t394 t395 t398 t399 t400 t401 t402 t403 = some true) ∧ Aside0 (kq ≤ kj109) ∧ Aside0 (wc.heap[gb377]? = some (.cells #[.int .i64 a0_0, .int .i64 a0_1, .int .i64 a0_2, .int .i64 a0_3, .int .i64 a0_4, .int .i32 a0_5] 25 (0, 0))) ∧ Aside0 (wc.heap[gb378]? = some (.cells #[.int .i64 a1_0, .int .i64 a1_1, .int .i64 a1_2, .int .i64 a1_3, .int .i64 a1_4, .int .i32 a1_5] 25 (0, 0))) ∧ Aside0 (wc.heap[gb379]? = some (.cells #[.int .i64 a2_0, .int .i64 a2_1, .int .i64 a2_2, .int .i64 a2_3, .int .i64 a2_4, .int .i32 a2_5] 25 (0, 0))) ∧ Aside0 (wc.heap[gb397]? = some (.cells #[.int .i64 t390, .int .i64 t391, .int .i64 t392, .int .i64 t393, .int .i64 t394, .int .i32 t395] 25 (0, 0))) ∧ Aside0 (wc.heap[gb405]? = some (.cells #[.int .i64 t398, .int .i64 t399, .int .i64 t400, .int .i64 t401, .int .i64 t402, .int .i32 t403] 25 (0, 0))) ∧ Aside0 (wc.heap[gb413]? = some (.cells #[.int .i64 t406, .int .i64 t407, .int .i64 t408, .int .i64 t409, .int .i64 t410, .int .i32 t411] 25 (0, 0))) ∧ Aside0 (Below w.heap.size w wc))
             case first =>
              have H := HC183.out
              clear HC183
              by_cases c184 : t396 = 0
              ·
               rw [if_pos c184] at H
               have c184b0 : (t396 == 0) = true := beq_iff_eq.mpr c184
               have c184b1 : (t396 != 0) = false := bne_eq_false_iff_eq.mpr c184
               clear c184
               (first | rw [c184b0] | (simp only [i64_w, i32_w]; rw [c184b0]) | skip)
               by_cases c185 : t404 = 0
               ·
                rw [if_pos c185] at H
                have c185b0 : (t404 == 0) = true := beq_iff_eq.mpr c185
                have c185b1 : (t404 != 0) = false := bne_eq_false_iff_eq.mpr c185
                clear c185
                have H' := Aside0.mk H
                clear H
                go_wp2
                go_meet
                case rel => exact ⟨_, ((t412 != 0)), (by first | rfl | (simp; done) | (simp [*]; done)), H', ⟨by have := HJ5.out; have := HJ37.out; have := HJ72.out; have := HJ109.out; first | omega | exact Nat.le_refl _⟩, ⟨by rp_; exact BK377.out⟩, ⟨by rp_; exact BK378.out⟩, ⟨by rp_; exact BK379.out⟩, ⟨by rp_; exact BK397.out⟩, ⟨by rp_; exact BK405.out⟩, ⟨by rp_; exact BK413.out⟩, ⟨by repeat (first | (with_reducible first | exact HB.out | apply below_alloc | apply pw_below_drewN | apply below_drew1 | refine below_set ?_ GE377.out | refine below_set ?_ GE378.out | refine below_set ?_ GE379.out | refine below_set ?_ GE397.out | refine below_set ?_ GE405.out | refine below_set ?_ GE413.out) | exact HB.out)⟩⟩
               ·
                rw [if_neg c185] at H
                have c185b0 : (t404 == 0) = false := beq_eq_false_iff_ne.mpr c185
                have c185b1 : (t404 != 0) = true := bne_iff_ne.mpr c185
                have H' := Aside0.mk H
                clear H
                go_wp2
                go_meet
                case rel => exact ⟨_, (true), (by first | rfl | (simp; done) | (simp [*]; done)), H', ⟨by have := HJ5.out; have := HJ37.out; have := HJ72.out; have := HJ109.out; first | omega | exact Nat.le_refl _⟩, ⟨by rp_; exact BK377.out⟩, ⟨by rp_; exact BK378.out⟩, ⟨by rp_; exact BK379.out⟩, ⟨by rp_; exact BK397.out⟩, ⟨by rp_; exact BK405.out⟩, ⟨by rp_; exact BK413.out⟩, ⟨by repeat (first | (with_reducible first | exact HB.out | apply below_alloc | apply pw_below_drewN | apply below_drew1 | refine below_set ?_ GE377.out | refine below_set ?_ GE378.out | refine below_set ?_ GE379.out | refine below_set ?_ GE397.out | refine below_set ?_ GE405.out | refine below_set ?_ GE413.out) | exact HB.out)⟩⟩
              ·
               rw [if_neg c184] at H
               have c184b0 : (t396 == 0) = false := beq_eq_false_iff_ne.mpr c184
               have c184b1 : (t396 != 0) = true := bne_iff_ne.mpr c184
               (first | rw [c184b0] | (simp only [i64_w, i32_w]; rw [c184b0]) | skip)
               have H' := Aside0.mk H
               clear H
               go_wp2
               go_meet
               case rel => exact ⟨_, (true), (by first | rfl | (simp; done) | (simp [*]; done)), H', ⟨by have := HJ5.out; have := HJ37.out; have := HJ72.out; have := HJ109.out; first | omega | exact Nat.le_refl _⟩, ⟨by rp_; exact BK377.out⟩, ⟨by rp_; exact BK378.out⟩, ⟨by rp_; exact BK379.out⟩, ⟨by rp_; exact BK397.out⟩, ⟨by rp_; exact BK405.out⟩, ⟨by rp_; exact BK413.out⟩, ⟨by repeat (first | (with_reducible first | exact HB.out | apply below_alloc | apply pw_below_drewN | apply below_drew1 | refine below_set ?_ GE377.out | refine below_set ?_ GE378.out | refine below_set ?_ GE379.out | refine below_set ?_ GE397.out | refine below_set ?_ GE405.out | refine below_set ?_ GE413.out) | exact HB.out)⟩⟩
             case rest =>
              clear HC183
              try clear c1
              try clear p2
              try clear c14
              try clear c16
              try clear c17
              try clear c18
              try clear c142
              try clear c143
              try clear c143b0
              try clear c143b1
              try clear c182
              try clear c184
              try clear c184b0
              try clear c184b1
              try clear c185
              try clear c185b0
              try clear c185b1
              try clear p2
              obtain ⟨kq, x140_182, rfl, HA, HJ182, BK377, BK378, BK379, BK397, BK405, BK413, HB⟩ := hcut
              cases kq with
              | zero => exact absurd HA.out (by simp [redpencillaw09_NodeHolds.j4])
              | succ kj182 =>
               have H := HA.out
               clear HA
               simp only [redpencillaw09_NodeHolds.j4] at H
               by_cases c186 : x140_182 = true
               ·
                subst c186
                have H1 : ((redpencillaw09_known.f kj182).bind fun t420 => (some t420)) = some true := by rw [if_pos rfl] at H; exact H
                clear H
                have H := H1
                clear H1
                replace H := Option.bind_eq_some_iff.mp H
                obtain ⟨t420, A1870, H⟩ := H
                replace H : (some t420) = some true := H
                have A187 := Aside0.mk A1870
                clear A1870
                obtain rfl := Option.some.inj H
                go_wp2_with (first | ((have gd_ := A187; clear gd_); (with_reducible refine gate_callee (f := 8) rfl ?_); refine goesL_ (some 141) rfl rfl Tryz.func8 (by kernel_rfl) rfl #[] rfl (by (try simp only [List.map_toArray, List.map_cons, List.map_nil]); first | done | rfl | (simp only [List.length_drop, List.length_take]; rfl)) ?_; (with_reducible refine (redpencillaw09_known.calls kj182  true _ ?side1 A187.out).mono ?_); (case side1 => exact GOK_below HG.out (by repeat (first | (with_reducible first | exact HB.out | apply below_alloc | apply pw_below_drewN | apply below_drew1 | refine below_set ?_ GE377.out | refine below_set ?_ GE378.out | refine below_set ?_ GE379.out | refine below_set ?_ GE397.out | refine below_set ?_ GE405.out | refine below_set ?_ GE413.out) | exact HB.out))); rintro e w188 ⟨rfl, hb⟩; (try clear A187); refine ⟨_, rfl, ?_⟩; have n0_ := Aside0.mk (blk_below (g := gb377) (by rp_; exact BK377.out) hb); have n1_ := Aside0.mk (blk_below (g := gb378) (by rp_; exact BK378.out) hb); have n2_ := Aside0.mk (blk_below (g := gb379) (by rp_; exact BK379.out) hb); have n3_ := Aside0.mk (blk_below (g := gb397) (by rp_; exact BK397.out) hb); have n4_ := Aside0.mk (blk_below (g := gb405) (by rp_; exact BK405.out) hb); have n5_ := Aside0.mk (blk_below (g := gb413) (by rp_; exact BK413.out) hb); have n6_ := Aside0.mk (below_step (by repeat (first | (with_reducible first | exact HB.out | apply below_alloc | apply pw_below_drewN | apply below_drew1 | refine below_set ?_ GE377.out | refine below_set ?_ GE378.out | refine below_set ?_ GE379.out | refine below_set ?_ GE397.out | refine below_set ?_ GE405.out | refine below_set ?_ GE413.out) | exact HB.out)) hb); clear BK377; clear BK378; clear BK379; clear BK397; clear BK405; clear BK413; clear HB; have BK377 := n0_; have BK378 := n1_; have BK379 := n2_; have BK397 := n3_; have BK405 := n4_; have BK413 := n5_; have HB := n6_; clear n0_ n1_ n2_ n3_ n4_ n5_ n6_; (try clear hb); (try clear hb2); (try clear hk); (try clear hi)))
                go_ret
                exact ⟨by first | rfl | (simp [errW_none, errW_some] <;> rfl) | (simp [*, errW_none, errW_some] <;> rfl), by repeat (first | (with_reducible first | exact HB.out | apply below_alloc | apply pw_below_drewN | apply below_drew1 | refine below_set ?_ GE377.out | refine below_set ?_ GE378.out | refine below_set ?_ GE379.out | refine below_set ?_ GE397.out | refine below_set ?_ GE405.out | refine below_set ?_ GE413.out) | exact HB.out)⟩
               ·
                replace c186 := Bool.eq_false_iff.mpr c186
                subst c186
                have H1 : ((node_Merge.f kj182 t390 t391 t392 t393 t394 t395 a2_0 a2_1 a2_2 a2_3 a2_4 a2_5).bind fun bt421 => (if bt421.2.2.2.2.2.2 = 0 then ((redpencillaw09_merges.f kj182 a0_0 a0_1 a0_2 a0_3 a0_4 a0_5 t398 t399 t400 t401 t402 t403 bt421.1 bt421.2.1 bt421.2.2.1 bt421.2.2.2.1 bt421.2.2.2.2.1 bt421.2.2.2.2.2.1 0).bind fun t429 => (if t429 = true then ((redpencillaw09_known.f kj182).bind fun t430 => (some t430)) else (some false))) else (some false))) = some true := by rw [if_neg (show ¬ (false = true) by decide)] at H; exact H
                clear H
                have H := H1
                clear H1
                replace H := Option.bind_eq_some_iff.mp H
                obtain ⟨⟨t421, t422, t423, t424, t425, t426, t427⟩, A1890, H⟩ := H
                replace H : (if t427 = 0 then ((redpencillaw09_merges.f kj182 a0_0 a0_1 a0_2 a0_3 a0_4 a0_5 t398 t399 t400 t401 t402 t403 t421 t422 t423 t424 t425 t426 0).bind fun t429 => (if t429 = true then ((redpencillaw09_known.f kj182).bind fun t430 => (some t430)) else (some false))) else (some false)) = some true := H
                have A189 := Aside0.mk A1890
                clear A1890
                by_cases c190 : t427 = 0
                ·
                 rw [if_pos c190] at H
                 have c190b0 : (t427 == 0) = true := beq_iff_eq.mpr c190
                 have c190b1 : (t427 != 0) = false := bne_eq_false_iff_eq.mpr c190
                 clear c190
                 replace H := Option.bind_eq_some_iff.mp H
                 obtain ⟨t429, A1910, H⟩ := H
                 replace H : (if t429 = true then ((redpencillaw09_known.f kj182).bind fun t430 => (some t430)) else (some false)) = some true := H
                 have A191 := Aside0.mk A1910
                 clear A1910
                 by_cases c192 : t429 = true
                 ·
                  subst c192
                  have H1 : ((redpencillaw09_known.f kj182).bind fun t430 => (some t430)) = some true := by rw [if_pos rfl] at H; exact H
                  clear H
                  have H := H1
                  clear H1
                  replace H := Option.bind_eq_some_iff.mp H
                  obtain ⟨t430, A1930, H⟩ := H
                  replace H : (some t430) = some true := H
                  have A193 := Aside0.mk A1930
                  clear A1930
                  obtain rfl := Option.some.inj H
                  have hnb194 := NB397_377.out
                  have hnc194 := NB377_397.out
                  have hnb195 := NB397_378.out
                  have hnc195 := NB378_397.out
                  have hnb196 := NB397_379.out
                  have hnc196 := NB379_397.out
                  have hnb197 := NB397_405.out
                  have hnc197 := NB405_397.out
                  have hnb198 := NB397_413.out
                  have hnc198 := NB413_397.out
                  have hcz199_0 : wc.cell? ⟨gb397, 0, none⟩ = some (.int .i64 t390) := (blk_cell BK397.out 0).trans rfl
                  have hcz199_1 : wc.cell? ⟨gb397, 1, none⟩ = some (.int .i64 t391) := (blk_cell BK397.out 1).trans rfl
                  have hcz199_2 : wc.cell? ⟨gb397, 2, none⟩ = some (.int .i64 t392) := (blk_cell BK397.out 2).trans rfl
                  have hcz199_3 : wc.cell? ⟨gb397, 3, none⟩ = some (.int .i64 t393) := (blk_cell BK397.out 3).trans rfl
                  have hcz199_4 : wc.cell? ⟨gb397, 4, none⟩ = some (.int .i64 t394) := (blk_cell BK397.out 4).trans rfl
                  have hcz199_5 : wc.cell? ⟨gb397, 5, none⟩ = some (.int .i32 t395) := (blk_cell BK397.out 5).trans rfl
                  have hfz199_0 := blk_frozen BK397.out 0
                  have hfz199_1 := blk_frozen BK397.out 1
                  have hfz199_2 := blk_frozen BK397.out 2
                  have hfz199_3 := blk_frozen BK397.out 3
                  have hfz199_4 := blk_frozen BK397.out 4
                  have hfz199_5 := blk_frozen BK397.out 5
                  have hnb200 := NB379_377.out
                  have hnc200 := NB377_379.out
                  have hnb201 := NB379_378.out
                  have hnc201 := NB378_379.out
                  have hnb202 := NB379_405.out
                  have hnc202 := NB405_379.out
                  have hnb203 := NB379_413.out
                  have hnc203 := NB413_379.out
                  have hcz204_0 : wc.cell? ⟨gb379, 0, none⟩ = some (.int .i64 a2_0) := (blk_cell BK379.out 0).trans rfl
                  have hcz204_1 : wc.cell? ⟨gb379, 1, none⟩ = some (.int .i64 a2_1) := (blk_cell BK379.out 1).trans rfl
                  have hcz204_2 : wc.cell? ⟨gb379, 2, none⟩ = some (.int .i64 a2_2) := (blk_cell BK379.out 2).trans rfl
                  have hcz204_3 : wc.cell? ⟨gb379, 3, none⟩ = some (.int .i64 a2_3) := (blk_cell BK379.out 3).trans rfl
                  have hcz204_4 : wc.cell? ⟨gb379, 4, none⟩ = some (.int .i64 a2_4) := (blk_cell BK379.out 4).trans rfl
                  have hcz204_5 : wc.cell? ⟨gb379, 5, none⟩ = some (.int .i32 a2_5) := (blk_cell BK379.out 5).trans rfl
                  have hfz204_0 := blk_frozen BK379.out 0
                  have hfz204_1 := blk_frozen BK379.out 1
                  have hfz204_2 := blk_frozen BK379.out 2
                  have hfz204_3 := blk_frozen BK379.out 3
                  have hfz204_4 := blk_frozen BK379.out 4
                  have hfz204_5 := blk_frozen BK379.out 5
                  go_wp2_with (first | ((have gd_ := A189; clear gd_); (with_reducible refine gate_callee (f := 18) rfl ?_); refine goesL_ (some 145) rfl rfl Tryz.func18 (by kernel_rfl) rfl #[.agg #[.int .i64 t390, .int .i64 t391, .int .i64 t392, .int .i64 t393, .int .i64 t394, .int .i32 t395], .agg #[.int .i64 a2_0, .int .i64 a2_1, .int .i64 a2_2, .int .i64 a2_3, .int .i64 a2_4, .int .i32 a2_5]] rfl (by (try simp only [List.map_toArray, List.map_cons, List.map_nil]); first | done | rfl | (simp only [List.length_drop, List.length_take]; rfl)) ?_; (with_reducible refine (node_Merge.calls kj182 t390 t391 t392 t393 t394 t395 a2_0 a2_1 a2_2 a2_3 a2_4 a2_5 t421 t422 t423 t424 t425 t426 t427 _ A189.out).mono ?_); rintro e w205 ⟨rfl, hb⟩; (try clear A189); refine ⟨_, rfl, ?_⟩; have n0_ := Aside0.mk (blk_below (g := gb377) (by rp_; exact BK377.out) hb); have n1_ := Aside0.mk (blk_below (g := gb378) (by rp_; exact BK378.out) hb); have n2_ := Aside0.mk (blk_below (g := gb379) (by rp_; exact BK379.out) hb); have n3_ := Aside0.mk (blk_below (g := gb397) (by rp_; exact BK397.out) hb); have n4_ := Aside0.mk (blk_below (g := gb405) (by rp_; exact BK405.out) hb); have n5_ := Aside0.mk (blk_below (g := gb413) (by rp_; exact BK413.out) hb); have n6_ := Aside0.mk (below_step (by repeat (first | (with_reducible first | exact HB.out | apply below_alloc | apply pw_below_drewN | apply below_drew1 | refine below_set ?_ GE377.out | refine below_set ?_ GE378.out | refine below_set ?_ GE379.out | refine below_set ?_ GE397.out | refine below_set ?_ GE405.out | refine below_set ?_ GE413.out) | exact HB.out)) hb); clear BK377; clear BK378; clear BK379; clear BK397; clear BK405; clear BK413; clear HB; have BK377 := n0_; have BK378 := n1_; have BK379 := n2_; have BK397 := n3_; have BK405 := n4_; have BK413 := n5_; have HB := n6_; clear n0_ n1_ n2_ n3_ n4_ n5_ n6_; (try clear hb); (try clear hb2); (try clear hk); (try clear hi)) | ((with_reducible refine gate_dst (N := 16) rfl ?_); refine box_event ?hg (N := 16) ?hd (cs := #[.int .i64 0, .int .i64 0, .int .i64 0, .int .i64 0, .int .i64 0, .int .i32 0]) (t := 25) ?hr ?_; (case hd => rfl); (case hg => rfl); (case hr => first | (go_simp; done) | (go_simp; rfl)); intro gb428 hg w206 hbox hb; have n0_ := Aside0.mk (blk_below (g := gb377) (by rp_; exact BK377.out) hb); have n1_ := Aside0.mk (blk_below (g := gb378) (by rp_; exact BK378.out) hb); have n2_ := Aside0.mk (blk_below (g := gb379) (by rp_; exact BK379.out) hb); have n3_ := Aside0.mk (blk_below (g := gb397) (by rp_; exact BK397.out) hb); have n4_ := Aside0.mk (blk_below (g := gb405) (by rp_; exact BK405.out) hb); have n5_ := Aside0.mk (blk_below (g := gb413) (by rp_; exact BK413.out) hb); have n6_ := Aside0.mk (below_step (by repeat (first | (with_reducible first | exact HB.out | apply below_alloc | apply pw_below_drewN | apply below_drew1 | refine below_set ?_ GE377.out | refine below_set ?_ GE378.out | refine below_set ?_ GE379.out | refine below_set ?_ GE397.out | refine below_set ?_ GE405.out | refine below_set ?_ GE413.out) | exact HB.out)) hb); have n7_ := Aside0.mk (hbox); have n8_ := Aside0.mk ((by rw [hg]; exact (below_size (by repeat (first | (with_reducible first | exact HB.out | apply below_alloc | apply pw_below_drewN | apply below_drew1 | refine below_set ?_ GE377.out | refine below_set ?_ GE378.out | refine below_set ?_ GE379.out | refine below_set ?_ GE397.out | refine below_set ?_ GE405.out | refine below_set ?_ GE413.out) | exact HB.out))) : w.heap.size ≤ gb428)); have n9_ := Aside0.mk ((by rw [hg]; exact (below_size (by repeat (first | (with_reducible first | exact HB.out | apply below_alloc | apply pw_below_drewN | apply below_drew1 | refine below_set ?_ GE377.out | refine below_set ?_ GE378.out | refine below_set ?_ GE379.out | refine below_set ?_ GE397.out | refine below_set ?_ GE405.out | refine below_set ?_ GE413.out) | exact HB.out))) : w.heap.size ≤ gb428)); have n10_ := Aside0.mk ((by rw [hg]; exact Nat.ne_of_lt (blk_lt (g := gb377) (by rp_; exact BK377.out)) : gb377 ≠ gb428)); have n11_ := Aside0.mk ((by rw [hg]; exact Nat.ne_of_gt (blk_lt (g := gb377) (by rp_; exact BK377.out)) : gb428 ≠ gb377)); have n12_ := Aside0.mk ((by rw [hg]; exact Nat.ne_of_lt (blk_lt (g := gb378) (by rp_; exact BK378.out)) : gb378 ≠ gb428)); have n13_ := Aside0.mk ((by rw [hg]; exact Nat.ne_of_gt (blk_lt (g := gb378) (by rp_; exact BK378.out)) : gb428 ≠ gb378)); have n14_ := Aside0.mk ((by rw [hg]; exact Nat.ne_of_lt (blk_lt (g := gb379) (by rp_; exact BK379.out)) : gb379 ≠ gb428)); have n15_ := Aside0.mk ((by rw [hg]; exact Nat.ne_of_gt (blk_lt (g := gb379) (by rp_; exact BK379.out)) : gb428 ≠ gb379)); have n16_ := Aside0.mk ((by rw [hg]; exact Nat.ne_of_lt (blk_lt (g := gb397) (by rp_; exact BK397.out)) : gb397 ≠ gb428)); have n17_ := Aside0.mk ((by rw [hg]; exact Nat.ne_of_gt (blk_lt (g := gb397) (by rp_; exact BK397.out)) : gb428 ≠ gb397)); have n18_ := Aside0.mk ((by rw [hg]; exact Nat.ne_of_lt (blk_lt (g := gb405) (by rp_; exact BK405.out)) : gb405 ≠ gb428)); have n19_ := Aside0.mk ((by rw [hg]; exact Nat.ne_of_gt (blk_lt (g := gb405) (by rp_; exact BK405.out)) : gb428 ≠ gb405)); have n20_ := Aside0.mk ((by rw [hg]; exact Nat.ne_of_lt (blk_lt (g := gb413) (by rp_; exact BK413.out)) : gb413 ≠ gb428)); have n21_ := Aside0.mk ((by rw [hg]; exact Nat.ne_of_gt (blk_lt (g := gb413) (by rp_; exact BK413.out)) : gb428 ≠ gb413)); clear BK377; clear BK378; clear BK379; clear BK397; clear BK405; clear BK413; clear HB; have BK377 := n0_; have BK378 := n1_; have BK379 := n2_; have BK397 := n3_; have BK405 := n4_; have BK413 := n5_; have HB := n6_; have BK428 := n7_; have GW428 := n8_; have GE428 := n9_; have NB377_428 := n10_; have NB428_377 := n11_; have NB378_428 := n12_; have NB428_378 := n13_; have NB379_428 := n14_; have NB428_379 := n15_; have NB397_428 := n16_; have NB428_397 := n17_; have NB405_428 := n18_; have NB428_405 := n19_; have NB413_428 := n20_; have NB428_413 := n21_; clear n0_ n1_ n2_ n3_ n4_ n5_ n6_ n7_ n8_ n9_ n10_ n11_ n12_ n13_ n14_ n15_ n16_ n17_ n18_ n19_ n20_ n21_; clear hb hbox hg; have hnb207 := NB428_377.out; have hnc207 := NB377_428.out; have hnb208 := NB428_378.out; have hnc208 := NB378_428.out; have hnb209 := NB428_379.out; have hnc209 := NB379_428.out; have hnb210 := NB428_397.out; have hnc210 := NB397_428.out; have hnb211 := NB428_405.out; have hnc211 := NB405_428.out; have hnb212 := NB428_413.out; have hnc212 := NB413_428.out; have hcz213_0 : w206.cell? ⟨gb428, 0, none⟩ = some (.int .i64 0) := (blk_cell BK428.out 0).trans rfl; have hcz213_1 : w206.cell? ⟨gb428, 1, none⟩ = some (.int .i64 0) := (blk_cell BK428.out 1).trans rfl; have hcz213_2 : w206.cell? ⟨gb428, 2, none⟩ = some (.int .i64 0) := (blk_cell BK428.out 2).trans rfl; have hcz213_3 : w206.cell? ⟨gb428, 3, none⟩ = some (.int .i64 0) := (blk_cell BK428.out 3).trans rfl; have hcz213_4 : w206.cell? ⟨gb428, 4, none⟩ = some (.int .i64 0) := (blk_cell BK428.out 4).trans rfl; have hcz213_5 : w206.cell? ⟨gb428, 5, none⟩ = some (.int .i32 0) := (blk_cell BK428.out 5).trans rfl; have hfz213_0 := blk_frozen BK428.out 0; have hfz213_1 := blk_frozen BK428.out 1; have hfz213_2 := blk_frozen BK428.out 2; have hfz213_3 := blk_frozen BK428.out 3; have hfz213_4 := blk_frozen BK428.out 4; have hfz213_5 := blk_frozen BK428.out 5; have hnb214 := NB377_378.out; have hnc214 := NB378_377.out; have hnb215 := NB377_405.out; have hnc215 := NB405_377.out; have hnb216 := NB377_413.out; have hnc216 := NB413_377.out; have hcz217_0 : w206.cell? ⟨gb377, 0, none⟩ = some (.int .i64 a0_0) := (blk_cell BK377.out 0).trans rfl; have hcz217_1 : w206.cell? ⟨gb377, 1, none⟩ = some (.int .i64 a0_1) := (blk_cell BK377.out 1).trans rfl; have hcz217_2 : w206.cell? ⟨gb377, 2, none⟩ = some (.int .i64 a0_2) := (blk_cell BK377.out 2).trans rfl; have hcz217_3 : w206.cell? ⟨gb377, 3, none⟩ = some (.int .i64 a0_3) := (blk_cell BK377.out 3).trans rfl; have hcz217_4 : w206.cell? ⟨gb377, 4, none⟩ = some (.int .i64 a0_4) := (blk_cell BK377.out 4).trans rfl; have hcz217_5 : w206.cell? ⟨gb377, 5, none⟩ = some (.int .i32 a0_5) := (blk_cell BK377.out 5).trans rfl; have hfz217_0 := blk_frozen BK377.out 0; have hfz217_1 := blk_frozen BK377.out 1; have hfz217_2 := blk_frozen BK377.out 2; have hfz217_3 := blk_frozen BK377.out 3; have hfz217_4 := blk_frozen BK377.out 4; have hfz217_5 := blk_frozen BK377.out 5; have hnb218 := NB405_378.out; have hnc218 := NB378_405.out; have hnb219 := NB405_413.out; have hnc219 := NB413_405.out; have hcz220_0 : w206.cell? ⟨gb405, 0, none⟩ = some (.int .i64 t398) := (blk_cell BK405.out 0).trans rfl; have hcz220_1 : w206.cell? ⟨gb405, 1, none⟩ = some (.int .i64 t399) := (blk_cell BK405.out 1).trans rfl; have hcz220_2 : w206.cell? ⟨gb405, 2, none⟩ = some (.int .i64 t400) := (blk_cell BK405.out 2).trans rfl; have hcz220_3 : w206.cell? ⟨gb405, 3, none⟩ = some (.int .i64 t401) := (blk_cell BK405.out 3).trans rfl; have hcz220_4 : w206.cell? ⟨gb405, 4, none⟩ = some (.int .i64 t402) := (blk_cell BK405.out 4).trans rfl; have hcz220_5 : w206.cell? ⟨gb405, 5, none⟩ = some (.int .i32 t403) := (blk_cell BK405.out 5).trans rfl; have hfz220_0 := blk_frozen BK405.out 0; have hfz220_1 := blk_frozen BK405.out 1; have hfz220_2 := blk_frozen BK405.out 2; have hfz220_3 := blk_frozen BK405.out 3; have hfz220_4 := blk_frozen BK405.out 4; have hfz220_5 := blk_frozen BK405.out 5) | ((have gd_ := A191; clear gd_); go_at_call 17; (with_reducible refine (redpencillaw09_merges.calls kj182 a0_0 a0_1 a0_2 a0_3 a0_4 a0_5 t398 t399 t400 t401 t402 t403 t421 t422 t423 t424 t425 t426 0 true _ A191.out).mono ?_); rintro e w221 ⟨rfl, hb⟩; (try clear A191); have n0_ := Aside0.mk (blk_below_of BK377.out (by rp_; refine blk_far ?_ NB377_428.out _; rp_; refine blk_far ?_ NB377_428.out _; rp_; refine blk_far ?_ NB377_428.out _; rp_; refine blk_far ?_ NB377_428.out _; rp_; refine blk_far ?_ NB377_428.out _; rp_; refine blk_far ?_ NB377_428.out _; rp_; exact BK377.out) hb); have n1_ := Aside0.mk (blk_below_of BK378.out (by rp_; refine blk_far ?_ NB378_428.out _; rp_; refine blk_far ?_ NB378_428.out _; rp_; refine blk_far ?_ NB378_428.out _; rp_; refine blk_far ?_ NB378_428.out _; rp_; refine blk_far ?_ NB378_428.out _; rp_; refine blk_far ?_ NB378_428.out _; rp_; exact BK378.out) hb); have n2_ := Aside0.mk (blk_below_of BK379.out (by rp_; refine blk_far ?_ NB379_428.out _; rp_; refine blk_far ?_ NB379_428.out _; rp_; refine blk_far ?_ NB379_428.out _; rp_; refine blk_far ?_ NB379_428.out _; rp_; refine blk_far ?_ NB379_428.out _; rp_; refine blk_far ?_ NB379_428.out _; rp_; exact BK379.out) hb); have n3_ := Aside0.mk (blk_below_of BK397.out (by rp_; refine blk_far ?_ NB397_428.out _; rp_; refine blk_far ?_ NB397_428.out _; rp_; refine blk_far ?_ NB397_428.out _; rp_; refine blk_far ?_ NB397_428.out _; rp_; refine blk_far ?_ NB397_428.out _; rp_; refine blk_far ?_ NB397_428.out _; rp_; exact BK397.out) hb); have n4_ := Aside0.mk (blk_below_of BK405.out (by rp_; refine blk_far ?_ NB405_428.out _; rp_; refine blk_far ?_ NB405_428.out _; rp_; refine blk_far ?_ NB405_428.out _; rp_; refine blk_far ?_ NB405_428.out _; rp_; refine blk_far ?_ NB405_428.out _; rp_; refine blk_far ?_ NB405_428.out _; rp_; exact BK405.out) hb); have n5_ := Aside0.mk (blk_below_of BK413.out (by rp_; refine blk_far ?_ NB413_428.out _; rp_; refine blk_far ?_ NB413_428.out _; rp_; refine blk_far ?_ NB413_428.out _; rp_; refine blk_far ?_ NB413_428.out _; rp_; refine blk_far ?_ NB413_428.out _; rp_; refine blk_far ?_ NB413_428.out _; rp_; exact BK413.out) hb); have n6_ := Aside0.mk (blk_below_k BK428.out (by rp_; refine blk_put (cs := #[.int .i64 t421, .int .i64 t422, .int .i64 t423, .int .i64 t424, .int .i64 t425, .int .i32 0]) ?_ 5 _ rfl; rp_; refine blk_put (cs := #[.int .i64 t421, .int .i64 t422, .int .i64 t423, .int .i64 t424, .int .i64 0, .int .i32 0]) ?_ 4 _ rfl; rp_; refine blk_put (cs := #[.int .i64 t421, .int .i64 t422, .int .i64 t423, .int .i64 0, .int .i64 0, .int .i32 0]) ?_ 3 _ rfl; rp_; refine blk_put (cs := #[.int .i64 t421, .int .i64 t422, .int .i64 0, .int .i64 0, .int .i64 0, .int .i32 0]) ?_ 2 _ rfl; rp_; refine blk_put (cs := #[.int .i64 t421, .int .i64 0, .int .i64 0, .int .i64 0, .int .i64 0, .int .i32 0]) ?_ 1 _ rfl; rp_; refine blk_put (cs := #[.int .i64 0, .int .i64 0, .int .i64 0, .int .i64 0, .int .i64 0, .int .i32 0]) ?_ 0 _ rfl; rp_; exact BK428.out) hb); have n7_ := Aside0.mk (below_step (by repeat (first | (with_reducible first | exact HB.out | apply below_alloc | apply pw_below_drewN | apply below_drew1 | refine below_set ?_ GE377.out | refine below_set ?_ GE378.out | refine below_set ?_ GE379.out | refine below_set ?_ GE397.out | refine below_set ?_ GE405.out | refine below_set ?_ GE413.out | refine below_set ?_ GE428.out) | exact HB.out)) hb); clear BK377; clear BK378; clear BK379; clear BK397; clear BK405; clear BK413; clear BK428; clear HB; have BK377 := n0_; have BK378 := n1_; have BK379 := n2_; have BK397 := n3_; have BK405 := n4_; have BK413 := n5_; have BK428 := n6_; have HB := n7_; clear n0_ n1_ n2_ n3_ n4_ n5_ n6_ n7_; (try clear hb); (try clear hb2); (try clear hk); (try clear hi)) | ((have gd_ := A193; clear gd_); go_at_call 8; (with_reducible refine (redpencillaw09_known.calls kj182  true _ ?side1 A193.out).mono ?_); (case side1 => exact GOK_below HG.out (by repeat (first | (with_reducible first | exact HB.out | apply below_alloc | apply pw_below_drewN | apply below_drew1 | refine below_set ?_ GE377.out | refine below_set ?_ GE378.out | refine below_set ?_ GE379.out | refine below_set ?_ GE397.out | refine below_set ?_ GE405.out | refine below_set ?_ GE413.out | refine below_set ?_ GE428.out) | exact HB.out))); rintro e w222 ⟨rfl, hb⟩; (try clear A193); have n0_ := Aside0.mk (blk_below (g := gb377) (by rp_; exact BK377.out) hb); have n1_ := Aside0.mk (blk_below (g := gb378) (by rp_; exact BK378.out) hb); have n2_ := Aside0.mk (blk_below (g := gb379) (by rp_; exact BK379.out) hb); have n3_ := Aside0.mk (blk_below (g := gb397) (by rp_; exact BK397.out) hb); have n4_ := Aside0.mk (blk_below (g := gb405) (by rp_; exact BK405.out) hb); have n5_ := Aside0.mk (blk_below (g := gb413) (by rp_; exact BK413.out) hb); have n6_ := Aside0.mk (blk_below (g := gb428) (by rp_; exact BK428.out) hb); have n7_ := Aside0.mk (below_step (by repeat (first | (with_reducible first | exact HB.out | apply below_alloc | apply pw_below_drewN | apply below_drew1 | refine below_set ?_ GE377.out | refine below_set ?_ GE378.out | refine below_set ?_ GE379.out | refine below_set ?_ GE397.out | refine below_set ?_ GE405.out | refine below_set ?_ GE413.out | refine below_set ?_ GE428.out) | exact HB.out)) hb); clear BK377; clear BK378; clear BK379; clear BK397; clear BK405; clear BK413; clear BK428; clear HB; have BK377 := n0_; have BK378 := n1_; have BK379 := n2_; have BK397 := n3_; have BK405 := n4_; have BK413 := n5_; have BK428 := n6_; have HB := n7_; clear n0_ n1_ n2_ n3_ n4_ n5_ n6_ n7_; (try clear hb); (try clear hb2); (try clear hk); (try clear hi)))
                  go_ret
                  exact ⟨by first | rfl | (simp [errW_none, errW_some] <;> rfl) | (simp [*, errW_none, errW_some] <;> rfl), by repeat (first | (with_reducible first | exact HB.out | apply below_alloc | apply pw_below_drewN | apply below_drew1 | refine below_set ?_ GE377.out | refine below_set ?_ GE378.out | refine below_set ?_ GE379.out | refine below_set ?_ GE397.out | refine below_set ?_ GE405.out | refine below_set ?_ GE413.out | refine below_set ?_ GE428.out) | exact HB.out)⟩
                 ·
                  replace c192 := Bool.eq_false_iff.mpr c192
                  subst c192
                  have H1 : (some false) = some true := by rw [if_neg (show ¬ (false = true) by decide)] at H; exact H
                  exact absurd H1 (by simp)
                ·
                 rw [if_neg c190] at H
                 exact absurd H (by simp)
end Go.Proofs.YtamggklblaigpaaGreatDoor.PAll
