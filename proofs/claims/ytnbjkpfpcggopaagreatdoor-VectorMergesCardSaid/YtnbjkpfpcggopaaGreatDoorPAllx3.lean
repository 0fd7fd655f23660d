-- Printed by a program of this session (wip/tools/mkprint2.py) out of the translation; Lean checks it. -- narrowed
import Derived.Test.YtnbjkpfpcggopaaGreatDoorPAllx0
import Derived.Test.YtnbjkpfpcggopaaGreatDoorPAllx2
import Derived.Test.YtnbjkpfpcggopaaGreatDoorEb3
namespace Go.Proofs.YtnbjkpfpcggopaaGreatDoor.PAll
open Go.RowKit Go.Proofs.YtnbjkpfpcggopaaGreatDoorW.PrintWords Go.Proofs.YtnbjkpfpcggopaaGreatDoorW.PrintLast Go.Proofs.YtnbjkpfpcggopaaGreatDoorW.PrintMore
attribute [local go_sem] max2_int min2_int max_two min_two max_three min_three max_four min_four   -- for this text's walks alone
set_option linter.unusedVariables false
set_option linter.unusedSimpArgs false

/-! ### vector_Has: function 13 -/
def vector_Has.f (l0 : List (S25)) (a1_0 : Int) (a1_1 : Int) : Option (Bool) := (dot_Valid.f a1_0 a1_1).bind fun t103 => (if t103 = true then ((vector_Get.f l0 a1_0).bind fun t104 => (some (decide (a1_1 ≤ t104)))) else (some false))
def vector_Has.T1 : Bool × List (List Nat × List Nat) := (true, [([], []), ([0], [0]), ([1, 1], [1]), ([2], [2]), ([3, 2], [2, 3]), ([2], [2]), ([2], [2]), ([6, 2], [2, 6]), ([5, 7, 2, 2], [2, 5, 7]), ([4, 8, 2], [2, 4, 8]), ([2, 9], [2, 9]), ([10, 8, 0, 1, 2, 3, 4, 5, 6, 7, 8, 9, 10], [10])])
def vector_Has.B1 : List Nat := [0, 1, 3, 7, 15, 7, 7, 71, 231, 511, 1023, 2047]
theorem vector_Has.tab1 : rtab .any (opsOf Tryz.f13 1) = vector_Has.T1 := by kernel_rfl
theorem vector_Has.bits1 : waitsOk vector_Has.T1.2 vector_Has.B1 = true := by kernel_rfl
set_option maxHeartbeats 8000000 in
set_option maxRecDepth 100000 in
theorem vector_Has.calls (A0 : Option Addr) (c0 : Nat) (l0 : List (S25)) (a1_0 : Int) (a1_1 : Int) (r : Bool) (w : World) (hr0 : Kd.C k25 w A0 l0.length l0) (hc0 : l0.length ≤ c0) (h : vector_Has.f l0 a1_0 a1_1 = some r) :
  Calls Tryz.prog 13 #[.slice A0 l0.length c0, .agg #[.int .i64 a1_0, .int .i64 a1_1]] w fun e w' => e = .returned (.bool r) ∧ Below w.heap.size w w' := by
 have hu25 := Tryz.underlying25
 have HR0 := Aside0.mk hr0
 have HC0 := Aside0.mk hc0
 clear hr0 hc0
 have HB := Aside0.mk (Below.refl w.heap.size w)
 have H : ((dot_Valid.f a1_0 a1_1).bind fun t103 => (if t103 = true then ((vector_Get.f l0 a1_0).bind fun t104 => (some (decide (a1_1 ≤ t104)))) else (some false))) = some r := h
 clear h
 replace H := Option.bind_eq_some_iff.mp H
 obtain ⟨t103, A30, H⟩ := H
 replace H : (if t103 = true then ((vector_Get.f l0 a1_0).bind fun t104 => (some (decide (a1_1 ≤ t104)))) else (some false)) = some r := H
 have A3 := Aside0.mk A30
 clear A30
 by_cases c4 : t103 = true
 ·
  subst c4
  have H1 : ((vector_Get.f l0 a1_0).bind fun t104 => (some (decide (a1_1 ≤ t104)))) = some r := by rw [if_pos rfl] at H; exact H
  clear H
  have H := H1
  clear H1
  replace H := Option.bind_eq_some_iff.mp H
  obtain ⟨t104, A50, H⟩ := H
  replace H : (some (decide (a1_1 ≤ t104))) = some r := H
  have A5 := Aside0.mk A50
  clear A50
  obtain rfl := Option.some.inj H
  go_enter Tryz.func13, Tryz.ntmps13
  try go_wp2_with (first | ((with_reducible refine gate_dst (N := 3) rfl ?_); refine box_event ?hg (N := 3) ?hd (cs := #[.int .i64 a1_0, .int .i64 a1_1]) (t := 25) ?hr ?_; (case hd => rfl); (case hg => rfl); (case hr => first | (go_simp; done) | (go_simp; rfl)); intro gb102 hg w6 hbox hb; have n0_ := Aside0.mk (below_step (by repeat (first | (with_reducible first | exact HB.out | apply below_alloc | apply pw_below_drewN | apply below_drew1) | exact HB.out)) hb); have n1_ := Aside0.mk (hbox); have n2_ := Aside0.mk ((by rw [hg]; exact (below_size (by repeat (first | (with_reducible first | exact HB.out | apply below_alloc | apply pw_below_drewN | apply below_drew1) | exact HB.out))) : w.heap.size ≤ gb102)); have n3_ := Aside0.mk ((by rw [hg]; exact (below_size (by repeat (first | (with_reducible first | exact HB.out | apply below_alloc | apply pw_below_drewN | apply below_drew1) | exact HB.out))) : w.heap.size ≤ gb102)); clear HB; have HB := n0_; have BK102 := n1_; have GW102 := n2_; have GE102 := n3_; clear n0_ n1_ n2_ n3_; clear hb hbox hg))
  have n0_ := Aside0.mk (blk_drew BK102.out)
  have n1_ := Aside0.mk (below_drew1 HB.out)
  clear BK102
  clear HB
  have BK102 := n0_
  have HB := n1_
  clear n0_ n1_
  refine start_ (n := 12) (S := fun w' => w'.cell? ⟨gb102, 0, none⟩ = some (.int .i64 a1_0) ∧ w'.cell? ⟨gb102, 1, none⟩ = some (.int .i64 a1_1)) (ds := []) #[false, false, false, false, false, false, false, false, false, false, false, false] (by kernel_rfl) rfl rfl ⟨(blk_cell BK102.out 0).trans rfl, (blk_cell BK102.out 1).trans rfl⟩ (fun hHeld => ?_); refine with_tabW vector_Has.tab1 vector_Has.bits1 (fun HT_ HW_ => ?_)
  generalize w6.drew = w7 at BK102 HB hHeld ⊢
  refine take_ (i := 0) (N := some 5) (v := ?_) (a' := ?_) #[true, false, false, false, false, false, false, false, false, false, false, false] rfl rfl (take_ofW HT_.out HW_.out (by kernel_rfl)) (fun _ _ _ h => h) (Or.inl ⟨by rfl, ?_⟩) hHeld ?_ ?_
  rotate_left
  ·
   rintro w' ⟨s0, s1⟩
   go_simp
   with_reducible rfl
  rotate_left
  ·
   simp only [Act.put, List.setIfInBounds_toArray, List.set_cons_zero, List.set_cons_succ, i64_w, i32_w]
   rfl
  refine one_ (i := 1) (N := some 6) #[true, true, false, false, false, false, false, false, false, false, false, false] rfl rfl (one_of HT_.out (by kernel_rfl)) (by decide) (fun K hK => ?_)
  refine goes_ Tryz.func38 (by kernel_rfl) rfl #[.agg #[.int .i64 a1_0, .int .i64 a1_1]] (by rfl) rfl rfl (by (try simp only [List.map_toArray, List.map_cons, List.map_nil]); first | done | rfl | (simp only [List.length_drop, List.length_take]; rfl)) ?_
  with_reducible refine (dot_Valid.calls a1_0 a1_1 true _ A3.out).mono ?_
  rintro e w8 ⟨rfl, hb⟩
  refine ⟨_, rfl, ?_⟩
  have n0_ := Aside0.mk (blk_below (g := gb102) (o := .cells #[.int .i64 a1_0, .int .i64 a1_1] 25 (0, 0)) (by (with_reducible repeat (first | refine blk_drewN ?_ _ | refine blk_drew ?_ | refine blk_alloc ?_ _)); exact BK102.out) hb)
  have n1_ := Aside0.mk (below_step (by repeat (first | (with_reducible first | exact HB.out | apply below_alloc | apply pw_below_drewN | apply below_drew1 | refine below_set ?_ GE102.out) | exact HB.out)) hb)
  clear BK102
  clear HB
  have BK102 := n0_
  have HB := n1_
  clear n0_ n1_
  (try clear hb)
  (try clear hb2)
  (try clear hk)
  (try clear hi)
  refine hK.out _ _ ⟨(blk_cell BK102.out 0).trans rfl, (blk_cell BK102.out 1).trans rfl⟩ (fun hHeld => ?_)
  clear hK K
  refine norm_ (a' := ?_) ?_ ?_
  rotate_left
  ·
   show Act.put _ (some 6) _ = _
   simp only [Act.put, List.setIfInBounds_toArray, List.set_cons_zero, List.set_cons_succ, i64_w, i32_w]
   rfl
  refine pure_ (i := 2) (N := some 7) (v := ?_) (a' := ?_) #[true, true, true, false, false, false, false, false, false, false, false, false] rfl rfl (any_of HT_.out (by kernel_rfl)) (fun _ _ _ h => h) (Or.inl ⟨by rfl, ?_⟩) ?_ ?_
  rotate_left
  ·
   intro w'
   go_simp
   with_reducible rfl
  rotate_left
  ·
   simp only [Act.put, List.setIfInBounds_toArray, List.set_cons_zero, List.set_cons_succ, i64_w, i32_w]
   rfl
  refine pure_ (i := 3) (N := some 8) (v := ?_) (a' := ?_) #[true, true, true, true, false, false, false, false, false, false, false, false] rfl rfl (any_of HT_.out (by kernel_rfl)) (fun _ _ _ h => h) (Or.inl ⟨by rfl, ?_⟩) ?_ ?_
  rotate_left
  ·
   intro w'
   go_simp
   with_reducible rfl
  rotate_left
  ·
   simp only [Act.put, List.setIfInBounds_toArray, List.set_cons_zero, List.set_cons_succ, i64_w, i32_w]
   rfl
  refine pure_ (i := 5) (N := some 10) (v := ?_) (a' := ?_) #[true, true, true, true, false, true, false, false, false, false, false, false] rfl rfl (any_of HT_.out (by kernel_rfl)) (fun _ _ _ h => h) (Or.inl ⟨by rfl, ?_⟩) ?_ ?_
  rotate_left
  ·
   intro w'
   go_simp
   with_reducible rfl
  rotate_left
  ·
   simp only [Act.put, List.setIfInBounds_toArray, List.set_cons_zero, List.set_cons_succ, i64_w, i32_w]
   rfl
  refine pure_ (i := 6) (N := some 11) (v := ?_) (a' := ?_) #[true, true, true, true, false, true, true, false, false, false, false, false] rfl rfl (any_of HT_.out (by kernel_rfl)) (fun _ _ _ h => h) (Or.inl ⟨by rfl, ?_⟩) ?_ ?_
  rotate_left
  ·
   intro w'
   go_simp
   with_reducible rfl
  rotate_left
  ·
   simp only [Act.put, List.setIfInBounds_toArray, List.set_cons_zero, List.set_cons_succ, i64_w, i32_w]
   rfl
  refine take_ (i := 4) (N := some 9) (v := ?_) (a' := ?_) #[true, true, true, true, true, true, true, false, false, false, false, false] rfl rfl (take_ofW HT_.out HW_.out (by kernel_rfl)) (fun _ _ _ h => h) (Or.inl ⟨by rfl, ?_⟩) hHeld ?_ ?_
  rotate_left
  ·
   rintro w' ⟨s0, s1⟩
   go_simp
   with_reducible rfl
  rotate_left
  ·
   simp only [Act.put, List.setIfInBounds_toArray, List.set_cons_zero, List.set_cons_succ, i64_w, i32_w]
   rfl
  refine take_ (i := 7) (N := some 12) (v := ?_) (a' := ?_) #[true, true, true, true, true, true, true, true, false, false, false, false] rfl rfl (take_ofW HT_.out HW_.out (by kernel_rfl)) (fun _ _ _ h => h) (Or.inl ⟨by rfl, ?_⟩) hHeld ?_ ?_
  rotate_left
  ·
   rintro w' ⟨s0, s1⟩
   go_simp
   with_reducible rfl
  rotate_left
  ·
   simp only [Act.put, List.setIfInBounds_toArray, List.set_cons_zero, List.set_cons_succ, i64_w, i32_w]
   rfl
  refine one_ (i := 8) (N := some 13) #[true, true, true, true, true, true, true, true, true, false, false, false] rfl rfl (one_of HT_.out (by kernel_rfl)) (by decide) (fun K hK => ?_)
  refine goes_ Tryz.func11 (by kernel_rfl) rfl #[.slice A0 l0.length c0, .int .i64 a1_0] (by rfl) rfl rfl (by (try simp only [List.map_toArray, List.map_cons, List.map_nil]); first | done | rfl | (simp only [List.length_drop, List.length_take]; rfl)) ?_
  with_reducible refine (vector_Get.calls _ _ l0 a1_0 t104 _ ?side1 ?side2 A5.out).mono ?_
  (case side1 => repeat (first | exact (Kd.C_below HR0.out HB.out) | (with_reducible refine Kd.C_alloc ?_ _) | (with_reducible refine Kd.C_drewN ?_ _) | (with_reducible refine Kd.C_drew ?_)))
  (case side2 => exact HC0.out)
  rintro e w9 ⟨rfl, hb⟩
  refine ⟨_, rfl, ?_⟩
  have n0_ := Aside0.mk (blk_below (g := gb102) (o := .cells #[.int .i64 a1_0, .int .i64 a1_1] 25 (0, 0)) (by (with_reducible repeat (first | refine blk_drewN ?_ _ | refine blk_drew ?_ | refine blk_alloc ?_ _)); exact BK102.out) hb)
  have n1_ := Aside0.mk (below_step (by repeat (first | (with_reducible first | exact HB.out | apply below_alloc | apply pw_below_drewN | apply below_drew1 | refine below_set ?_ GE102.out) | exact HB.out)) hb)
  clear BK102
  clear HB
  have BK102 := n0_
  have HB := n1_
  clear n0_ n1_
  (try clear hb)
  (try clear hb2)
  (try clear hk)
  (try clear hi)
  refine hK.out _ _ ⟨(blk_cell BK102.out 0).trans rfl, (blk_cell BK102.out 1).trans rfl⟩ (fun hHeld => ?_)
  clear hK K
  refine norm_ (a' := ?_) ?_ ?_
  rotate_left
  ·
   show Act.put _ (some 13) _ = _
   simp only [Act.put, List.setIfInBounds_toArray, List.set_cons_zero, List.set_cons_succ, i64_w, i32_w]
   rfl
  refine pure_ (i := 9) (N := some 14) (v := ?_) (a' := ?_) #[true, true, true, true, true, true, true, true, true, true, false, false] rfl rfl (any_of HT_.out (by kernel_rfl)) (fun _ _ _ h => h) (Or.inl ⟨by rfl, ?_⟩) ?_ ?_
  rotate_left
  ·
   intro w'
   go_simp
   with_reducible rfl
  rotate_left
  ·
   simp only [Act.put, List.setIfInBounds_toArray, List.set_cons_zero, List.set_cons_succ, i64_w, i32_w]
   rfl
  refine pure_ (i := 10) (N := some 15) (v := ?_) (a' := ?_) #[true, true, true, true, true, true, true, true, true, true, true, false] rfl rfl (any_of HT_.out (by kernel_rfl)) (fun _ _ _ h => h) (Or.inl ⟨by rfl, ?_⟩) ?_ ?_
  rotate_left
  ·
   intro w'
   go_simp
   with_reducible rfl
  rotate_left
  ·
   simp only [Act.put, List.setIfInBounds_toArray, List.set_cons_zero, List.set_cons_succ, i64_w, i32_w]
   rfl
  refine pure_ (i := 11) (N := some 4) (v := ?_) (a' := ?_) #[true, true, true, true, true, true, true, true, true, true, true, true] rfl rfl (any_of HT_.out (by kernel_rfl)) (fun _ _ _ h => h) (Or.inl ⟨by rfl, ?_⟩) ?_ ?_
  rotate_left
  ·
   intro w'
   go_simp
   with_reducible rfl
  rotate_left
  ·
   simp only [Act.put, List.setIfInBounds_toArray, List.set_cons_zero, List.set_cons_succ, i64_w, i32_w]
   rfl
  refine done_ (done_of HT_.out (by kernel_rfl)) ?_
  try go_wp2
  go_ret
  exact ⟨by first | rfl | (simp [errW_none, errW_some] <;> rfl) | (simp [*, errW_none, errW_some] <;> rfl), by repeat (first | (with_reducible first | exact HB.out | apply below_alloc | apply pw_below_drewN | apply below_drew1 | refine below_set ?_ GE102.out) | exact HB.out)⟩
 ·
  replace c4 := Bool.eq_false_iff.mpr c4
  subst c4
  have H1 : (some false) = some r := by rw [if_neg (show ¬ (false = true) by decide)] at H; exact H
  clear H
  have H := H1
  clear H1
  obtain rfl := Option.some.inj H
  go_enter Tryz.func13, Tryz.ntmps13
  try go_wp2_with (first | ((with_reducible refine gate_dst (N := 3) rfl ?_); refine box_event ?hg (N := 3) ?hd (cs := #[.int .i64 a1_0, .int .i64 a1_1]) (t := 25) ?hr ?_; (case hd => rfl); (case hg => rfl); (case hr => first | (go_simp; done) | (go_simp; rfl)); intro gb102 hg w10 hbox hb; have n0_ := Aside0.mk (below_step (by repeat (first | (with_reducible first | exact HB.out | apply below_alloc | apply pw_below_drewN | apply below_drew1) | exact HB.out)) hb); have n1_ := Aside0.mk (hbox); have n2_ := Aside0.mk ((by rw [hg]; exact (below_size (by repeat (first | (with_reducible first | exact HB.out | apply below_alloc | apply pw_below_drewN | apply below_drew1) | exact HB.out))) : w.heap.size ≤ gb102)); have n3_ := Aside0.mk ((by rw [hg]; exact (below_size (by repeat (first | (with_reducible first | exact HB.out | apply below_alloc | apply pw_below_drewN | apply below_drew1) | exact HB.out))) : w.heap.size ≤ gb102)); clear HB; have HB := n0_; have BK102 := n1_; have GW102 := n2_; have GE102 := n3_; clear n0_ n1_ n2_ n3_; clear hb hbox hg))
  have n0_ := Aside0.mk (blk_drew BK102.out)
  have n1_ := Aside0.mk (below_drew1 HB.out)
  clear BK102
  clear HB
  have BK102 := n0_
  have HB := n1_
  clear n0_ n1_
  refine start_ (n := 12) (S := fun w' => w'.cell? ⟨gb102, 0, none⟩ = some (.int .i64 a1_0) ∧ w'.cell? ⟨gb102, 1, none⟩ = some (.int .i64 a1_1)) (ds := []) #[false, false, false, false, false, false, false, false, false, false, false, false] (by kernel_rfl) rfl rfl ⟨(blk_cell BK102.out 0).trans rfl, (blk_cell BK102.out 1).trans rfl⟩ (fun hHeld => ?_); refine with_tabW vector_Has.tab1 vector_Has.bits1 (fun HT_ HW_ => ?_)
  generalize w10.drew = w11 at BK102 HB hHeld ⊢
  refine take_ (i := 0) (N := some 5) (v := ?_) (a' := ?_) #[true, false, false, false, false, false, false, false, false, false, false, false] rfl rfl (take_ofW HT_.out HW_.out (by kernel_rfl)) (fun _ _ _ h => h) (Or.inl ⟨by rfl, ?_⟩) hHeld ?_ ?_
  rotate_left
  ·
   rintro w' ⟨s0, s1⟩
   go_simp
   with_reducible rfl
  rotate_left
  ·
   simp only [Act.put, List.setIfInBounds_toArray, List.set_cons_zero, List.set_cons_succ, i64_w, i32_w]
   rfl
  refine one_ (i := 1) (N := some 6) #[true, true, false, false, false, false, false, false, false, false, false, false] rfl rfl (one_of HT_.out (by kernel_rfl)) (by decide) (fun K hK => ?_)
  refine goes_ Tryz.func38 (by kernel_rfl) rfl #[.agg #[.int .i64 a1_0, .int .i64 a1_1]] (by rfl) rfl rfl (by (try simp only [List.map_toArray, List.map_cons, List.map_nil]); first | done | rfl | (simp only [List.length_drop, List.length_take]; rfl)) ?_
  with_reducible refine (dot_Valid.calls a1_0 a1_1 false _ A3.out).mono ?_
  rintro e w12 ⟨rfl, hb⟩
  refine ⟨_, rfl, ?_⟩
  have n0_ := Aside0.mk (blk_below (g := gb102) (o := .cells #[.int .i64 a1_0, .int .i64 a1_1] 25 (0, 0)) (by (with_reducible repeat (first | refine blk_drewN ?_ _ | refine blk_drew ?_ | refine blk_alloc ?_ _)); exact BK102.out) hb)
  have n1_ := Aside0.mk (below_step (by repeat (first | (with_reducible first | exact HB.out | apply below_alloc | apply pw_below_drewN | apply below_drew1 | refine below_set ?_ GE102.out) | exact HB.out)) hb)
  clear BK102
  clear HB
  have BK102 := n0_
  have HB := n1_
  clear n0_ n1_
  (try clear hb)
  (try clear hb2)
  (try clear hk)
  (try clear hi)
  refine hK.out _ _ ⟨(blk_cell BK102.out 0).trans rfl, (blk_cell BK102.out 1).trans rfl⟩ (fun hHeld => ?_)
  clear hK K
  refine norm_ (a' := ?_) ?_ ?_
  rotate_left
  ·
   show Act.put _ (some 6) _ = _
   simp only [Act.put, List.setIfInBounds_toArray, List.set_cons_zero, List.set_cons_succ, i64_w, i32_w]
   rfl
  refine pure_ (i := 2) (N := some 7) (v := ?_) (a' := ?_) #[true, true, true, false, false, false, false, false, false, false, false, false] rfl rfl (any_of HT_.out (by kernel_rfl)) (fun _ _ _ h => h) (Or.inl ⟨by rfl, ?_⟩) ?_ ?_
  rotate_left
  ·
   intro w'
   go_simp
   with_reducible rfl
  rotate_left
  ·
   simp only [Act.put, List.setIfInBounds_toArray, List.set_cons_zero, List.set_cons_succ, i64_w, i32_w]
   rfl
  refine pure_ (i := 3) (N := some 8) (v := undef) (a' := ?_) #[true, true, true, true, false, false, false, false, false, false, false, false] rfl rfl (any_of HT_.out (by kernel_rfl)) (fun _ _ _ h => h) (Or.inr ⟨by rfl, rfl⟩) ?_ ?_
  rotate_left
  ·
   simp only [Act.put, List.setIfInBounds_toArray, List.set_cons_zero, List.set_cons_succ, i64_w, i32_w]
   rfl
  refine pure_ (i := 4) (N := some 9) (v := undef) (a' := ?_) #[true, true, true, true, true, false, false, false, false, false, false, false] rfl rfl (any_of HT_.out (by kernel_rfl)) (fun _ _ _ h => h) (Or.inr ⟨by rfl, rfl⟩) ?_ ?_
  rotate_left
  ·
   simp only [Act.put, List.setIfInBounds_toArray, List.set_cons_zero, List.set_cons_succ, i64_w, i32_w]
   rfl
  refine pure_ (i := 5) (N := some 10) (v := undef) (a' := ?_) #[true, true, true, true, true, true, false, false, false, false, false, false] rfl rfl (any_of HT_.out (by kernel_rfl)) (fun _ _ _ h => h) (Or.inr ⟨by rfl, rfl⟩) ?_ ?_
  rotate_left
  ·
   simp only [Act.put, List.setIfInBounds_toArray, List.set_cons_zero, List.set_cons_succ, i64_w, i32_w]
   rfl
  refine pure_ (i := 6) (N := some 11) (v := undef) (a' := ?_) #[true, true, true, true, true, true, true, false, false, false, false, false] rfl rfl (any_of HT_.out (by kernel_rfl)) (fun _ _ _ h => h) (Or.inr ⟨by rfl, rfl⟩) ?_ ?_
  rotate_left
  ·
   simp only [Act.put, List.setIfInBounds_toArray, List.set_cons_zero, List.set_cons_succ, i64_w, i32_w]
   rfl
  refine pure_ (i := 7) (N := some 12) (v := undef) (a' := ?_) #[true, true, true, true, true, true, true, true, false, false, false, false] rfl rfl (any_of HT_.out (by kernel_rfl)) (fun _ _ _ h => h) (Or.inr ⟨by rfl, rfl⟩) ?_ ?_
  rotate_left
  ·
   simp only [Act.put, List.setIfInBounds_toArray, List.set_cons_zero, List.set_cons_succ, i64_w, i32_w]
   rfl
  refine pure_ (i := 8) (N := some 13) (v := undef) (a' := ?_) #[true, true, true, true, true, true, true, true, true, false, false, false] rfl rfl (any_of HT_.out (by kernel_rfl)) (fun _ _ _ h => h) (Or.inr ⟨by rfl, rfl⟩) ?_ ?_
  rotate_left
  ·
   simp only [Act.put, List.setIfInBounds_toArray, List.set_cons_zero, List.set_cons_succ, i64_w, i32_w]
   rfl
  refine pure_ (i := 9) (N := some 14) (v := undef) (a' := ?_) #[true, true, true, true, true, true, true, true, true, true, false, false] rfl rfl (any_of HT_.out (by kernel_rfl)) (fun _ _ _ h => h) (Or.inr ⟨by rfl, rfl⟩) ?_ ?_
  rotate_left
  ·
   simp only [Act.put, List.setIfInBounds_toArray, List.set_cons_zero, List.set_cons_succ, i64_w, i32_w]
   rfl
  refine pure_ (i := 10) (N := some 15) (v := ?_) (a' := ?_) #[true, true, true, true, true, true, true, true, true, true, true, false] rfl rfl (any_of HT_.out (by kernel_rfl)) (fun _ _ _ h => h) (Or.inl ⟨by rfl, ?_⟩) ?_ ?_
  rotate_left
  ·
   intro w'
   go_simp
   with_reducible rfl
  rotate_left
  ·
   simp only [Act.put, List.setIfInBounds_toArray, List.set_cons_zero, List.set_cons_succ, i64_w, i32_w]
   rfl
  refine pure_ (i := 11) (N := some 4) (v := ?_) (a' := ?_) #[true, true, true, true, true, true, true, true, true, true, true, true] rfl rfl (any_of HT_.out (by kernel_rfl)) (fun _ _ _ h => h) (Or.inl ⟨by rfl, ?_⟩) ?_ ?_
  rotate_left
  ·
   intro w'
   go_simp
   with_reducible rfl
  rotate_left
  ·
   simp only [Act.put, List.setIfInBounds_toArray, List.set_cons_zero, List.set_cons_succ, i64_w, i32_w]
   rfl
  refine done_ (done_of HT_.out (by kernel_rfl)) ?_
  try go_wp2
  go_ret
  exact ⟨by first | rfl | (simp [errW_none, errW_some] <;> rfl) | (simp [*, errW_none, errW_some] <;> rfl), by repeat (first | (with_reducible first | exact HB.out | apply below_alloc | apply pw_below_drewN | apply below_drew1 | refine below_set ?_ GE102.out) | exact HB.out)⟩

/-! ### redpencillaw05_made: function 16 -/
def redpencillaw05_made.f (k : Nat) (l0 : List (S25)) (l1 : List (S25)) (a2 : Int) : Option (Bool) := (vector_Of.f l0).bind fun bt108 => ((redpencillaw05_gives.f k bt108.1 bt108.2 l1 a2).bind fun t112 => (some t112))
theorem redpencillaw05_made.mono : ∀ a0 a1 a2 k, LeO (redpencillaw05_made.f k a0 a1 a2) (redpencillaw05_made.f (k + 1) a0 a1 a2) := by
 intro a0 a1 a2 k
 unfold redpencillaw05_made.f
 repeat' first
   | (with_reducible exact redpencillaw05_gives.mono _ _ _ _ _)
   | (with_reducible exact LeO.refl _)
   | (with_reducible exact LeO.none _)
   | (with_reducible refine LeO.ite ?_ ?_)
   | (with_reducible refine LeO.bind ?_ (fun _ => ?_))
   | exact redpencillaw05_gives.mono _ _ _ _ _
   | exact LeO.none _
   | refine LeO.ite ?_ ?_
   | refine LeO.bind ?_ (fun _ => ?_)
set_option maxHeartbeats 8000000 in
set_option maxRecDepth 100000 in
theorem redpencillaw05_made.calls (k : Nat) (A0 : Option Addr) (c0 : Nat) (l0 : List (S25)) (A1 : Option Addr) (c1 : Nat) (l1 : List (S25)) (a2 : Int) (r : Bool) (w : World) (hr0 : Kd.C k25 w A0 l0.length l0) (hc0 : l0.length ≤ c0) (hr1 : Kd.C k25 w A1 l1.length l1) (hc1 : l1.length ≤ c1) (h : redpencillaw05_made.f k l0 l1 a2 = some r) :
  Calls Tryz.prog 16 #[.slice A0 l0.length c0, .slice A1 l1.length c1, .int .i64 a2] w fun e w' => e = .returned (.bool r) ∧ Below w.heap.size w w' := by
 have HR0 := Aside0.mk hr0
 have HC0 := Aside0.mk hc0
 clear hr0 hc0
 have HR1 := Aside0.mk hr1
 have HC1 := Aside0.mk hc1
 clear hr1 hc1
 have HB := Aside0.mk (Below.refl w.heap.size w)
 have H : ((vector_Of.f l0).bind fun bt108 => ((redpencillaw05_gives.f k bt108.1 bt108.2 l1 a2).bind fun t112 => (some t112))) = some r := h
 clear h
 replace H := Option.bind_eq_some_iff.mp H
 obtain ⟨⟨t108, t109⟩, A40, H⟩ := H
 replace H : ((redpencillaw05_gives.f k t108 t109 l1 a2).bind fun t112 => (some t112)) = some r := H
 have A4 := Aside0.mk A40
 clear A40
 replace H := Option.bind_eq_some_iff.mp H
 obtain ⟨t112, A50, H⟩ := H
 replace H : (some t112) = some r := H
 have A5 := Aside0.mk A50
 clear A50
 obtain rfl := Option.some.inj H
 go_enter Tryz.func16, Tryz.ntmps16
 go_wp2_with (first | ((with_reducible refine gate_callee (f := 39) rfl ?_); refine goesL_ (some 11) rfl rfl Tryz.func39 (by kernel_rfl) rfl #[.slice A0 l0.length c0] rfl (by (try simp only [List.map_toArray, List.map_cons, List.map_nil]); first | done | rfl | (simp only [List.length_drop, List.length_take]; rfl)) ?_; (with_reducible refine (vector_Of.calls _ _ l0 t108 t109 _ ?side1 ?side2 A4.out).mono ?_); (case side1 => repeat (first | exact HR0.out | (with_reducible refine Kd.C_alloc ?_ _) | (with_reducible refine Kd.C_drewN ?_ _) | (with_reducible refine Kd.C_drew ?_))); (case side2 => exact HC0.out); rintro e w6 ⟨v110, rfl, ho0, hb⟩; (try clear A4); refine ⟨_, rfl, ?_⟩; have n0_ := Aside0.mk (Kd.R_lower ho0 (below_size (by repeat (first | (with_reducible first | exact HB.out | apply below_alloc | apply pw_below_drewN | apply below_drew1) | exact HB.out)))); have n1_ := Aside0.mk (below_step (by repeat (first | (with_reducible first | exact HB.out | apply below_alloc | apply pw_below_drewN | apply below_drew1) | exact HB.out)) hb); clear HB; have HO111 := n0_; have HB := n1_; clear n0_ n1_; (try clear hb); (try clear hb2); (try clear hk); (try clear hi); (try clear ho0); obtain ⟨Ao7, co7, eo7⟩ := Kd.R_slice HO111.out; subst eo7) | ((with_reducible refine gate_callee (f := 24) rfl ?_); refine goesL_ (some 18) rfl rfl Tryz.func24 (by kernel_rfl) rfl #[.slice Ao7 t108.length co7, .int .i64 t109, .slice A1 l1.length c1, .int .i64 a2] rfl (by (try simp only [List.map_toArray, List.map_cons, List.map_nil]); first | done | rfl | (simp only [List.length_drop, List.length_take]; rfl)) ?_; (with_reducible refine (redpencillaw05_gives.calls k _ _ t108 t109 _ _ l1 a2 t112 _ ?side1 ?side2 ?side3 ?side4 A5.out).mono ?_); (case side1 => repeat (first | exact (Kd.R_reads' HO111.out).2.2 | (with_reducible refine Kd.C_alloc ?_ _) | (with_reducible refine Kd.C_drewN ?_ _) | (with_reducible refine Kd.C_drew ?_))); (case side2 => exact (Kd.R_reads' HO111.out).2.1); (case side3 => repeat (first | exact (Kd.C_below HR1.out HB.out) | (with_reducible refine Kd.C_alloc ?_ _) | (with_reducible refine Kd.C_drewN ?_ _) | (with_reducible refine Kd.C_drew ?_))); (case side4 => exact HC1.out); rintro e w' ⟨rfl, ⟨nd, rfl⟩⟩; (try clear A5); refine ⟨_, rfl, ?_⟩))
 go_ret
 exact ⟨by first | rfl | (simp [errW_none, errW_some] <;> rfl) | (simp [*, errW_none, errW_some] <;> rfl), by repeat (first | (with_reducible first | exact HB.out | apply below_alloc | apply pw_below_drewN | apply below_drew1) | exact HB.out)⟩

/-! ### redpencillaw05_raised: function 19 -/
def redpencillaw05_raised.f (k : Nat) (l0 : List (S25)) (a1_0 : Int) (a1_1 : Int) (l2 : List (S25)) (a3 : Int) : Option (Bool) := (vector_Raise.f l0 a1_0 a1_1).bind fun bt114 => ((redpencillaw05_gives.f k bt114.1 bt114.2 l2 a3).bind fun t118 => (some t118))
theorem redpencillaw05_raised.mono : ∀ a0 a1 a2 a3 a4 k, LeO (redpencillaw05_raised.f k a0 a1 a2 a3 a4) (redpencillaw05_raised.f (k + 1) a0 a1 a2 a3 a4) := by
 intro a0 a1 a2 a3 a4 k
 unfold redpencillaw05_raised.f
 repeat' first
   | (with_reducible exact redpencillaw05_gives.mono _ _ _ _ _)
   | (with_reducible exact LeO.refl _)
   | (with_reducible exact LeO.none _)
   | (with_reducible refine LeO.ite ?_ ?_)
   | (with_reducible refine LeO.bind ?_ (fun _ => ?_))
   | exact redpencillaw05_gives.mono _ _ _ _ _
   | exact LeO.none _
   | refine LeO.ite ?_ ?_
   | refine LeO.bind ?_ (fun _ => ?_)
set_option maxHeartbeats 8000000 in
set_option maxRecDepth 100000 in
theorem redpencillaw05_raised.calls (k : Nat) (A0 : Option Addr) (c0 : Nat) (l0 : List (S25)) (a1_0 : Int) (a1_1 : Int) (A2 : Option Addr) (c2 : Nat) (l2 : List (S25)) (a3 : Int) (r : Bool) (w : World) (hr0 : Kd.C k25 w A0 l0.length l0) (hc0 : l0.length ≤ c0) (hr2 : Kd.C k25 w A2 l2.length l2) (hc2 : l2.length ≤ c2) (h : redpencillaw05_raised.f k l0 a1_0 a1_1 l2 a3 = some r) :
  Calls Tryz.prog 19 #[.slice A0 l0.length c0, .agg #[.int .i64 a1_0, .int .i64 a1_1], .slice A2 l2.length c2, .int .i64 a3] w fun e w' => e = .returned (.bool r) ∧ Below w.heap.size w w' := by
 have hu25 := Tryz.underlying25
 have HR0 := Aside0.mk hr0
 have HC0 := Aside0.mk hc0
 clear hr0 hc0
 have HR2 := Aside0.mk hr2
 have HC2 := Aside0.mk hc2
 clear hr2 hc2
 have HB := Aside0.mk (Below.refl w.heap.size w)
 have H : ((vector_Raise.f l0 a1_0 a1_1).bind fun bt114 => ((redpencillaw05_gives.f k bt114.1 bt114.2 l2 a3).bind fun t118 => (some t118))) = some r := h
 clear h
 replace H := Option.bind_eq_some_iff.mp H
 obtain ⟨⟨t114, t117⟩, A50, H⟩ := H
 replace H : ((redpencillaw05_gives.f k t114 t117 l2 a3).bind fun t118 => (some t118)) = some r := H
 have A5 := Aside0.mk A50
 clear A50
 replace H := Option.bind_eq_some_iff.mp H
 obtain ⟨t118, A60, H⟩ := H
 replace H : (some t118) = some r := H
 have A6 := Aside0.mk A60
 clear A60
 obtain rfl := Option.some.inj H
 go_enter Tryz.func19, Tryz.ntmps19
 go_wp2_with (first | ((with_reducible refine gate_dst (N := 5) rfl ?_); refine box_event ?hg (N := 5) ?hd (cs := #[.int .i64 a1_0, .int .i64 a1_1]) (t := 25) ?hr ?_; (case hd => rfl); (case hg => rfl); (case hr => first | (go_simp; done) | (go_simp; rfl)); intro gb113 hg w7 hbox hb; have n0_ := Aside0.mk (below_step (by repeat (first | (with_reducible first | exact HB.out | apply below_alloc | apply pw_below_drewN | apply below_drew1) | exact HB.out)) hb); have n1_ := Aside0.mk (hbox); have n2_ := Aside0.mk ((by rw [hg]; exact (below_size (by repeat (first | (with_reducible first | exact HB.out | apply below_alloc | apply pw_below_drewN | apply below_drew1) | exact HB.out))) : w.heap.size ≤ gb113)); have n3_ := Aside0.mk ((by rw [hg]; exact (below_size (by repeat (first | (with_reducible first | exact HB.out | apply below_alloc | apply pw_below_drewN | apply below_drew1) | exact HB.out))) : w.heap.size ≤ gb113)); clear HB; have HB := n0_; have BK113 := n1_; have GW113 := n2_; have GE113 := n3_; clear n0_ n1_ n2_ n3_; clear hb hbox hg; have hcz8_0 : w7.cell? ⟨gb113, 0, none⟩ = some (.int .i64 a1_0) := (blk_cell BK113.out 0).trans rfl; have hcz8_1 : w7.cell? ⟨gb113, 1, none⟩ = some (.int .i64 a1_1) := (blk_cell BK113.out 1).trans rfl; have hfz8_0 := blk_frozen BK113.out 0; have hfz8_1 := blk_frozen BK113.out 1) | ((with_reducible refine gate_callee (f := 40) rfl ?_); refine goesL_ (some 14) rfl rfl Tryz.func40 (by kernel_rfl) rfl #[.slice A0 l0.length c0, .agg #[.int .i64 a1_0, .int .i64 a1_1]] rfl (by (try simp only [List.map_toArray, List.map_cons, List.map_nil]); first | done | rfl | (simp only [List.length_drop, List.length_take]; rfl)) ?_; (with_reducible refine (vector_Raise.calls _ _ l0 a1_0 a1_1 t114 t117 _ ?side1 ?side2 A5.out).mono ?_); (case side1 => repeat (first | exact (Kd.C_below HR0.out HB.out) | (with_reducible refine Kd.C_alloc ?_ _) | (with_reducible refine Kd.C_drewN ?_ _) | (with_reducible refine Kd.C_drew ?_))); (case side2 => exact HC0.out); rintro e w9 ⟨v115, rfl, ho0, hb⟩; (try clear A5); refine ⟨_, rfl, ?_⟩; have n0_ := Aside0.mk (Kd.R_lower (Kd.R_newB ho0 (g := gb113) (o := .cells #[.int .i64 a1_0, .int .i64 a1_1] 25 (0, 0)) (by (with_reducible repeat (first | refine blk_drewN ?_ _ | refine blk_drew ?_ | refine blk_alloc ?_ _)); exact BK113.out)) (below_size (by repeat (first | (with_reducible first | exact HB.out | apply below_alloc | apply pw_below_drewN | apply below_drew1 | refine below_set ?_ GE113.out) | exact HB.out)))); have n1_ := Aside0.mk (blk_below (g := gb113) (o := .cells #[.int .i64 a1_0, .int .i64 a1_1] 25 (0, 0)) (by (with_reducible repeat (first | refine blk_drewN ?_ _ | refine blk_drew ?_ | refine blk_alloc ?_ _)); exact BK113.out) hb); have n2_ := Aside0.mk (below_step (by repeat (first | (with_reducible first | exact HB.out | apply below_alloc | apply pw_below_drewN | apply below_drew1 | refine below_set ?_ GE113.out) | exact HB.out)) hb); clear BK113; clear HB; have HO116 := n0_; have BK113 := n1_; have HB := n2_; clear n0_ n1_ n2_; (try clear hb); (try clear hb2); (try clear hk); (try clear hi); (try clear ho0); obtain ⟨Ao10, co10, eo10⟩ := Kd.R_slice HO116.out; subst eo10) | ((with_reducible refine gate_callee (f := 24) rfl ?_); refine goesL_ (some 21) rfl rfl Tryz.func24 (by kernel_rfl) rfl #[.slice Ao10 t114.length co10, .int .i64 t117, .slice A2 l2.length c2, .int .i64 a3] rfl (by (try simp only [List.map_toArray, List.map_cons, List.map_nil]); first | done | rfl | (simp only [List.length_drop, List.length_take]; rfl)) ?_; (with_reducible refine (redpencillaw05_gives.calls k _ _ t114 t117 _ _ l2 a3 t118 _ ?side1 ?side2 ?side3 ?side4 A6.out).mono ?_); (case side1 => repeat (first | exact (Kd.R_reads' HO116.out).2.2 | (with_reducible refine Kd.C_alloc ?_ _) | (with_reducible refine Kd.C_drewN ?_ _) | (with_reducible refine Kd.C_drew ?_))); (case side2 => exact (Kd.R_reads' HO116.out).2.1); (case side3 => repeat (first | exact (Kd.C_below HR2.out HB.out) | (with_reducible refine Kd.C_alloc ?_ _) | (with_reducible refine Kd.C_drewN ?_ _) | (with_reducible refine Kd.C_drew ?_))); (case side4 => exact HC2.out); rintro e w' ⟨rfl, ⟨nd, rfl⟩⟩; (try clear A6); refine ⟨_, rfl, ?_⟩))
 go_ret
 exact ⟨by first | rfl | (simp [errW_none, errW_some] <;> rfl) | (simp [*, errW_none, errW_some] <;> rfl), by repeat (first | (with_reducible first | exact HB.out | apply below_alloc | apply pw_below_drewN | apply below_drew1 | refine below_set ?_ GE113.out) | exact HB.out)⟩

/-! ### redpencillaw05_merged: function 21 -/
def redpencillaw05_merged.f (k : Nat) (l0 : List (S25)) (l1 : List (S25)) (l2 : List (S25)) (a3 : Int) : Option (Bool) := (vector_Merge.f l0 l1).bind fun bt119 => ((redpencillaw05_gives.f k bt119.1 bt119.2 l2 a3).bind fun t123 => (some t123))
theorem redpencillaw05_merged.mono : ∀ a0 a1 a2 a3 k, LeO (redpencillaw05_merged.f k a0 a1 a2 a3) (redpencillaw05_merged.f (k + 1) a0 a1 a2 a3) := by
 intro a0 a1 a2 a3 k
 unfold redpencillaw05_merged.f
 repeat' first
   | (with_reducible exact redpencillaw05_gives.mono _ _ _ _ _)
   | (with_reducible exact LeO.refl _)
   | (with_reducible exact LeO.none _)
   | (with_reducible refine LeO.ite ?_ ?_)
   | (with_reducible refine LeO.bind ?_ (fun _ => ?_))
   | exact redpencillaw05_gives.mono _ _ _ _ _
   | exact LeO.none _
   | refine LeO.ite ?_ ?_
   | refine LeO.bind ?_ (fun _ => ?_)
set_option maxHeartbeats 8000000 in
set_option maxRecDepth 100000 in
theorem redpencillaw05_merged.calls (k : Nat) (A0 : Option Addr) (c0 : Nat) (l0 : List (S25)) (A1 : Option Addr) (c1 : Nat) (l1 : List (S25)) (A2 : Option Addr) (c2 : Nat) (l2 : List (S25)) (a3 : Int) (r : Bool) (w : World) (hr0 : Kd.C k25 w A0 l0.length l0) (hc0 : l0.length ≤ c0) (hr1 : Kd.C k25 w A1 l1.length l1) (hc1 : l1.length ≤ c1) (hr2 : Kd.C k25 w A2 l2.length l2) (hc2 : l2.length ≤ c2) (h : redpencillaw05_merged.f k l0 l1 l2 a3 = some r) :
  Calls Tryz.prog 21 #[.slice A0 l0.length c0, .slice A1 l1.length c1, .slice A2 l2.length c2, .int .i64 a3] w fun e w' => e = .returned (.bool r) ∧ Below w.heap.size w w' := by
 have HR0 := Aside0.mk hr0
 have HC0 := Aside0.mk hc0
 clear hr0 hc0
 have HR1 := Aside0.mk hr1
 have HC1 := Aside0.mk hc1
 clear hr1 hc1
 have HR2 := Aside0.mk hr2
 have HC2 := Aside0.mk hc2
 clear hr2 hc2
 have HB := Aside0.mk (Below.refl w.heap.size w)
 have H : ((vector_Merge.f l0 l1).bind fun bt119 => ((redpencillaw05_gives.f k bt119.1 bt119.2 l2 a3).bind fun t123 => (some t123))) = some r := h
 clear h
 replace H := Option.bind_eq_some_iff.mp H
 obtain ⟨⟨t119, t120⟩, A50, H⟩ := H
 replace H : ((redpencillaw05_gives.f k t119 t120 l2 a3).bind fun t123 => (some t123)) = some r := H
 have A5 := Aside0.mk A50
 clear A50
 replace H := Option.bind_eq_some_iff.mp H
 obtain ⟨t123, A60, H⟩ := H
 replace H : (some t123) = some r := H
 have A6 := Aside0.mk A60
 clear A60
 obtain rfl := Option.some.inj H
 go_enter Tryz.func21, Tryz.ntmps21
 go_wp2_with (first | ((with_reducible refine gate_callee (f := 23) rfl ?_); refine goesL_ (some 14) rfl rfl Tryz.func23 (by kernel_rfl) rfl #[.slice A0 l0.length c0, .slice A1 l1.length c1] rfl (by (try simp only [List.map_toArray, List.map_cons, List.map_nil]); first | done | rfl | (simp only [List.length_drop, List.length_take]; rfl)) ?_; (with_reducible refine (vector_Merge.calls _ _ l0 _ _ l1 t119 t120 _ ?side1 ?side2 ?side3 ?side4 A5.out).mono ?_); (case side1 => repeat (first | exact HR0.out | (with_reducible refine Kd.C_alloc ?_ _) | (with_reducible refine Kd.C_drewN ?_ _) | (with_reducible refine Kd.C_drew ?_))); (case side2 => exact HC0.out); (case side3 => repeat (first | exact HR1.out | (with_reducible refine Kd.C_alloc ?_ _) | (with_reducible refine Kd.C_drewN ?_ _) | (with_reducible refine Kd.C_drew ?_))); (case side4 => exact HC1.out); rintro e w7 ⟨v121, rfl, ho0, hb⟩; (try clear A5); refine ⟨_, rfl, ?_⟩; have n0_ := Aside0.mk (Kd.R_lower ho0 (below_size (by repeat (first | (with_reducible first | exact HB.out | apply below_alloc | apply pw_below_drewN | apply below_drew1) | exact HB.out)))); have n1_ := Aside0.mk (below_step (by repeat (first | (with_reducible first | exact HB.out | apply below_alloc | apply pw_below_drewN | apply below_drew1) | exact HB.out)) hb); clear HB; have HO122 := n0_; have HB := n1_; clear n0_ n1_; (try clear hb); (try clear hb2); (try clear hk); (try clear hi); (try clear ho0); obtain ⟨Ao8, co8, eo8⟩ := Kd.R_slice HO122.out; subst eo8) | ((with_reducible refine gate_callee (f := 24) rfl ?_); refine goesL_ (some 21) rfl rfl Tryz.func24 (by kernel_rfl) rfl #[.slice Ao8 t119.length co8, .int .i64 t120, .slice A2 l2.length c2, .int .i64 a3] rfl (by (try simp only [List.map_toArray, List.map_cons, List.map_nil]); first | done | rfl | (simp only [List.length_drop, List.length_take]; rfl)) ?_; (with_reducible refine (redpencillaw05_gives.calls k _ _ t119 t120 _ _ l2 a3 t123 _ ?side1 ?side2 ?side3 ?side4 A6.out).mono ?_); (case side1 => repeat (first | exact (Kd.R_reads' HO122.out).2.2 | (with_reducible refine Kd.C_alloc ?_ _) | (with_reducible refine Kd.C_drewN ?_ _) | (with_reducible refine Kd.C_drew ?_))); (case side2 => exact (Kd.R_reads' HO122.out).2.1); (case side3 => repeat (first | exact (Kd.C_below HR2.out HB.out) | (with_reducible refine Kd.C_alloc ?_ _) | (with_reducible refine Kd.C_drewN ?_ _) | (with_reducible refine Kd.C_drew ?_))); (case side4 => exact HC2.out); rintro e w' ⟨rfl, ⟨nd, rfl⟩⟩; (try clear A6); refine ⟨_, rfl, ?_⟩))
 go_ret
 exact ⟨by first | rfl | (simp [errW_none, errW_some] <;> rfl) | (simp [*, errW_none, errW_some] <;> rfl), by repeat (first | (with_reducible first | exact HB.out | apply below_alloc | apply pw_below_drewN | apply below_drew1) | exact HB.out)⟩

/-! ### redpencillaw05_orders: function 22 -/
def redpencillaw05_orders.f (l0 : List (S25)) (l1 : List (S25)) (a2 : Int) (a3 : Int) : Option (Bool) := (vector_Order.f l0 l1).bind fun bt124 => (if bt124.1 = a2 then (some (bt124.2 == a3)) else (some false))
set_option maxHeartbeats 8000000 in
set_option maxRecDepth 100000 in
theorem redpencillaw05_orders.calls (A0 : Option Addr) (c0 : Nat) (l0 : List (S25)) (A1 : Option Addr) (c1 : Nat) (l1 : List (S25)) (a2 : Int) (a3 : Int) (r : Bool) (w : World) (hr0 : Kd.C k25 w A0 l0.length l0) (hc0 : l0.length ≤ c0) (hr1 : Kd.C k25 w A1 l1.length l1) (hc1 : l1.length ≤ c1) (h : redpencillaw05_orders.f l0 l1 a2 a3 = some r) :
  Calls Tryz.prog 22 #[.slice A0 l0.length c0, .slice A1 l1.length c1, .int .i64 a2, .int .i64 a3] w fun e w' => e = .returned (.bool r) ∧ Below w.heap.size w w' := by
 have HR0 := Aside0.mk hr0
 have HC0 := Aside0.mk hc0
 clear hr0 hc0
 have HR1 := Aside0.mk hr1
 have HC1 := Aside0.mk hc1
 clear hr1 hc1
 have HB := Aside0.mk (Below.refl w.heap.size w)
 have H : ((vector_Order.f l0 l1).bind fun bt124 => (if bt124.1 = a2 then (some (bt124.2 == a3)) else (some false))) = some r := h
 clear h
 replace H := Option.bind_eq_some_iff.mp H
 obtain ⟨⟨t124, t125⟩, A50, H⟩ := H
 replace H : (if t124 = a2 then (some (t125 == a3)) else (some false)) = some r := H
 have A5 := Aside0.mk A50
 clear A50
 by_cases c6 : t124 = a2
 ·
  rw [if_pos c6] at H
  have c6b0 : (t124 == a2) = true := beq_iff_eq.mpr c6
  have c6b1 : (t124 != a2) = false := bne_eq_false_iff_eq.mpr c6
  clear c6
  obtain rfl := Option.some.inj H
  go_enter Tryz.func22, Tryz.ntmps22
  go_wp2_with (first | ((with_reducible refine gate_callee (f := 31) rfl ?_); refine goesL_ (some 14) rfl rfl Tryz.func31 (by kernel_rfl) rfl #[.slice A0 l0.length c0, .slice A1 l1.length c1] rfl (by (try simp only [List.map_toArray, List.map_cons, List.map_nil]); first | done | rfl | (simp only [List.length_drop, List.length_take]; rfl)) ?_; (with_reducible refine (vector_Order.calls _ _ l0 _ _ l1 t124 t125 _ ?side1 ?side2 ?side3 ?side4 A5.out).mono ?_); (case side1 => repeat (first | exact HR0.out | (with_reducible refine Kd.C_alloc ?_ _) | (with_reducible refine Kd.C_drewN ?_ _) | (with_reducible refine Kd.C_drew ?_))); (case side2 => exact HC0.out); (case side3 => repeat (first | exact HR1.out | (with_reducible refine Kd.C_alloc ?_ _) | (with_reducible refine Kd.C_drewN ?_ _) | (with_reducible refine Kd.C_drew ?_))); (case side4 => exact HC1.out); rintro e w7 ⟨rfl, hb⟩; (try clear A5); refine ⟨_, rfl, ?_⟩; have n0_ := Aside0.mk (below_step (by repeat (first | (with_reducible first | exact HB.out | apply below_alloc | apply pw_below_drewN | apply below_drew1) | exact HB.out)) hb); clear HB; have HB := n0_; clear n0_; (try clear hb); (try clear hb2); (try clear hk); (try clear hi)))
  go_ret
  exact ⟨by first | rfl | (simp [errW_none, errW_some] <;> rfl) | (simp [*, errW_none, errW_some] <;> rfl), by repeat (first | (with_reducible first | exact HB.out | apply below_alloc | apply pw_below_drewN | apply below_drew1) | exact HB.out)⟩
 ·
  rw [if_neg c6] at H
  have c6b0 : (t124 == a2) = false := beq_eq_false_iff_ne.mpr c6
  have c6b1 : (t124 != a2) = true := bne_iff_ne.mpr c6
  obtain rfl := Option.some.inj H
  go_enter Tryz.func22, Tryz.ntmps22
  go_wp2_with (first | ((with_reducible refine gate_callee (f := 31) rfl ?_); refine goesL_ (some 14) rfl rfl Tryz.func31 (by kernel_rfl) rfl #[.slice A0 l0.length c0, .slice A1 l1.length c1] rfl (by (try simp only [List.map_toArray, List.map_cons, List.map_nil]); first | done | rfl | (simp only [List.length_drop, List.length_take]; rfl)) ?_; (with_reducible refine (vector_Order.calls _ _ l0 _ _ l1 t124 t125 _ ?side1 ?side2 ?side3 ?side4 A5.out).mono ?_); (case side1 => repeat (first | exact HR0.out | (with_reducible refine Kd.C_alloc ?_ _) | (with_reducible refine Kd.C_drewN ?_ _) | (with_reducible refine Kd.C_drew ?_))); (case side2 => exact HC0.out); (case side3 => repeat (first | exact HR1.out | (with_reducible refine Kd.C_alloc ?_ _) | (with_reducible refine Kd.C_drewN ?_ _) | (with_reducible refine Kd.C_drew ?_))); (case side4 => exact HC1.out); rintro e w8 ⟨rfl, hb⟩; (try clear A5); refine ⟨_, rfl, ?_⟩; have n0_ := Aside0.mk (below_step (by repeat (first | (with_reducible first | exact HB.out | apply below_alloc | apply pw_below_drewN | apply below_drew1) | exact HB.out)) hb); clear HB; have HB := n0_; clear n0_; (try clear hb); (try clear hb2); (try clear hk); (try clear hi)))
  go_ret
  exact ⟨by first | rfl | (simp [errW_none, errW_some] <;> rfl) | (simp [*, errW_none, errW_some] <;> rfl), by repeat (first | (with_reducible first | exact HB.out | apply below_alloc | apply pw_below_drewN | apply below_drew1) | exact HB.out)⟩

/-! ### redpencillaw05_texts: function 27 -/
def redpencillaw05_texts.f (l0 : List (S25)) (a1 : ByteArray) (a2 : Int) : Option (Bool) := (vector_Text.f l0).bind fun bt126 => (if bt126.1.toList = a1.toList then (some (bt126.2 == a2)) else (some false))
set_option maxHeartbeats 8000000 in
set_option maxRecDepth 100000 in
theorem redpencillaw05_texts.calls (A0 : Option Addr) (c0 : Nat) (l0 : List (S25)) (a1 : ByteArray) (a2 : Int) (r : Bool) (w : World) (hG : GOK w) (hr0 : Kd.C k25 w A0 l0.length l0) (hc0 : l0.length ≤ c0) (h : redpencillaw05_texts.f l0 a1 a2 = some r) :
  Calls Tryz.prog 27 #[.slice A0 l0.length c0, .string a1, .int .i64 a2] w fun e w' => e = .returned (.bool r) ∧ Below w.heap.size w w' := by
 have HR0 := Aside0.mk hr0
 have HC0 := Aside0.mk hc0
 clear hr0 hc0
 have HB := Aside0.mk (Below.refl w.heap.size w)
 have HG := Aside0.mk hG
 clear hG
 have H : ((vector_Text.f l0).bind fun bt126 => (if bt126.1.toList = a1.toList then (some (bt126.2 == a2)) else (some false))) = some r := h
 clear h
 replace H := Option.bind_eq_some_iff.mp H
 obtain ⟨⟨t126, t127⟩, A40, H⟩ := H
 replace H : (if t126.toList = a1.toList then (some (t127 == a2)) else (some false)) = some r := H
 have A4 := Aside0.mk A40
 clear A40
 by_cases c5 : t126.toList = a1.toList
 ·
  rw [if_pos c5] at H
  have c5b0 : (t126.toList == a1.toList) = true := beq_iff_eq.mpr c5
  have c5b1 : (t126.toList != a1.toList) = false := bne_eq_false_iff_eq.mpr c5
  clear c5
  obtain rfl := Option.some.inj H
  go_enter Tryz.func27, Tryz.ntmps27
  go_wp2_with (first | ((with_reducible refine gate_callee (f := 32) rfl ?_); refine goesL_ (some 11) rfl rfl Tryz.func32 (by kernel_rfl) rfl #[.slice A0 l0.length c0] rfl (by (try simp only [List.map_toArray, List.map_cons, List.map_nil]); first | done | rfl | (simp only [List.length_drop, List.length_take]; rfl)) ?_; (with_reducible refine (vector_Text.calls _ _ l0 t126 t127 _ ?side1 ?side2 ?side3 A4.out).mono ?_); (case side1 => exact GOK_below HG.out (by repeat (first | (with_reducible first | exact HB.out | apply below_alloc | apply pw_below_drewN | apply below_drew1) | exact HB.out))); (case side2 => repeat (first | exact HR0.out | (with_reducible refine Kd.C_alloc ?_ _) | (with_reducible refine Kd.C_drewN ?_ _) | (with_reducible refine Kd.C_drew ?_))); (case side3 => exact HC0.out); rintro e w6 ⟨rfl, hb⟩; (try clear A4); refine ⟨_, rfl, ?_⟩; have n0_ := Aside0.mk (below_step (by repeat (first | (with_reducible first | exact HB.out | apply below_alloc | apply pw_below_drewN | apply below_drew1) | exact HB.out)) hb); clear HB; have HB := n0_; clear n0_; (try clear hb); (try clear hb2); (try clear hk); (try clear hi)))
  go_ret
  exact ⟨by first | rfl | (simp [errW_none, errW_some] <;> rfl) | (simp [*, errW_none, errW_some] <;> rfl), by repeat (first | (with_reducible first | exact HB.out | apply below_alloc | apply pw_below_drewN | apply below_drew1) | exact HB.out)⟩
 ·
  rw [if_neg c5] at H
  have c5b0 : (t126.toList == a1.toList) = false := beq_eq_false_iff_ne.mpr c5
  have c5b1 : (t126.toList != a1.toList) = true := bne_iff_ne.mpr c5
  obtain rfl := Option.some.inj H
  go_enter Tryz.func27, Tryz.ntmps27
  go_wp2_with (first | ((with_reducible refine gate_callee (f := 32) rfl ?_); refine goesL_ (some 11) rfl rfl Tryz.func32 (by kernel_rfl) rfl #[.slice A0 l0.length c0] rfl (by (try simp only [List.map_toArray, List.map_cons, List.map_nil]); first | done | rfl | (simp only [List.length_drop, List.length_take]; rfl)) ?_; (with_reducible refine (vector_Text.calls _ _ l0 t126 t127 _ ?side1 ?side2 ?side3 A4.out).mono ?_); (case side1 => exact GOK_below HG.out (by repeat (first | (with_reducible first | exact HB.out | apply below_alloc | apply pw_below_drewN | apply below_drew1) | exact HB.out))); (case side2 => repeat (first | exact HR0.out | (with_reducible refine Kd.C_alloc ?_ _) | (with_reducible refine Kd.C_drewN ?_ _) | (with_reducible refine Kd.C_drew ?_))); (case side3 => exact HC0.out); rintro e w7 ⟨rfl, hb⟩; (try clear A4); refine ⟨_, rfl, ?_⟩; have n0_ := Aside0.mk (below_step (by repeat (first | (with_reducible first | exact HB.out | apply below_alloc | apply pw_below_drewN | apply below_drew1) | exact HB.out)) hb); clear HB; have HB := n0_; clear n0_; (try clear hb); (try clear hb2); (try clear hk); (try clear hi)))
  go_ret
  exact ⟨by first | rfl | (simp [errW_none, errW_some] <;> rfl) | (simp [*, errW_none, errW_some] <;> rfl), by repeat (first | (with_reducible first | exact HB.out | apply below_alloc | apply pw_below_drewN | apply below_drew1) | exact HB.out)⟩

/-! ### redpencillaw05_parses: function 30 -/
def redpencillaw05_parses.f (k : Nat) (a0 : ByteArray) (l1 : List (S25)) (a2 : Int) : Option (Bool) := (vector_Parse.f a0).bind fun bt128 => ((redpencillaw05_gives.f k bt128.1 bt128.2 l1 a2).bind fun t132 => (some t132))
theorem redpencillaw05_parses.mono : ∀ a0 a1 a2 k, LeO (redpencillaw05_parses.f k a0 a1 a2) (redpencillaw05_parses.f (k + 1) a0 a1 a2) := by
 intro a0 a1 a2 k
 unfold redpencillaw05_parses.f
 repeat' first
   | (with_reducible exact redpencillaw05_gives.mono _ _ _ _ _)
   | (with_reducible exact LeO.refl _)
   | (with_reducible exact LeO.none _)
   | (with_reducible refine LeO.ite ?_ ?_)
   | (with_reducible refine LeO.bind ?_ (fun _ => ?_))
   | exact redpencillaw05_gives.mono _ _ _ _ _
   | exact LeO.none _
   | refine LeO.ite ?_ ?_
   | refine LeO.bind ?_ (fun _ => ?_)
set_option maxHeartbeats 8000000 in
set_option maxRecDepth 100000 in
theorem redpencillaw05_parses.calls (k : Nat) (a0 : ByteArray) (A1 : Option Addr) (c1 : Nat) (l1 : List (S25)) (a2 : Int) (r : Bool) (w : World) (hG : GOK w) (hr1 : Kd.C k25 w A1 l1.length l1) (hc1 : l1.length ≤ c1) (h : redpencillaw05_parses.f k a0 l1 a2 = some r) :
  Calls Tryz.prog 30 #[.string a0, .slice A1 l1.length c1, .int .i64 a2] w fun e w' => e = .returned (.bool r) ∧ Below w.heap.size w w' := by
 have HR1 := Aside0.mk hr1
 have HC1 := Aside0.mk hc1
 clear hr1 hc1
 have HB := Aside0.mk (Below.refl w.heap.size w)
 have HG := Aside0.mk hG
 clear hG
 have H : ((vector_Parse.f a0).bind fun bt128 => ((redpencillaw05_gives.f k bt128.1 bt128.2 l1 a2).bind fun t132 => (some t132))) = some r := h
 clear h
 replace H := Option.bind_eq_some_iff.mp H
 obtain ⟨⟨t128, t129⟩, A40, H⟩ := H
 replace H : ((redpencillaw05_gives.f k t128 t129 l1 a2).bind fun t132 => (some t132)) = some r := H
 have A4 := Aside0.mk A40
 clear A40
 replace H := Option.bind_eq_some_iff.mp H
 obtain ⟨t132, A50, H⟩ := H
 replace H : (some t132) = some r := H
 have A5 := Aside0.mk A50
 clear A50
 obtain rfl := Option.some.inj H
 go_enter Tryz.func30, Tryz.ntmps30
 go_wp2_with (first | ((with_reducible refine gate_callee (f := 46) rfl ?_); refine goesL_ (some 11) rfl rfl Tryz.func46 (by kernel_rfl) rfl #[.string a0] rfl (by (try simp only [List.map_toArray, List.map_cons, List.map_nil]); first | done | rfl | (simp only [List.length_drop, List.length_take]; rfl)) ?_; (with_reducible refine (vector_Parse.calls a0 t128 t129 _ ?side1 A4.out).mono ?_); (case side1 => exact GOK_below HG.out (by repeat (first | (with_reducible first | exact HB.out | apply below_alloc | apply pw_below_drewN | apply below_drew1) | exact HB.out))); rintro e w6 ⟨v130, rfl, ho0, hb⟩; (try clear A4); refine ⟨_, rfl, ?_⟩; have n0_ := Aside0.mk (Kd.R_lower ho0 (below_size (by repeat (first | (with_reducible first | exact HB.out | apply below_alloc | apply pw_below_drewN | apply below_drew1) | exact HB.out)))); have n1_ := Aside0.mk (below_step (by repeat (first | (with_reducible first | exact HB.out | apply below_alloc | apply pw_below_drewN | apply below_drew1) | exact HB.out)) hb); clear HB; have HO131 := n0_; have HB := n1_; clear n0_ n1_; (try clear hb); (try clear hb2); (try clear hk); (try clear hi); (try clear ho0); obtain ⟨Ao7, co7, eo7⟩ := Kd.R_slice HO131.out; subst eo7) | ((with_reducible refine gate_callee (f := 24) rfl ?_); refine goesL_ (some 18) rfl rfl Tryz.func24 (by kernel_rfl) rfl #[.slice Ao7 t128.length co7, .int .i64 t129, .slice A1 l1.length c1, .int .i64 a2] rfl (by (try simp only [List.map_toArray, List.map_cons, List.map_nil]); first | done | rfl | (simp only [List.length_drop, List.length_take]; rfl)) ?_; (with_reducible refine (redpencillaw05_gives.calls k _ _ t128 t129 _ _ l1 a2 t132 _ ?side1 ?side2 ?side3 ?side4 A5.out).mono ?_); (case side1 => repeat (first | exact (Kd.R_reads' HO131.out).2.2 | (with_reducible refine Kd.C_alloc ?_ _) | (with_reducible refine Kd.C_drewN ?_ _) | (with_reducible refine Kd.C_drew ?_))); (case side2 => exact (Kd.R_reads' HO131.out).2.1); (case side3 => repeat (first | exact (Kd.C_below HR1.out HB.out) | (with_reducible refine Kd.C_alloc ?_ _) | (with_reducible refine Kd.C_drewN ?_ _) | (with_reducible refine Kd.C_drew ?_))); (case side4 => exact HC1.out); rintro e w' ⟨rfl, ⟨nd, rfl⟩⟩; (try clear A5); refine ⟨_, rfl, ?_⟩))
 go_ret
 exact ⟨by first | rfl | (simp [errW_none, errW_some] <;> rfl) | (simp [*, errW_none, errW_some] <;> rfl), by repeat (first | (with_reducible first | exact HB.out | apply below_alloc | apply pw_below_drewN | apply below_drew1) | exact HB.out)⟩

/-! ### redpencillaw05_known: function 8 -/
mutual
def redpencillaw05_known.j0 : Nat → List (S25) → List (S25) → List (S25) → Bool → Option (Bool)
 | 0, _, _, _, _ => none
 | k + 1, x1, x2, x3, x53 => if x53 = true then (some false) else ((redpencillaw05_of.f 2 5).bind fun bt179 => ((redpencillaw05_of.f 1 2).bind fun bt181 => ((redpencillaw05_of.f 2 5).bind fun bt183 => ((redpencillaw05_of.f 3 7).bind fun bt185 => ((redpencillaw05_raised.f k x1 bt179.1 bt179.2 (([(⟨bt181.1, bt181.2⟩ : S25), (⟨bt183.1, bt183.2⟩ : S25), (⟨bt185.1, bt185.2⟩ : S25)] : List (S25))) 0).bind fun t190 => (if t190 = true then ((redpencillaw05_of.f 3 5).bind fun bt191 => ((redpencillaw05_raised.f k x1 bt191.1 bt191.2 x1 0).bind fun t193 => (if t193 = true then ((redpencillaw05_of.f 1 4).bind fun bt194 => ((redpencillaw05_of.f 2 1).bind fun bt196 => ((redpencillaw05_of.f 1 4).bind fun bt201 => ((redpencillaw05_of.f 2 1).bind fun bt203 => ((redpencillaw05_of.f 3 7).bind fun bt205 => ((redpencillaw05_merged.f k x1 (([(⟨bt194.1, bt194.2⟩ : S25), (⟨bt196.1, bt196.2⟩ : S25)] : List (S25))) (([(⟨bt201.1, bt201.2⟩ : S25), (⟨bt203.1, bt203.2⟩ : S25), (⟨bt205.1, bt205.2⟩ : S25)] : List (S25))) 0).bind fun t210 => (if t210 = true then ((redpencillaw05_of.f 3 7).bind fun bt211 => ((redpencillaw05_of.f 1 2).bind fun bt213 => ((redpencillaw05_merged.f k (([(⟨bt211.1, bt211.2⟩ : S25), (⟨bt213.1, bt213.2⟩ : S25)] : List (S25))) ([] : List (S25)) ([] : List (S25)) 2).bind fun t218 => (redpencillaw05_known.j1 k x1 x2 x3 (!t218))))) else (redpencillaw05_known.j1 k x1 x2 x3 true)))))))) else (redpencillaw05_known.j1 k x1 x2 x3 true)))) else (redpencillaw05_known.j1 k x1 x2 x3 true)))))))
def redpencillaw05_known.j1 : Nat → List (S25) → List (S25) → List (S25) → Bool → Option (Bool)
 | 0, _, _, _, _ => none
 | k + 1, x1, x2, x3, x87 => if x87 = true then (some false) else ((redpencillaw05_orders.f x2 x1 (-1) 0).bind fun t219 => (if t219 = true then ((redpencillaw05_orders.f x1 x2 1 0).bind fun t220 => (if t220 = true then ((redpencillaw05_orders.f x2 x3 2 0).bind fun t221 => (if t221 = true then ((redpencillaw05_orders.f ([] : List (S25)) ([] : List (S25)) 0 0).bind fun t222 => (if t222 = true then ((redpencillaw05_texts.f ([] : List (S25)) (⟨#[45]⟩ : ByteArray) 0).bind fun t223 => (redpencillaw05_known.j2 k x1 (!t223))) else (redpencillaw05_known.j2 k x1 true))) else (redpencillaw05_known.j2 k x1 true))) else (redpencillaw05_known.j2 k x1 true))) else (redpencillaw05_known.j2 k x1 true)))
def redpencillaw05_known.j2 : Nat → List (S25) → Bool → Option (Bool)
 | 0, _, _ => none
 | k + 1, x1, x111 => if x111 = true then (some false) else ((redpencillaw05_parses.f k (⟨#[49, 46, 50, 32, 51, 46, 55]⟩ : ByteArray) x1 0).bind fun t224 => (if t224 = true then ((redpencillaw05_parses.f k (⟨#[51, 46, 55, 32, 49, 46, 50]⟩ : ByteArray) ([] : List (S25)) 6).bind fun t225 => (if t225 = true then ((redpencillaw05_parses.f k (⟨#[]⟩ : ByteArray) ([] : List (S25)) 6).bind fun t226 => (some t226)) else (some false))) else (some false)))
end
def redpencillaw05_known.f (k : Nat)  : Option (Bool) := (redpencillaw05_of.f 1 2).bind fun bt134 => ((redpencillaw05_of.f 3 7).bind fun bt136 => ((some (([(⟨bt134.1, bt134.2⟩ : S25), (⟨bt136.1, bt136.2⟩ : S25)] : List (S25)) : List (S25))).bind fun y138 => ((redpencillaw05_of.f 1 2).bind fun bt141 => ((some (([(⟨bt141.1, bt141.2⟩ : S25)] : List (S25)) : List (S25))).bind fun y143 => ((redpencillaw05_of.f 3 7).bind fun bt146 => ((some (([(⟨bt146.1, bt146.2⟩ : S25)] : List (S25)) : List (S25))).bind fun y148 => ((redpencillaw05_of.f 3 7).bind fun bt151 => ((redpencillaw05_of.f 1 2).bind fun bt153 => ((redpencillaw05_of.f 3 4).bind fun bt155 => ((redpencillaw05_made.f k (([(⟨bt151.1, bt151.2⟩ : S25), (⟨bt153.1, bt153.2⟩ : S25), (⟨bt155.1, bt155.2⟩ : S25)] : List (S25))) y138 0).bind fun t160 => (if t160 = true then ((redpencillaw05_made.f k ([] : List (S25)) ([] : List (S25)) 0).bind fun t161 => (if t161 = true then ((redpencillaw05_of.f 0 1).bind fun bt162 => ((redpencillaw05_made.f k (([(⟨bt162.1, bt162.2⟩ : S25)] : List (S25))) ([] : List (S25)) 2).bind fun t167 => (if t167 = true then ((vector_Get.f y138 3).bind fun t168 => (if t168 = 7 then ((vector_Get.f y138 2).bind fun t169 => (if t169 = 0 then ((redpencillaw05_of.f 3 7).bind fun bt170 => ((vector_Has.f y138 bt170.1 bt170.2).bind fun t172 => (if t172 = true then ((redpencillaw05_of.f 3 8).bind fun bt173 => ((vector_Has.f y138 bt173.1 bt173.2).bind fun t175 => (if t175 = true then (redpencillaw05_known.j0 k y138 y143 y148 true) else ((redpencillaw05_of.f 1 0).bind fun bt176 => ((vector_Has.f y138 bt176.1 bt176.2).bind fun t178 => (redpencillaw05_known.j0 k y138 y143 y148 t178)))))) else (redpencillaw05_known.j0 k y138 y143 y148 true)))) else (redpencillaw05_known.j0 k y138 y143 y148 true))) else (redpencillaw05_known.j0 k y138 y143 y148 true))) else (redpencillaw05_known.j0 k y138 y143 y148 true)))) else (redpencillaw05_known.j0 k y138 y143 y148 true))) else (redpencillaw05_known.j0 k y138 y143 y148 true))))))))))))
theorem redpencillaw05_known.mono_l : ∀ k, (∀ y0 y1 y2 y3, LeO (redpencillaw05_known.j0 k y0 y1 y2 y3) (redpencillaw05_known.j0 (k + 1) y0 y1 y2 y3)) ∧ (∀ y0 y1 y2 y3, LeO (redpencillaw05_known.j1 k y0 y1 y2 y3) (redpencillaw05_known.j1 (k + 1) y0 y1 y2 y3)) ∧ (∀ y0 y1, LeO (redpencillaw05_known.j2 k y0 y1) (redpencillaw05_known.j2 (k + 1) y0 y1))
 | 0 => ⟨fun _ _ _ _ r h => by simp [redpencillaw05_known.j0] at h, fun _ _ _ _ r h => by simp [redpencillaw05_known.j1] at h, fun _ _ r h => by simp [redpencillaw05_known.j2] at h⟩
 | k + 1 => by
  obtain ⟨ih0, ih1, ih2⟩ := redpencillaw05_known.mono_l k
  refine ⟨?_, ?_, ?_⟩
  ·
   intro y0 y1 y2 y3
   unfold redpencillaw05_known.j0
   repeat' first
   | (with_reducible exact ih0 _ _ _ _)
   | (with_reducible exact ih1 _ _ _ _)
   | (with_reducible exact ih2 _ _)
   | (with_reducible exact redpencillaw05_made.mono _ _ _ _)
   | (with_reducible exact redpencillaw05_merged.mono _ _ _ _ _)
   | (with_reducible exact redpencillaw05_parses.mono _ _ _ _)
   | (with_reducible exact redpencillaw05_raised.mono _ _ _ _ _ _)
   | (with_reducible exact LeO.refl _)
   | (with_reducible exact LeO.none _)
   | (with_reducible refine LeO.ite ?_ ?_)
   | (with_reducible refine LeO.bind ?_ (fun _ => ?_))
   | exact ih0 _ _ _ _
   | exact ih1 _ _ _ _
   | exact ih2 _ _
   | exact redpencillaw05_made.mono _ _ _ _
   | exact redpencillaw05_merged.mono _ _ _ _ _
   | exact redpencillaw05_parses.mono _ _ _ _
   | exact redpencillaw05_raised.mono _ _ _ _ _ _
   | exact LeO.none _
   | refine LeO.ite ?_ ?_
   | refine LeO.bind ?_ (fun _ => ?_)
  ·
   intro y0 y1 y2 y3
   unfold redpencillaw05_known.j1
   repeat' first
   | (with_reducible exact ih0 _ _ _ _)
   | (with_reducible exact ih1 _ _ _ _)
   | (with_reducible exact ih2 _ _)
   | (with_reducible exact redpencillaw05_made.mono _ _ _ _)
   | (with_reducible exact redpencillaw05_merged.mono _ _ _ _ _)
   | (with_reducible exact redpencillaw05_parses.mono _ _ _ _)
   | (with_reducible exact redpencillaw05_raised.mono _ _ _ _ _ _)
   | (with_reducible exact LeO.refl _)
   | (with_reducible exact LeO.none _)
   | (with_reducible refine LeO.ite ?_ ?_)
   | (with_reducible refine LeO.bind ?_ (fun _ => ?_))
   | exact ih0 _ _ _ _
   | exact ih1 _ _ _ _
   | exact ih2 _ _
   | exact redpencillaw05_made.mono _ _ _ _
   | exact redpencillaw05_merged.mono _ _ _ _ _
   | exact redpencillaw05_parses.mono _ _ _ _
   | exact redpencillaw05_raised.mono _ _ _ _ _ _
   | exact LeO.none _
   | refine LeO.ite ?_ ?_
   | refine LeO.bind ?_ (fun _ => ?_)
  ·
   intro y0 y1
   unfold redpencillaw05_known.j2
   repeat' first
   | (with_reducible exact ih0 _ _ _ _)
   | (with_reducible exact ih1 _ _ _ _)
   | (with_reducible exact ih2 _ _)
   | (with_reducible exact redpencillaw05_made.mono _ _ _ _)
   | (with_reducible exact redpencillaw05_merged.mono _ _ _ _ _)
   | (with_reducible exact redpencillaw05_parses.mono _ _ _ _)
   | (with_reducible exact redpencillaw05_raised.mono _ _ _ _ _ _)
   | (with_reducible exact LeO.refl _)
   | (with_reducible exact LeO.none _)
   | (with_reducible refine LeO.ite ?_ ?_)
   | (with_reducible refine LeO.bind ?_ (fun _ => ?_))
   | exact ih0 _ _ _ _
   | exact ih1 _ _ _ _
   | exact ih2 _ _
   | exact redpencillaw05_made.mono _ _ _ _
   | exact redpencillaw05_merged.mono _ _ _ _ _
   | exact redpencillaw05_parses.mono _ _ _ _
   | exact redpencillaw05_raised.mono _ _ _ _ _ _
   | exact LeO.none _
   | refine LeO.ite ?_ ?_
   | refine LeO.bind ?_ (fun _ => ?_)
theorem redpencillaw05_known.mono : ∀ k, LeO (redpencillaw05_known.f k ) (redpencillaw05_known.f (k + 1) ) := by
 intro  k
 obtain ⟨ih0, ih1, ih2⟩ := redpencillaw05_known.mono_l k
 unfold redpencillaw05_known.f
 repeat' first
   | (with_reducible exact ih0 _ _ _ _)
   | (with_reducible exact ih1 _ _ _ _)
   | (with_reducible exact ih2 _ _)
   | (with_reducible exact redpencillaw05_made.mono _ _ _ _)
   | (with_reducible exact redpencillaw05_merged.mono _ _ _ _ _)
   | (with_reducible exact redpencillaw05_parses.mono _ _ _ _)
   | (with_reducible exact redpencillaw05_raised.mono _ _ _ _ _ _)
   | (with_reducible exact LeO.refl _)
   | (with_reducible exact LeO.none _)
   | (with_reducible refine LeO.ite ?_ ?_)
   | (with_reducible refine LeO.bind ?_ (fun _ => ?_))
   | exact ih0 _ _ _ _
   | exact ih1 _ _ _ _
   | exact ih2 _ _
   | exact redpencillaw05_made.mono _ _ _ _
   | exact redpencillaw05_merged.mono _ _ _ _ _
   | exact redpencillaw05_parses.mono _ _ _ _
   | exact redpencillaw05_raised.mono _ _ _ _ _ _
   | exact LeO.none _
   | refine LeO.ite ?_ ?_
   | refine LeO.bind ?_ (fun _ => ?_)
theorem redpencillaw05_known.j0_no : ∀ k y0 y1 y2, ¬ redpencillaw05_known.j0 k y0 y1 y2 true = some true := by
  intro k y0 y1 y2
  cases k with
  | zero => rw [redpencillaw05_known.j0]; simp
  | succ k => rw [redpencillaw05_known.j0]; simp
theorem redpencillaw05_known.j1_no : ∀ k y0 y1 y2, ¬ redpencillaw05_known.j1 k y0 y1 y2 true = some true := by
  intro k y0 y1 y2
  cases k with
  | zero => rw [redpencillaw05_known.j1]; simp
  | succ k => rw [redpencillaw05_known.j1]; simp
theorem redpencillaw05_known.j2_no : ∀ k y0, ¬ redpencillaw05_known.j2 k y0 true = some true := by
  intro k y0
  cases k with
  | zero => rw [redpencillaw05_known.j2]; simp
  | succ k => rw [redpencillaw05_known.j2]; simp
set_option maxHeartbeats 8000000 in
set_option maxRecDepth 100000 in
theorem redpencillaw05_known.callsT (k : Nat)  (w : World) (hG : GOK w) (h : redpencillaw05_known.f k  = some true) :
  Calls Tryz.prog 8 #[] w fun e w' => e = .returned (.bool true) ∧ Below w.heap.size w w' := by
 have HB := Aside0.mk (Below.refl w.heap.size w)
 have HG := Aside0.mk hG
 clear hG
 have H : ((redpencillaw05_of.f 1 2).bind fun bt134 => ((redpencillaw05_of.f 3 7).bind fun bt136 => ((some (([(⟨bt134.1, bt134.2⟩ : S25), (⟨bt136.1, bt136.2⟩ : S25)] : List (S25)) : List (S25))).bind fun y138 => ((redpencillaw05_of.f 1 2).bind fun bt141 => ((some (([(⟨bt141.1, bt141.2⟩ : S25)] : List (S25)) : List (S25))).bind fun y143 => ((redpencillaw05_of.f 3 7).bind fun bt146 => ((some (([(⟨bt146.1, bt146.2⟩ : S25)] : List (S25)) : List (S25))).bind fun y148 => ((redpencillaw05_of.f 3 7).bind fun bt151 => ((redpencillaw05_of.f 1 2).bind fun bt153 => ((redpencillaw05_of.f 3 4).bind fun bt155 => ((redpencillaw05_made.f k (([(⟨bt151.1, bt151.2⟩ : S25), (⟨bt153.1, bt153.2⟩ : S25), (⟨bt155.1, bt155.2⟩ : S25)] : List (S25))) y138 0).bind fun t160 => (if t160 = true then ((redpencillaw05_made.f k ([] : List (S25)) ([] : List (S25)) 0).bind fun t161 => (if t161 = true then ((redpencillaw05_of.f 0 1).bind fun bt162 => ((redpencillaw05_made.f k (([(⟨bt162.1, bt162.2⟩ : S25)] : List (S25))) ([] : List (S25)) 2).bind fun t167 => (if t167 = true then ((vector_Get.f y138 3).bind fun t168 => (if t168 = 7 then ((vector_Get.f y138 2).bind fun t169 => (if t169 = 0 then ((redpencillaw05_of.f 3 7).bind fun bt170 => ((vector_Has.f y138 bt170.1 bt170.2).bind fun t172 => (if t172 = true then ((redpencillaw05_of.f 3 8).bind fun bt173 => ((vector_Has.f y138 bt173.1 bt173.2).bind fun t175 => (if t175 = true then (redpencillaw05_known.j0 k y138 y143 y148 true) else ((redpencillaw05_of.f 1 0).bind fun bt176 => ((vector_Has.f y138 bt176.1 bt176.2).bind fun t178 => (redpencillaw05_known.j0 k y138 y143 y148 t178)))))) else (redpencillaw05_known.j0 k y138 y143 y148 true)))) else (redpencillaw05_known.j0 k y138 y143 y148 true))) else (redpencillaw05_known.j0 k y138 y143 y148 true))) else (redpencillaw05_known.j0 k y138 y143 y148 true)))) else (redpencillaw05_known.j0 k y138 y143 y148 true))) else (redpencillaw05_known.j0 k y138 y143 y148 true))))))))))))) = some true := h
 clear h
 replace H := Option.bind_eq_some_iff.mp H
 obtain ⟨⟨t134, t135⟩, A10, H⟩ := H
 replace H : ((redpencillaw05_of.f 3 7).bind fun bt136 => ((some (([(⟨t134, t135⟩ : S25), (⟨bt136.1, bt136.2⟩ : S25)] : List (S25)) : List (S25))).bind fun y138 => ((redpencillaw05_of.f 1 2).bind fun bt141 => ((some (([(⟨bt141.1, bt141.2⟩ : S25)] : List (S25)) : List (S25))).bind fun y143 => ((redpencillaw05_of.f 3 7).bind fun bt146 => ((some (([(⟨bt146.1, bt146.2⟩ : S25)] : List (S25)) : List (S25))).bind fun y148 => ((redpencillaw05_of.f 3 7).bind fun bt151 => ((redpencillaw05_of.f 1 2).bind fun bt153 => ((redpencillaw05_of.f 3 4).bind fun bt155 => ((redpencillaw05_made.f k (([(⟨bt151.1, bt151.2⟩ : S25), (⟨bt153.1, bt153.2⟩ : S25), (⟨bt155.1, bt155.2⟩ : S25)] : List (S25))) y138 0).bind fun t160 => (if t160 = true then ((redpencillaw05_made.f k ([] : List (S25)) ([] : List (S25)) 0).bind fun t161 => (if t161 = true then ((redpencillaw05_of.f 0 1).bind fun bt162 => ((redpencillaw05_made.f k (([(⟨bt162.1, bt162.2⟩ : S25)] : List (S25))) ([] : List (S25)) 2).bind fun t167 => (if t167 = true then ((vector_Get.f y138 3).bind fun t168 => (if t168 = 7 then ((vector_Get.f y138 2).bind fun t169 => (if t169 = 0 then ((redpencillaw05_of.f 3 7).bind fun bt170 => ((vector_Has.f y138 bt170.1 bt170.2).bind fun t172 => (if t172 = true then ((redpencillaw05_of.f 3 8).bind fun bt173 => ((vector_Has.f y138 bt173.1 bt173.2).bind fun t175 => (if t175 = true then (redpencillaw05_known.j0 k y138 y143 y148 true) else ((redpencillaw05_of.f 1 0).bind fun bt176 => ((vector_Has.f y138 bt176.1 bt176.2).bind fun t178 => (redpencillaw05_known.j0 k y138 y143 y148 t178)))))) else (redpencillaw05_known.j0 k y138 y143 y148 true)))) else (redpencillaw05_known.j0 k y138 y143 y148 true))) else (redpencillaw05_known.j0 k y138 y143 y148 true))) else (redpencillaw05_known.j0 k y138 y143 y148 true)))) else (redpencillaw05_known.j0 k y138 y143 y148 true))) else (redpencillaw05_known.j0 k y138 y143 y148 true)))))))))))) = some true := H
 have A1 := Aside0.mk A10
 clear A10
 replace H := Option.bind_eq_some_iff.mp H
 obtain ⟨⟨t136, t137⟩, A20, H⟩ := H
 replace H : ((some (([(⟨t134, t135⟩ : S25), (⟨t136, t137⟩ : S25)] : List (S25)) : List (S25))).bind fun y138 => ((redpencillaw05_of.f 1 2).bind fun bt141 => ((some (([(⟨bt141.1, bt141.2⟩ : S25)] : List (S25)) : List (S25))).bind fun y143 => ((redpencillaw05_of.f 3 7).bind fun bt146 => ((some (([(⟨bt146.1, bt146.2⟩ : S25)] : List (S25)) : List (S25))).bind fun y148 => ((redpencillaw05_of.f 3 7).bind fun bt151 => ((redpencillaw05_of.f 1 2).bind fun bt153 => ((redpencillaw05_of.f 3 4).bind fun bt155 => ((redpencillaw05_made.f k (([(⟨bt151.1, bt151.2⟩ : S25), (⟨bt153.1, bt153.2⟩ : S25), (⟨bt155.1, bt155.2⟩ : S25)] : List (S25))) y138 0).bind fun t160 => (if t160 = true then ((redpencillaw05_made.f k ([] : List (S25)) ([] : List (S25)) 0).bind fun t161 => (if t161 = true then ((redpencillaw05_of.f 0 1).bind fun bt162 => ((redpencillaw05_made.f k (([(⟨bt162.1, bt162.2⟩ : S25)] : List (S25))) ([] : List (S25)) 2).bind fun t167 => (if t167 = true then ((vector_Get.f y138 3).bind fun t168 => (if t168 = 7 then ((vector_Get.f y138 2).bind fun t169 => (if t169 = 0 then ((redpencillaw05_of.f 3 7).bind fun bt170 => ((vector_Has.f y138 bt170.1 bt170.2).bind fun t172 => (if t172 = true then ((redpencillaw05_of.f 3 8).bind fun bt173 => ((vector_Has.f y138 bt173.1 bt173.2).bind fun t175 => (if t175 = true then (redpencillaw05_known.j0 k y138 y143 y148 true) else ((redpencillaw05_of.f 1 0).bind fun bt176 => ((vector_Has.f y138 bt176.1 bt176.2).bind fun t178 => (redpencillaw05_known.j0 k y138 y143 y148 t178)))))) else (redpencillaw05_known.j0 k y138 y143 y148 true)))) else (redpencillaw05_known.j0 k y138 y143 y148 true))) else (redpencillaw05_known.j0 k y138 y143 y148 true))) else (redpencillaw05_known.j0 k y138 y143 y148 true)))) else (redpencillaw05_known.j0 k y138 y143 y148 true))) else (redpencillaw05_known.j0 k y138 y143 y148 true))))))))))) = some true := H
 have A2 := Aside0.mk A20
 clear A20
 obtain ⟨y138, hy138⟩ : ∃ y_ : List (S25), y_ = (([(⟨t134, t135⟩ : S25), (⟨t136, t137⟩ : S25)] : List (S25))) := ⟨_, rfl⟩
 replace H : ((redpencillaw05_of.f 1 2).bind fun bt141 => ((some (([(⟨bt141.1, bt141.2⟩ : S25)] : List (S25)) : List (S25))).bind fun y143 => ((redpencillaw05_of.f 3 7).bind fun bt146 => ((some (([(⟨bt146.1, bt146.2⟩ : S25)] : List (S25)) : List (S25))).bind fun y148 => ((redpencillaw05_of.f 3 7).bind fun bt151 => ((redpencillaw05_of.f 1 2).bind fun bt153 => ((redpencillaw05_of.f 3 4).bind fun bt155 => ((redpencillaw05_made.f k (([(⟨bt151.1, bt151.2⟩ : S25), (⟨bt153.1, bt153.2⟩ : S25), (⟨bt155.1, bt155.2⟩ : S25)] : List (S25))) y138 0).bind fun t160 => (if t160 = true then ((redpencillaw05_made.f k ([] : List (S25)) ([] : List (S25)) 0).bind fun t161 => (if t161 = true then ((redpencillaw05_of.f 0 1).bind fun bt162 => ((redpencillaw05_made.f k (([(⟨bt162.1, bt162.2⟩ : S25)] : List (S25))) ([] : List (S25)) 2).bind fun t167 => (if t167 = true then ((vector_Get.f y138 3).bind fun t168 => (if t168 = 7 then ((vector_Get.f y138 2).bind fun t169 => (if t169 = 0 then ((redpencillaw05_of.f 3 7).bind fun bt170 => ((vector_Has.f y138 bt170.1 bt170.2).bind fun t172 => (if t172 = true then ((redpencillaw05_of.f 3 8).bind fun bt173 => ((vector_Has.f y138 bt173.1 bt173.2).bind fun t175 => (if t175 = true then (redpencillaw05_known.j0 k y138 y143 y148 true) else ((redpencillaw05_of.f 1 0).bind fun bt176 => ((vector_Has.f y138 bt176.1 bt176.2).bind fun t178 => (redpencillaw05_known.j0 k y138 y143 y148 t178)))))) else (redpencillaw05_known.j0 k y138 y143 y148 true)))) else (redpencillaw05_known.j0 k y138 y143 y148 true))) else (redpencillaw05_known.j0 k y138 y143 y148 true))) else (redpencillaw05_known.j0 k y138 y143 y148 true)))) else (redpencillaw05_known.j0 k y138 y143 y148 true))) else (redpencillaw05_known.j0 k y138 y143 y148 true)))))))))) = some true := by first | (rw [hy138]; with_reducible exact H) | (have H2_ := (Option.bind_some _ _).symm.trans H; rw [hy138]; with_reducible exact H2_) | (have H2_ := (Option.bind_some _ _).symm.trans H; with_reducible exact H2_) | with_reducible exact H | (rw [hy138]; exact H) | exact H
 have Ny138 := Aside0.mk hy138
 clear hy138
 replace H := Option.bind_eq_some_iff.mp H
 obtain ⟨⟨t141, t142⟩, A30, H⟩ := H
 replace H : ((some (([(⟨t141, t142⟩ : S25)] : List (S25)) : List (S25))).bind fun y143 => ((redpencillaw05_of.f 3 7).bind fun bt146 => ((some (([(⟨bt146.1, bt146.2⟩ : S25)] : List (S25)) : List (S25))).bind fun y148 => ((redpencillaw05_of.f 3 7).bind fun bt151 => ((redpencillaw05_of.f 1 2).bind fun bt153 => ((redpencillaw05_of.f 3 4).bind fun bt155 => ((redpencillaw05_made.f k (([(⟨bt151.1, bt151.2⟩ : S25), (⟨bt153.1, bt153.2⟩ : S25), (⟨bt155.1, bt155.2⟩ : S25)] : List (S25))) y138 0).bind fun t160 => (if t160 = true then ((redpencillaw05_made.f k ([] : List (S25)) ([] : List (S25)) 0).bind fun t161 => (if t161 = true then ((redpencillaw05_of.f 0 1).bind fun bt162 => ((redpencillaw05_made.f k (([(⟨bt162.1, bt162.2⟩ : S25)] : List (S25))) ([] : List (S25)) 2).bind fun t167 => (if t167 = true then ((vector_Get.f y138 3).bind fun t168 => (if t168 = 7 then ((vector_Get.f y138 2).bind fun t169 => (if t169 = 0 then ((redpencillaw05_of.f 3 7).bind fun bt170 => ((vector_Has.f y138 bt170.1 bt170.2).bind fun t172 => (if t172 = true then ((redpencillaw05_of.f 3 8).bind fun bt173 => ((vector_Has.f y138 bt173.1 bt173.2).bind fun t175 => (if t175 = true then (redpencillaw05_known.j0 k y138 y143 y148 true) else ((redpencillaw05_of.f 1 0).bind fun bt176 => ((vector_Has.f y138 bt176.1 bt176.2).bind fun t178 => (redpencillaw05_known.j0 k y138 y143 y148 t178)))))) else (redpencillaw05_known.j0 k y138 y143 y148 true)))) else (redpencillaw05_known.j0 k y138 y143 y148 true))) else (redpencillaw05_known.j0 k y138 y143 y148 true))) else (redpencillaw05_known.j0 k y138 y143 y148 true)))) else (redpencillaw05_known.j0 k y138 y143 y148 true))) else (redpencillaw05_known.j0 k y138 y143 y148 true))))))))) = some true := H
 have A3 := Aside0.mk A30
 clear A30
 obtain ⟨y143, hy143⟩ : ∃ y_ : List (S25), y_ = (([(⟨t141, t142⟩ : S25)] : List (S25))) := ⟨_, rfl⟩
 replace H : ((redpencillaw05_of.f 3 7).bind fun bt146 => ((some (([(⟨bt146.1, bt146.2⟩ : S25)] : List (S25)) : List (S25))).bind fun y148 => ((redpencillaw05_of.f 3 7).bind fun bt151 => ((redpencillaw05_of.f 1 2).bind fun bt153 => ((redpencillaw05_of.f 3 4).bind fun bt155 => ((redpencillaw05_made.f k (([(⟨bt151.1, bt151.2⟩ : S25), (⟨bt153.1, bt153.2⟩ : S25), (⟨bt155.1, bt155.2⟩ : S25)] : List (S25))) y138 0).bind fun t160 => (if t160 = true then ((redpencillaw05_made.f k ([] : List (S25)) ([] : List (S25)) 0).bind fun t161 => (if t161 = true then ((redpencillaw05_of.f 0 1).bind fun bt162 => ((redpencillaw05_made.f k (([(⟨bt162.1, bt162.2⟩ : S25)] : List (S25))) ([] : List (S25)) 2).bind fun t167 => (if t167 = true then ((vector_Get.f y138 3).bind fun t168 => (if t168 = 7 then ((vector_Get.f y138 2).bind fun t169 => (if t169 = 0 then ((redpencillaw05_of.f 3 7).bind fun bt170 => ((vector_Has.f y138 bt170.1 bt170.2).bind fun t172 => (if t172 = true then ((redpencillaw05_of.f 3 8).bind fun bt173 => ((vector_Has.f y138 bt173.1 bt173.2).bind fun t175 => (if t175 = true then (redpencillaw05_known.j0 k y138 y143 y148 true) else ((redpencillaw05_of.f 1 0).bind fun bt176 => ((vector_Has.f y138 bt176.1 bt176.2).bind fun t178 => (redpencillaw05_known.j0 k y138 y143 y148 t178)))))) else (redpencillaw05_known.j0 k y138 y143 y148 true)))) else (redpencillaw05_known.j0 k y138 y143 y148 true))) else (redpencillaw05_known.j0 k y138 y143 y148 true))) else (redpencillaw05_known.j0 k y138 y143 y148 true)))) else (redpencillaw05_known.j0 k y138 y143 y148 true))) else (redpencillaw05_known.j0 k y138 y143 y148 true)))))))) = some true := by first | (rw [hy143]; with_reducible exact H) | (have H2_ := (Option.bind_some _ _).symm.trans H; rw [hy143]; with_reducible exact H2_) | (have H2_ := (Option.bind_some _ _).symm.trans H; with_reducible exact H2_) | with_reducible exact H | (rw [hy143]; exact H) | exact H
 have Ny143 := Aside0.mk hy143
 clear hy143
 replace H := Option.bind_eq_some_iff.mp H
 obtain ⟨⟨t146, t147⟩, A40, H⟩ := H
 replace H : ((some (([(⟨t146, t147⟩ : S25)] : List (S25)) : List (S25))).bind fun y148 => ((redpencillaw05_of.f 3 7).bind fun bt151 => ((redpencillaw05_of.f 1 2).bind fun bt153 => ((redpencillaw05_of.f 3 4).bind fun bt155 => ((redpencillaw05_made.f k (([(⟨bt151.1, bt151.2⟩ : S25), (⟨bt153.1, bt153.2⟩ : S25), (⟨bt155.1, bt155.2⟩ : S25)] : List (S25))) y138 0).bind fun t160 => (if t160 = true then ((redpencillaw05_made.f k ([] : List (S25)) ([] : List (S25)) 0).bind fun t161 => (if t161 = true then ((redpencillaw05_of.f 0 1).bind fun bt162 => ((redpencillaw05_made.f k (([(⟨bt162.1, bt162.2⟩ : S25)] : List (S25))) ([] : List (S25)) 2).bind fun t167 => (if t167 = true then ((vector_Get.f y138 3).bind fun t168 => (if t168 = 7 then ((vector_Get.f y138 2).bind fun t169 => (if t169 = 0 then ((redpencillaw05_of.f 3 7).bind fun bt170 => ((vector_Has.f y138 bt170.1 bt170.2).bind fun t172 => (if t172 = true then ((redpencillaw05_of.f 3 8).bind fun bt173 => ((vector_Has.f y138 bt173.1 bt173.2).bind fun t175 => (if t175 = true then (redpencillaw05_known.j0 k y138 y143 y148 true) else ((redpencillaw05_of.f 1 0).bind fun bt176 => ((vector_Has.f y138 bt176.1 bt176.2).bind fun t178 => (redpencillaw05_known.j0 k y138 y143 y148 t178)))))) else (redpencillaw05_known.j0 k y138 y143 y148 true)))) else (redpencillaw05_known.j0 k y138 y143 y148 true))) else (redpencillaw05_known.j0 k y138 y143 y148 true))) else (redpencillaw05_known.j0 k y138 y143 y148 true)))) else (redpencillaw05_known.j0 k y138 y143 y148 true))) else (redpencillaw05_known.j0 k y138 y143 y148 true))))))) = some true := H
 have A4 := Aside0.mk A40
 clear A40
 obtain ⟨y148, hy148⟩ : ∃ y_ : List (S25), y_ = (([(⟨t146, t147⟩ : S25)] : List (S25))) := ⟨_, rfl⟩
 replace H : ((redpencillaw05_of.f 3 7).bind fun bt151 => ((redpencillaw05_of.f 1 2).bind fun bt153 => ((redpencillaw05_of.f 3 4).bind fun bt155 => ((redpencillaw05_made.f k (([(⟨bt151.1, bt151.2⟩ : S25), (⟨bt153.1, bt153.2⟩ : S25), (⟨bt155.1, bt155.2⟩ : S25)] : List (S25))) y138 0).bind fun t160 => (if t160 = true then ((redpencillaw05_made.f k ([] : List (S25)) ([] : List (S25)) 0).bind fun t161 => (if t161 = true then ((redpencillaw05_of.f 0 1).bind fun bt162 => ((redpencillaw05_made.f k (([(⟨bt162.1, bt162.2⟩ : S25)] : List (S25))) ([] : List (S25)) 2).bind fun t167 => (if t167 = true then ((vector_Get.f y138 3).bind fun t168 => (if t168 = 7 then ((vector_Get.f y138 2).bind fun t169 => (if t169 = 0 then ((redpencillaw05_of.f 3 7).bind fun bt170 => ((vector_Has.f y138 bt170.1 bt170.2).bind fun t172 => (if t172 = true then ((redpencillaw05_of.f 3 8).bind fun bt173 => ((vector_Has.f y138 bt173.1 bt173.2).bind fun t175 => (if t175 = true then (redpencillaw05_known.j0 k y138 y143 y148 true) else ((redpencillaw05_of.f 1 0).bind fun bt176 => ((vector_Has.f y138 bt176.1 bt176.2).bind fun t178 => (redpencillaw05_known.j0 k y138 y143 y148 t178)))))) else (redpencillaw05_known.j0 k y138 y143 y148 true)))) else (redpencillaw05_known.j0 k y138 y143 y148 true))) else (redpencillaw05_known.j0 k y138 y143 y148 true))) else (redpencillaw05_known.j0 k y138 y143 y148 true)))) else (redpencillaw05_known.j0 k y138 y143 y148 true))) else (redpencillaw05_known.j0 k y138 y143 y148 true)))))) = some true := by first | (rw [hy148]; with_reducible exact H) | (have H2_ := (Option.bind_some _ _).symm.trans H; rw [hy148]; with_reducible exact H2_) | (have H2_ := (Option.bind_some _ _).symm.trans H; with_reducible exact H2_) | with_reducible exact H | (rw [hy148]; exact H) | exact H
 have Ny148 := Aside0.mk hy148
 clear hy148
 have HC5 := Aside0.mk H
 clear H
 go_enter Tryz.func8, Tryz.ntmps8
 go_upto_region 3 with (first | ((with_reducible refine gate_callee (f := 33) rfl ?_); refine goesL_ (some 4) rfl rfl Tryz.func33 (by kernel_rfl) rfl #[.int .i64 1, .int .i64 2] rfl (by (try simp only [List.map_toArray, List.map_cons, List.map_nil]); first | done | rfl | (simp only [List.length_drop, List.length_take]; rfl)) ?_; (with_reducible refine (redpencillaw05_of.calls 1 2 t134 t135 _ A1.out).mono ?_); rintro e w6 ⟨rfl, hb⟩; (try clear A1); refine ⟨_, rfl, ?_⟩; have n0_ := Aside0.mk (below_step (by repeat (first | (with_reducible first | exact HB.out | apply below_alloc | apply pw_below_drewN | apply below_drew1) | exact HB.out)) hb); clear HB; have HB := n0_; clear n0_; (try clear hb); (try clear hb2); (try clear hk); (try clear hi)) | ((with_reducible refine gate_callee (f := 33) rfl ?_); refine goesL_ (some 5) rfl rfl Tryz.func33 (by kernel_rfl) rfl #[.int .i64 3, .int .i64 7] rfl (by (try simp only [List.map_toArray, List.map_cons, List.map_nil]); first | done | rfl | (simp only [List.length_drop, List.length_take]; rfl)) ?_; (with_reducible refine (redpencillaw05_of.calls 3 7 t136 t137 _ A2.out).mono ?_); rintro e w7 ⟨rfl, hb⟩; (try clear A2); refine ⟨_, rfl, ?_⟩; have n0_ := Aside0.mk (below_step (by repeat (first | (with_reducible first | exact HB.out | apply below_alloc | apply pw_below_drewN | apply below_drew1) | exact HB.out)) hb); clear HB; have HB := n0_; clear n0_; (try clear hb); (try clear hb2); (try clear hk); (try clear hi)) | ((with_reducible refine gate_dst (N := 6) rfl ?_); (try (refine gate_guard (by rfl) ?_; dsimp only)); refine Kd.R_lit k25 _ 25 ?hg (N := 6) ?hd (xs := ([(⟨t134, t135⟩ : S25), (⟨t136, t137⟩ : S25)] : List (S25))) (inner := [.int .i64 t134, .int .i64 t135, .int .i64 t136, .int .i64 t137]) (ok := fun _ => True) (okp := fun _ => True) ?hr ?hp (fun _ hk => hk) trivial (Below.refl _ _) (Nat.le_refl _) (by simp) ?_; (case hd => rfl); (case hg => rfl); (case hr => first | (go_simp; done) | (go_simp; rfl)); (case hp => exact (Reps.c2 (show Kd.M k25 _ _ _ (⟨t134, t135⟩ : S25) [.int .i64 t134, .int .i64 t135] from (k25_mkM _ _ _ (⟨t134, t135⟩ : S25) )) (Reps.c2 (show Kd.M k25 _ _ _ (⟨t136, t137⟩ : S25) [.int .i64 t136, .int .i64 t137] from (k25_mkM _ _ _ (⟨t136, t137⟩ : S25) )) (Reps.none _ _)))); intro v139 w8 ho9 hb hg_ hnew_; clear hg_ hnew_; (first | rw [← Ny138.out] at ho9 | (simp only [Int.reduceToNat] at ho9; rw [← Ny138.out] at ho9)); have n0_ := Aside0.mk (Kd.R_lower ho9 (below_size (by repeat (first | (with_reducible first | exact HB.out | apply below_alloc | apply pw_below_drewN | apply below_drew1) | exact HB.out)))); have n1_ := Aside0.mk (below_step (by repeat (first | (with_reducible first | exact HB.out | apply below_alloc | apply pw_below_drewN | apply below_drew1) | exact HB.out)) hb); clear HB; have HO140 := n0_; have HB := n1_; clear n0_ n1_; clear hb ho9) | ((with_reducible refine gate_callee (f := 33) rfl ?_); refine goesL_ (some 7) rfl rfl Tryz.func33 (by kernel_rfl) rfl #[.int .i64 1, .int .i64 2] rfl (by (try simp only [List.map_toArray, List.map_cons, List.map_nil]); first | done | rfl | (simp only [List.length_drop, List.length_take]; rfl)) ?_; (with_reducible refine (redpencillaw05_of.calls 1 2 t141 t142 _ A3.out).mono ?_); rintro e w10 ⟨rfl, hb⟩; (try clear A3); refine ⟨_, rfl, ?_⟩; have n0_ := Aside0.mk (Kd.R_below (by (with_reducible repeat (first | apply Kd.R_alloc | apply Kd.R_drewN | apply Kd.R_drew)); exact HO140.out) hb); have n1_ := Aside0.mk (below_step (by repeat (first | (with_reducible first | exact HB.out | apply below_alloc | apply pw_below_drewN | apply below_drew1) | exact HB.out)) hb); clear HO140; clear HB; have HO140 := n0_; have HB := n1_; clear n0_ n1_; (try clear hb); (try clear hb2); (try clear hk); (try clear hi)) | ((with_reducible refine gate_dst (N := 8) rfl ?_); (try (refine gate_guard (by rfl) ?_; dsimp only)); refine Kd.R_lit k25 _ 25 ?hg (N := 8) ?hd (xs := ([(⟨t141, t142⟩ : S25)] : List (S25))) (inner := [.int .i64 t141, .int .i64 t142]) (ok := fun _ => True) (okp := fun _ => True) ?hr ?hp (fun _ hk => hk) trivial (Below.refl _ _) (Nat.le_refl _) (by simp) ?_; (case hd => rfl); (case hg => rfl); (case hr => first | (go_simp; done) | (go_simp; rfl)); (case hp => exact (Reps.c2 (show Kd.M k25 _ _ _ (⟨t141, t142⟩ : S25) [.int .i64 t141, .int .i64 t142] from (k25_mkM _ _ _ (⟨t141, t142⟩ : S25) )) (Reps.none _ _))); intro v144 w11 ho12 hb hg_ hnew_; clear hg_ hnew_; (first | rw [← Ny143.out] at ho12 | (simp only [Int.reduceToNat] at ho12; rw [← Ny143.out] at ho12)); have n0_ := Aside0.mk (Kd.R_elder' (by (with_reducible repeat (first | apply Kd.R_alloc | apply Kd.R_drewN | apply Kd.R_drew)); exact HO140.out) (Kd.R_base ho12) hb); have n1_ := Aside0.mk (Kd.R_lower (Kd.R_new' ho12 (Kd.R_lt (by (with_reducible repeat (first | apply Kd.R_alloc | apply Kd.R_drewN | apply Kd.R_drew)); exact HO140.out))) (below_size (by repeat (first | (with_reducible first | exact HB.out | apply below_alloc | apply pw_below_drewN | apply below_drew1) | exact HB.out)))); have n2_ := Aside0.mk (below_step (by repeat (first | (with_reducible first | exact HB.out | apply below_alloc | apply pw_below_drewN | apply below_drew1) | exact HB.out)) hb); clear HO140; clear HB; have HO140 := n0_; have HO145 := n1_; have HB := n2_; clear n0_ n1_ n2_; clear hb ho12) | ((with_reducible refine gate_callee (f := 33) rfl ?_); refine goesL_ (some 9) rfl rfl Tryz.func33 (by kernel_rfl) rfl #[.int .i64 3, .int .i64 7] rfl (by (try simp only [List.map_toArray, List.map_cons, List.map_nil]); first | done | rfl | (simp only [List.length_drop, List.length_take]; rfl)) ?_; (with_reducible refine (redpencillaw05_of.calls 3 7 t146 t147 _ A4.out).mono ?_); rintro e w13 ⟨rfl, hb⟩; (try clear A4); refine ⟨_, rfl, ?_⟩; have n0_ := Aside0.mk (Kd.R_below (by (with_reducible repeat (first | apply Kd.R_alloc | apply Kd.R_drewN | apply Kd.R_drew)); exact HO140.out) hb); have n1_ := Aside0.mk (Kd.R_below (by (with_reducible repeat (first | apply Kd.R_alloc | apply Kd.R_drewN | apply Kd.R_drew)); exact HO145.out) hb); have n2_ := Aside0.mk (below_step (by repeat (first | (with_reducible first | exact HB.out | apply below_alloc | apply pw_below_drewN | apply below_drew1) | exact HB.out)) hb); clear HO140; clear HO145; clear HB; have HO140 := n0_; have HO145 := n1_; have HB := n2_; clear n0_ n1_ n2_; (try clear hb); (try clear hb2); (try clear hk); (try clear hi)) | ((with_reducible refine gate_dst (N := 10) rfl ?_); (try (refine gate_guard (by rfl) ?_; dsimp only)); refine Kd.R_lit k25 _ 25 ?hg (N := 10) ?hd (xs := ([(⟨t146, t147⟩ : S25)] : List (S25))) (inner := [.int .i64 t146, .int .i64 t147]) (ok := fun _ => True) (okp := fun _ => True) ?hr ?hp (fun _ hk => hk) trivial (Below.refl _ _) (Nat.le_refl _) (by simp) ?_; (case hd => rfl); (case hg => rfl); (case hr => first | (go_simp; done) | (go_simp; rfl)); (case hp => exact (Reps.c2 (show Kd.M k25 _ _ _ (⟨t146, t147⟩ : S25) [.int .i64 t146, .int .i64 t147] from (k25_mkM _ _ _ (⟨t146, t147⟩ : S25) )) (Reps.none _ _))); intro v149 w14 ho15 hb hg_ hnew_; clear hg_ hnew_; (first | rw [← Ny148.out] at ho15 | (simp only [Int.reduceToNat] at ho15; rw [← Ny148.out] at ho15)); have n0_ := Aside0.mk (Kd.R_elder' (by (with_reducible repeat (first | apply Kd.R_alloc | apply Kd.R_drewN | apply Kd.R_drew)); exact HO140.out) (Kd.R_base ho15) hb); have n1_ := Aside0.mk (Kd.R_elder' (by (with_reducible repeat (first | apply Kd.R_alloc | apply Kd.R_drewN | apply Kd.R_drew)); exact HO145.out) (Kd.R_base ho15) hb); have n2_ := Aside0.mk (Kd.R_lower (Kd.R_new' (Kd.R_new' ho15 (Kd.R_lt (by (with_reducible repeat (first | apply Kd.R_alloc | apply Kd.R_drewN | apply Kd.R_drew)); exact HO140.out))) (Kd.R_lt (by (with_reducible repeat (first | apply Kd.R_alloc | apply Kd.R_drewN | apply Kd.R_drew)); exact HO145.out))) (below_size (by repeat (first | (with_reducible first | exact HB.out | apply below_alloc | apply pw_below_drewN | apply below_drew1) | exact HB.out)))); have n3_ := Aside0.mk (below_step (by repeat (first | (with_reducible first | exact HB.out | apply below_alloc | apply pw_below_drewN | apply below_drew1) | exact HB.out)) hb); clear HO140; clear HO145; clear HB; have HO140 := n0_; have HO145 := n1_; have HO150 := n2_; have HB := n3_; clear n0_ n1_ n2_ n3_; clear hb ho15))
 (try simp only [Act.put, List.setIfInBounds_toArray, List.set_cons_zero, List.set_cons_succ])
 go_cut [53] (fun v53 wc => ∃ (kq : Nat) (x53_4 : Bool), v53 = .bool x53_4 ∧ Aside0 (redpencillaw05_known.j0 kq y138 y143 y148 x53_4 = some true) ∧ Aside0 (kq ≤ k) ∧ Aside0 (Kd.R k25 25 wc w.heap.size (fun k_ => some k_ ≠ (v144 : Value).ownBlock ∧ some k_ ≠ (v149 : Value).ownBlock) v139 y138) ∧ Aside0 (Kd.R k25 25 wc w.heap.size (fun k_ => some k_ ≠ (v139 : Value).ownBlock ∧ some k_ ≠ (v149 : Value).ownBlock) v144 y143) ∧ Aside0 (Kd.R k25 25 wc w.heap.size (fun k_ => some k_ ≠ (v139 : Value).ownBlock ∧ some k_ ≠ (v144 : Value).ownBlock) v149 y148) ∧ Aside0 (Below w.heap.size w wc))
 case first =>
  have H := HC5.out
  clear HC5
  replace H := Option.bind_eq_some_iff.mp H
  obtain ⟨⟨t151, t152⟩, A160, H⟩ := H
  replace H : ((redpencillaw05_of.f 1 2).bind fun bt153 => ((redpencillaw05_of.f 3 4).bind fun bt155 => ((redpencillaw05_made.f k (([(⟨t151, t152⟩ : S25), (⟨bt153.1, bt153.2⟩ : S25), (⟨bt155.1, bt155.2⟩ : S25)] : List (S25))) y138 0).bind fun t160 => (if t160 = true then ((redpencillaw05_made.f k ([] : List (S25)) ([] : List (S25)) 0).bind fun t161 => (if t161 = true then ((redpencillaw05_of.f 0 1).bind fun bt162 => ((redpencillaw05_made.f k (([(⟨bt162.1, bt162.2⟩ : S25)] : List (S25))) ([] : List (S25)) 2).bind fun t167 => (if t167 = true then ((vector_Get.f y138 3).bind fun t168 => (if t168 = 7 then ((vector_Get.f y138 2).bind fun t169 => (if t169 = 0 then ((redpencillaw05_of.f 3 7).bind fun bt170 => ((vector_Has.f y138 bt170.1 bt170.2).bind fun t172 => (if t172 = true then ((redpencillaw05_of.f 3 8).bind fun bt173 => ((vector_Has.f y138 bt173.1 bt173.2).bind fun t175 => (if t175 = true then (redpencillaw05_known.j0 k y138 y143 y148 true) else ((redpencillaw05_of.f 1 0).bind fun bt176 => ((vector_Has.f y138 bt176.1 bt176.2).bind fun t178 => (redpencillaw05_known.j0 k y138 y143 y148 t178)))))) else (redpencillaw05_known.j0 k y138 y143 y148 true)))) else (redpencillaw05_known.j0 k y138 y143 y148 true))) else (redpencillaw05_known.j0 k y138 y143 y148 true))) else (redpencillaw05_known.j0 k y138 y143 y148 true)))) else (redpencillaw05_known.j0 k y138 y143 y148 true))) else (redpencillaw05_known.j0 k y138 y143 y148 true))))) = some true := H
  have A16 := Aside0.mk A160
  clear A160
  replace H := Option.bind_eq_some_iff.mp H
  obtain ⟨⟨t153, t154⟩, A170, H⟩ := H
  replace H : ((redpencillaw05_of.f 3 4).bind fun bt155 => ((redpencillaw05_made.f k (([(⟨t151, t152⟩ : S25), (⟨t153, t154⟩ : S25), (⟨bt155.1, bt155.2⟩ : S25)] : List (S25))) y138 0).bind fun t160 => (if t160 = true then ((redpencillaw05_made.f k ([] : List (S25)) ([] : List (S25)) 0).bind fun t161 => (if t161 = true then ((redpencillaw05_of.f 0 1).bind fun bt162 => ((redpencillaw05_made.f k (([(⟨bt162.1, bt162.2⟩ : S25)] : List (S25))) ([] : List (S25)) 2).bind fun t167 => (if t167 = true then ((vector_Get.f y138 3).bind fun t168 => (if t168 = 7 then ((vector_Get.f y138 2).bind fun t169 => (if t169 = 0 then ((redpencillaw05_of.f 3 7).bind fun bt170 => ((vector_Has.f y138 bt170.1 bt170.2).bind fun t172 => (if t172 = true then ((redpencillaw05_of.f 3 8).bind fun bt173 => ((vector_Has.f y138 bt173.1 bt173.2).bind fun t175 => (if t175 = true then (redpencillaw05_known.j0 k y138 y143 y148 true) else ((redpencillaw05_of.f 1 0).bind fun bt176 => ((vector_Has.f y138 bt176.1 bt176.2).bind fun t178 => (redpencillaw05_known.j0 k y138 y143 y148 t178)))))) else (redpencillaw05_known.j0 k y138 y143 y148 true)))) else (redpencillaw05_known.j0 k y138 y143 y148 true))) else (redpencillaw05_known.j0 k y138 y143 y148 true))) else (redpencillaw05_known.j0 k y138 y143 y148 true)))) else (redpencillaw05_known.j0 k y138 y143 y148 true))) else (redpencillaw05_known.j0 k y138 y143 y148 true)))) = some true := H
  have A17 := Aside0.mk A170
  clear A170
  replace H := Option.bind_eq_some_iff.mp H
  obtain ⟨⟨t155, t156⟩, A180, H⟩ := H
  replace H : ((redpencillaw05_made.f k (([(⟨t151, t152⟩ : S25), (⟨t153, t154⟩ : S25), (⟨t155, t156⟩ : S25)] : List (S25))) y138 0).bind fun t160 => (if t160 = true then ((redpencillaw05_made.f k ([] : List (S25)) ([] : List (S25)) 0).bind fun t161 => (if t161 = true then ((redpencillaw05_of.f 0 1).bind fun bt162 => ((redpencillaw05_made.f k (([(⟨bt162.1, bt162.2⟩ : S25)] : List (S25))) ([] : List (S25)) 2).bind fun t167 => (if t167 = true then ((vector_Get.f y138 3).bind fun t168 => (if t168 = 7 then ((vector_Get.f y138 2).bind fun t169 => (if t169 = 0 then ((redpencillaw05_of.f 3 7).bind fun bt170 => ((vector_Has.f y138 bt170.1 bt170.2).bind fun t172 => (if t172 = true then ((redpencillaw05_of.f 3 8).bind fun bt173 => ((vector_Has.f y138 bt173.1 bt173.2).bind fun t175 => (if t175 = true then (redpencillaw05_known.j0 k y138 y143 y148 true) else ((redpencillaw05_of.f 1 0).bind fun bt176 => ((vector_Has.f y138 bt176.1 bt176.2).bind fun t178 => (redpencillaw05_known.j0 k y138 y143 y148 t178)))))) else (redpencillaw05_known.j0 k y138 y143 y148 true)))) else (redpencillaw05_known.j0 k y138 y143 y148 true))) else (redpencillaw05_known.j0 k y138 y143 y148 true))) else (redpencillaw05_known.j0 k y138 y143 y148 true)))) else (redpencillaw05_known.j0 k y138 y143 y148 true))) else (redpencillaw05_known.j0 k y138 y143 y148 true))) = some true := H
  have A18 := Aside0.mk A180
  clear A180
  obtain ⟨y157, hy157⟩ : ∃ y_ : List (S25), y_ = (([(⟨t151, t152⟩ : S25), (⟨t153, t154⟩ : S25), (⟨t155, t156⟩ : S25)] : List (S25))) := ⟨_, rfl⟩
  replace H : ((redpencillaw05_made.f k y157 y138 0).bind fun t160 => (if t160 = true then ((redpencillaw05_made.f k ([] : List (S25)) ([] : List (S25)) 0).bind fun t161 => (if t161 = true then ((redpencillaw05_of.f 0 1).bind fun bt162 => ((redpencillaw05_made.f k (([(⟨bt162.1, bt162.2⟩ : S25)] : List (S25))) ([] : List (S25)) 2).bind fun t167 => (if t167 = true then ((vector_Get.f y138 3).bind fun t168 => (if t168 = 7 then ((vector_Get.f y138 2).bind fun t169 => (if t169 = 0 then ((redpencillaw05_of.f 3 7).bind fun bt170 => ((vector_Has.f y138 bt170.1 bt170.2).bind fun t172 => (if t172 = true then ((redpencillaw05_of.f 3 8).bind fun bt173 => ((vector_Has.f y138 bt173.1 bt173.2).bind fun t175 => (if t175 = true then (redpencillaw05_known.j0 k y138 y143 y148 true) else ((redpencillaw05_of.f 1 0).bind fun bt176 => ((vector_Has.f y138 bt176.1 bt176.2).bind fun t178 => (redpencillaw05_known.j0 k y138 y143 y148 t178)))))) else (redpencillaw05_known.j0 k y138 y143 y148 true)))) else (redpencillaw05_known.j0 k y138 y143 y148 true))) else (redpencillaw05_known.j0 k y138 y143 y148 true))) else (redpencillaw05_known.j0 k y138 y143 y148 true)))) else (redpencillaw05_known.j0 k y138 y143 y148 true))) else (redpencillaw05_known.j0 k y138 y143 y148 true))) = some true := by first | (rw [hy157]; with_reducible exact H) | (have H2_ := (Option.bind_some _ _).symm.trans H; rw [hy157]; with_reducible exact H2_) | (have H2_ := (Option.bind_some _ _).symm.trans H; with_reducible exact H2_) | with_reducible exact H | (rw [hy157]; exact H) | exact H
  have Ny157 := Aside0.mk hy157
  clear hy157
  replace H := Option.bind_eq_some_iff.mp H
  obtain ⟨t160, A190, H⟩ := H
  replace H : (if t160 = true then ((redpencillaw05_made.f k ([] : List (S25)) ([] : List (S25)) 0).bind fun t161 => (if t161 = true then ((redpencillaw05_of.f 0 1).bind fun bt162 => ((redpencillaw05_made.f k (([(⟨bt162.1, bt162.2⟩ : S25)] : List (S25))) ([] : List (S25)) 2).bind fun t167 => (if t167 = true then ((vector_Get.f y138 3).bind fun t168 => (if t168 = 7 then ((vector_Get.f y138 2).bind fun t169 => (if t169 = 0 then ((redpencillaw05_of.f 3 7).bind fun bt170 => ((vector_Has.f y138 bt170.1 bt170.2).bind fun t172 => (if t172 = true then ((redpencillaw05_of.f 3 8).bind fun bt173 => ((vector_Has.f y138 bt173.1 bt173.2).bind fun t175 => (if t175 = true then (redpencillaw05_known.j0 k y138 y143 y148 true) else ((redpencillaw05_of.f 1 0).bind fun bt176 => ((vector_Has.f y138 bt176.1 bt176.2).bind fun t178 => (redpencillaw05_known.j0 k y138 y143 y148 t178)))))) else (redpencillaw05_known.j0 k y138 y143 y148 true)))) else (redpencillaw05_known.j0 k y138 y143 y148 true))) else (redpencillaw05_known.j0 k y138 y143 y148 true))) else (redpencillaw05_known.j0 k y138 y143 y148 true)))) else (redpencillaw05_known.j0 k y138 y143 y148 true))) else (redpencillaw05_known.j0 k y138 y143 y148 true)) = some true := H
  have A19 := Aside0.mk A190
  clear A190
  by_cases c20 : t160 = true
  ·
   subst c20
   have H1 : ((redpencillaw05_made.f k ([] : List (S25)) ([] : List (S25)) 0).bind fun t161 => (if t161 = true then ((redpencillaw05_of.f 0 1).bind fun bt162 => ((redpencillaw05_made.f k (([(⟨bt162.1, bt162.2⟩ : S25)] : List (S25))) ([] : List (S25)) 2).bind fun t167 => (if t167 = true then ((vector_Get.f y138 3).bind fun t168 => (if t168 = 7 then ((vector_Get.f y138 2).bind fun t169 => (if t169 = 0 then ((redpencillaw05_of.f 3 7).bind fun bt170 => ((vector_Has.f y138 bt170.1 bt170.2).bind fun t172 => (if t172 = true then ((redpencillaw05_of.f 3 8).bind fun bt173 => ((vector_Has.f y138 bt173.1 bt173.2).bind fun t175 => (if t175 = true then (redpencillaw05_known.j0 k y138 y143 y148 true) else ((redpencillaw05_of.f 1 0).bind fun bt176 => ((vector_Has.f y138 bt176.1 bt176.2).bind fun t178 => (redpencillaw05_known.j0 k y138 y143 y148 t178)))))) else (redpencillaw05_known.j0 k y138 y143 y148 true)))) else (redpencillaw05_known.j0 k y138 y143 y148 true))) else (redpencillaw05_known.j0 k y138 y143 y148 true))) else (redpencillaw05_known.j0 k y138 y143 y148 true)))) else (redpencillaw05_known.j0 k y138 y143 y148 true))) = some true := by rw [if_pos rfl] at H; exact H
   clear H
   have H := H1
   clear H1
   replace H := Option.bind_eq_some_iff.mp H
   obtain ⟨t161, A210, H⟩ := H
   replace H : (if t161 = true then ((redpencillaw05_of.f 0 1).bind fun bt162 => ((redpencillaw05_made.f k (([(⟨bt162.1, bt162.2⟩ : S25)] : List (S25))) ([] : List (S25)) 2).bind fun t167 => (if t167 = true then ((vector_Get.f y138 3).bind fun t168 => (if t168 = 7 then ((vector_Get.f y138 2).bind fun t169 => (if t169 = 0 then ((redpencillaw05_of.f 3 7).bind fun bt170 => ((vector_Has.f y138 bt170.1 bt170.2).bind fun t172 => (if t172 = true then ((redpencillaw05_of.f 3 8).bind fun bt173 => ((vector_Has.f y138 bt173.1 bt173.2).bind fun t175 => (if t175 = true then (redpencillaw05_known.j0 k y138 y143 y148 true) else ((redpencillaw05_of.f 1 0).bind fun bt176 => ((vector_Has.f y138 bt176.1 bt176.2).bind fun t178 => (redpencillaw05_known.j0 k y138 y143 y148 t178)))))) else (redpencillaw05_known.j0 k y138 y143 y148 true)))) else (redpencillaw05_known.j0 k y138 y143 y148 true))) else (redpencillaw05_known.j0 k y138 y143 y148 true))) else (redpencillaw05_known.j0 k y138 y143 y148 true)))) else (redpencillaw05_known.j0 k y138 y143 y148 true)) = some true := H
   have A21 := Aside0.mk A210
   clear A210
   by_cases c22 : t161 = true
   ·
    subst c22
    have H1 : ((redpencillaw05_of.f 0 1).bind fun bt162 => ((redpencillaw05_made.f k (([(⟨bt162.1, bt162.2⟩ : S25)] : List (S25))) ([] : List (S25)) 2).bind fun t167 => (if t167 = true then ((vector_Get.f y138 3).bind fun t168 => (if t168 = 7 then ((vector_Get.f y138 2).bind fun t169 => (if t169 = 0 then ((redpencillaw05_of.f 3 7).bind fun bt170 => ((vector_Has.f y138 bt170.1 bt170.2).bind fun t172 => (if t172 = true then ((redpencillaw05_of.f 3 8).bind fun bt173 => ((vector_Has.f y138 bt173.1 bt173.2).bind fun t175 => (if t175 = true then (redpencillaw05_known.j0 k y138 y143 y148 true) else ((redpencillaw05_of.f 1 0).bind fun bt176 => ((vector_Has.f y138 bt176.1 bt176.2).bind fun t178 => (redpencillaw05_known.j0 k y138 y143 y148 t178)))))) else (redpencillaw05_known.j0 k y138 y143 y148 true)))) else (redpencillaw05_known.j0 k y138 y143 y148 true))) else (redpencillaw05_known.j0 k y138 y143 y148 true))) else (redpencillaw05_known.j0 k y138 y143 y148 true)))) = some true := by rw [if_pos rfl] at H; exact H
    clear H
    have H := H1
    clear H1
    replace H := Option.bind_eq_some_iff.mp H
    obtain ⟨⟨t162, t163⟩, A230, H⟩ := H
    replace H : ((redpencillaw05_made.f k (([(⟨t162, t163⟩ : S25)] : List (S25))) ([] : List (S25)) 2).bind fun t167 => (if t167 = true then ((vector_Get.f y138 3).bind fun t168 => (if t168 = 7 then ((vector_Get.f y138 2).bind fun t169 => (if t169 = 0 then ((redpencillaw05_of.f 3 7).bind fun bt170 => ((vector_Has.f y138 bt170.1 bt170.2).bind fun t172 => (if t172 = true then ((redpencillaw05_of.f 3 8).bind fun bt173 => ((vector_Has.f y138 bt173.1 bt173.2).bind fun t175 => (if t175 = true then (redpencillaw05_known.j0 k y138 y143 y148 true) else ((redpencillaw05_of.f 1 0).bind fun bt176 => ((vector_Has.f y138 bt176.1 bt176.2).bind fun t178 => (redpencillaw05_known.j0 k y138 y143 y148 t178)))))) else (redpencillaw05_known.j0 k y138 y143 y148 true)))) else (redpencillaw05_known.j0 k y138 y143 y148 true))) else (redpencillaw05_known.j0 k y138 y143 y148 true))) else (redpencillaw05_known.j0 k y138 y143 y148 true))) = some true := H
    have A23 := Aside0.mk A230
    clear A230
    obtain ⟨y164, hy164⟩ : ∃ y_ : List (S25), y_ = (([(⟨t162, t163⟩ : S25)] : List (S25))) := ⟨_, rfl⟩
    replace H : ((redpencillaw05_made.f k y164 ([] : List (S25)) 2).bind fun t167 => (if t167 = true then ((vector_Get.f y138 3).bind fun t168 => (if t168 = 7 then ((vector_Get.f y138 2).bind fun t169 => (if t169 = 0 then ((redpencillaw05_of.f 3 7).bind fun bt170 => ((vector_Has.f y138 bt170.1 bt170.2).bind fun t172 => (if t172 = true then ((redpencillaw05_of.f 3 8).bind fun bt173 => ((vector_Has.f y138 bt173.1 bt173.2).bind fun t175 => (if t175 = true then (redpencillaw05_known.j0 k y138 y143 y148 true) else ((redpencillaw05_of.f 1 0).bind fun bt176 => ((vector_Has.f y138 bt176.1 bt176.2).bind fun t178 => (redpencillaw05_known.j0 k y138 y143 y148 t178)))))) else (redpencillaw05_known.j0 k y138 y143 y148 true)))) else (redpencillaw05_known.j0 k y138 y143 y148 true))) else (redpencillaw05_known.j0 k y138 y143 y148 true))) else (redpencillaw05_known.j0 k y138 y143 y148 true))) = some true := by first | (rw [hy164]; with_reducible exact H) | (have H2_ := (Option.bind_some _ _).symm.trans H; rw [hy164]; with_reducible exact H2_) | (have H2_ := (Option.bind_some _ _).symm.trans H; with_reducible exact H2_) | with_reducible exact H | (rw [hy164]; exact H) | exact H
    have Ny164 := Aside0.mk hy164
    clear hy164
    replace H := Option.bind_eq_some_iff.mp H
    obtain ⟨t167, A240, H⟩ := H
    replace H : (if t167 = true then ((vector_Get.f y138 3).bind fun t168 => (if t168 = 7 then ((vector_Get.f y138 2).bind fun t169 => (if t169 = 0 then ((redpencillaw05_of.f 3 7).bind fun bt170 => ((vector_Has.f y138 bt170.1 bt170.2).bind fun t172 => (if t172 = true then ((redpencillaw05_of.f 3 8).bind fun bt173 => ((vector_Has.f y138 bt173.1 bt173.2).bind fun t175 => (if t175 = true then (redpencillaw05_known.j0 k y138 y143 y148 true) else ((redpencillaw05_of.f 1 0).bind fun bt176 => ((vector_Has.f y138 bt176.1 bt176.2).bind fun t178 => (redpencillaw05_known.j0 k y138 y143 y148 t178)))))) else (redpencillaw05_known.j0 k y138 y143 y148 true)))) else (redpencillaw05_known.j0 k y138 y143 y148 true))) else (redpencillaw05_known.j0 k y138 y143 y148 true))) else (redpencillaw05_known.j0 k y138 y143 y148 true)) = some true := H
    have A24 := Aside0.mk A240
    clear A240
    by_cases c25 : t167 = true
    ·
     subst c25
     have H1 : ((vector_Get.f y138 3).bind fun t168 => (if t168 = 7 then ((vector_Get.f y138 2).bind fun t169 => (if t169 = 0 then ((redpencillaw05_of.f 3 7).bind fun bt170 => ((vector_Has.f y138 bt170.1 bt170.2).bind fun t172 => (if t172 = true then ((redpencillaw05_of.f 3 8).bind fun bt173 => ((vector_Has.f y138 bt173.1 bt173.2).bind fun t175 => (if t175 = true then (redpencillaw05_known.j0 k y138 y143 y148 true) else ((redpencillaw05_of.f 1 0).bind fun bt176 => ((vector_Has.f y138 bt176.1 bt176.2).bind fun t178 => (redpencillaw05_known.j0 k y138 y143 y148 t178)))))) else (redpencillaw05_known.j0 k y138 y143 y148 true)))) else (redpencillaw05_known.j0 k y138 y143 y148 true))) else (redpencillaw05_known.j0 k y138 y143 y148 true))) = some true := by rw [if_pos rfl] at H; exact H
     clear H
     have H := H1
     clear H1
     replace H := Option.bind_eq_some_iff.mp H
     obtain ⟨t168, A260, H⟩ := H
     replace H : (if t168 = 7 then ((vector_Get.f y138 2).bind fun t169 => (if t169 = 0 then ((redpencillaw05_of.f 3 7).bind fun bt170 => ((vector_Has.f y138 bt170.1 bt170.2).bind fun t172 => (if t172 = true then ((redpencillaw05_of.f 3 8).bind fun bt173 => ((vector_Has.f y138 bt173.1 bt173.2).bind fun t175 => (if t175 = true then (redpencillaw05_known.j0 k y138 y143 y148 true) else ((redpencillaw05_of.f 1 0).bind fun bt176 => ((vector_Has.f y138 bt176.1 bt176.2).bind fun t178 => (redpencillaw05_known.j0 k y138 y143 y148 t178)))))) else (redpencillaw05_known.j0 k y138 y143 y148 true)))) else (redpencillaw05_known.j0 k y138 y143 y148 true))) else (redpencillaw05_known.j0 k y138 y143 y148 true)) = some true := H
     have A26 := Aside0.mk A260
     clear A260
     by_cases c27 : t168 = 7
     ·
      rw [if_pos c27] at H
      have c27b0 : (t168 == 7) = true := beq_iff_eq.mpr c27
      have c27b1 : (t168 != 7) = false := bne_eq_false_iff_eq.mpr c27
      clear c27
      (first | rw [c27b0] | (simp only [i64_w, i32_w]; rw [c27b0]) | skip)
      replace H := Option.bind_eq_some_iff.mp H
      obtain ⟨t169, A280, H⟩ := H
      replace H : (if t169 = 0 then ((redpencillaw05_of.f 3 7).bind fun bt170 => ((vector_Has.f y138 bt170.1 bt170.2).bind fun t172 => (if t172 = true then ((redpencillaw05_of.f 3 8).bind fun bt173 => ((vector_Has.f y138 bt173.1 bt173.2).bind fun t175 => (if t175 = true then (redpencillaw05_known.j0 k y138 y143 y148 true) else ((redpencillaw05_of.f 1 0).bind fun bt176 => ((vector_Has.f y138 bt176.1 bt176.2).bind fun t178 => (redpencillaw05_known.j0 k y138 y143 y148 t178)))))) else (redpencillaw05_known.j0 k y138 y143 y148 true)))) else (redpencillaw05_known.j0 k y138 y143 y148 true)) = some true := H
      have A28 := Aside0.mk A280
      clear A280
      by_cases c29 : t169 = 0
      ·
       rw [if_pos c29] at H
       have c29b0 : (t169 == 0) = true := beq_iff_eq.mpr c29
       have c29b1 : (t169 != 0) = false := bne_eq_false_iff_eq.mpr c29
       clear c29
       replace H := Option.bind_eq_some_iff.mp H
       obtain ⟨⟨t170, t171⟩, A300, H⟩ := H
       replace H : ((vector_Has.f y138 t170 t171).bind fun t172 => (if t172 = true then ((redpencillaw05_of.f 3 8).bind fun bt173 => ((vector_Has.f y138 bt173.1 bt173.2).bind fun t175 => (if t175 = true then (redpencillaw05_known.j0 k y138 y143 y148 true) else ((redpencillaw05_of.f 1 0).bind fun bt176 => ((vector_Has.f y138 bt176.1 bt176.2).bind fun t178 => (redpencillaw05_known.j0 k y138 y143 y148 t178)))))) else (redpencillaw05_known.j0 k y138 y143 y148 true))) = some true := H
       have A30 := Aside0.mk A300
       clear A300
       replace H := Option.bind_eq_some_iff.mp H
       obtain ⟨t172, A310, H⟩ := H
       replace H : (if t172 = true then ((redpencillaw05_of.f 3 8).bind fun bt173 => ((vector_Has.f y138 bt173.1 bt173.2).bind fun t175 => (if t175 = true then (redpencillaw05_known.j0 k y138 y143 y148 true) else ((redpencillaw05_of.f 1 0).bind fun bt176 => ((vector_Has.f y138 bt176.1 bt176.2).bind fun t178 => (redpencillaw05_known.j0 k y138 y143 y148 t178)))))) else (redpencillaw05_known.j0 k y138 y143 y148 true)) = some true := H
       have A31 := Aside0.mk A310
       clear A310
       by_cases c32 : t172 = true
       ·
        subst c32
        have H1 : ((redpencillaw05_of.f 3 8).bind fun bt173 => ((vector_Has.f y138 bt173.1 bt173.2).bind fun t175 => (if t175 = true then (redpencillaw05_known.j0 k y138 y143 y148 true) else ((redpencillaw05_of.f 1 0).bind fun bt176 => ((vector_Has.f y138 bt176.1 bt176.2).bind fun t178 => (redpencillaw05_known.j0 k y138 y143 y148 t178)))))) = some true := by rw [if_pos rfl] at H; exact H
        clear H
        have H := H1
        clear H1
        replace H := Option.bind_eq_some_iff.mp H
        obtain ⟨⟨t173, t174⟩, A330, H⟩ := H
        replace H : ((vector_Has.f y138 t173 t174).bind fun t175 => (if t175 = true then (redpencillaw05_known.j0 k y138 y143 y148 true) else ((redpencillaw05_of.f 1 0).bind fun bt176 => ((vector_Has.f y138 bt176.1 bt176.2).bind fun t178 => (redpencillaw05_known.j0 k y138 y143 y148 t178))))) = some true := H
        have A33 := Aside0.mk A330
        clear A330
        replace H := Option.bind_eq_some_iff.mp H
        obtain ⟨t175, A340, H⟩ := H
        replace H : (if t175 = true then (redpencillaw05_known.j0 k y138 y143 y148 true) else ((redpencillaw05_of.f 1 0).bind fun bt176 => ((vector_Has.f y138 bt176.1 bt176.2).bind fun t178 => (redpencillaw05_known.j0 k y138 y143 y148 t178)))) = some true := H
        have A34 := Aside0.mk A340
        clear A340
        by_cases c35 : t175 = true
        ·
         subst c35
         have H1 : (redpencillaw05_known.j0 k y138 y143 y148 true) = some true := by rw [if_pos rfl] at H; exact H
         exact absurd H1 (redpencillaw05_known.j0_no _ _ _ _)
        ·
         replace c35 := Bool.eq_false_iff.mpr c35
         subst c35
         have H1 : ((redpencillaw05_of.f 1 0).bind fun bt176 => ((vector_Has.f y138 bt176.1 bt176.2).bind fun t178 => (redpencillaw05_known.j0 k y138 y143 y148 t178))) = some true := by rw [if_neg (show ¬ (false = true) by decide)] at H; exact H
         clear H
         have H := H1
         clear H1
         replace H := Option.bind_eq_some_iff.mp H
         obtain ⟨⟨t176, t177⟩, A560, H⟩ := H
         replace H : ((vector_Has.f y138 t176 t177).bind fun t178 => (redpencillaw05_known.j0 k y138 y143 y148 t178)) = some true := H
         have A56 := Aside0.mk A560
         clear A560
         replace H := Option.bind_eq_some_iff.mp H
         obtain ⟨t178, A570, H⟩ := H
         replace H : (redpencillaw05_known.j0 k y138 y143 y148 t178) = some true := H
         have A57 := Aside0.mk A570
         clear A570
         have H' := Aside0.mk H
         clear H
         go_wp2_with (first | ((with_reducible refine gate_callee (f := 33) rfl ?_); refine goesL_ (some 11) rfl rfl Tryz.func33 (by kernel_rfl) rfl #[.int .i64 3, .int .i64 7] rfl (by (try simp only [List.map_toArray, List.map_cons, List.map_nil]); first | done | rfl | (simp only [List.length_drop, List.length_take]; rfl)) ?_; (with_reducible refine (redpencillaw05_of.calls 3 7 t151 t152 _ A16.out).mono ?_); rintro e w58 ⟨rfl, hb⟩; (try clear A16); refine ⟨_, rfl, ?_⟩; have n0_ := Aside0.mk (Kd.R_below (by (with_reducible repeat (first | apply Kd.R_alloc | apply Kd.R_drewN | apply Kd.R_drew)); exact HO140.out) hb); have n1_ := Aside0.mk (Kd.R_below (by (with_reducible repeat (first | apply Kd.R_alloc | apply Kd.R_drewN | apply Kd.R_drew)); exact HO145.out) hb); have n2_ := Aside0.mk (Kd.R_below (by (with_reducible repeat (first | apply Kd.R_alloc | apply Kd.R_drewN | apply Kd.R_drew)); exact HO150.out) hb); have n3_ := Aside0.mk (below_step (by repeat (first | (with_reducible first | exact HB.out | apply below_alloc | apply pw_below_drewN | apply below_drew1) | exact HB.out)) hb); clear HO140; clear HO145; clear HO150; clear HB; have HO140 := n0_; have HO145 := n1_; have HO150 := n2_; have HB := n3_; clear n0_ n1_ n2_ n3_; (try clear hb); (try clear hb2); (try clear hk); (try clear hi)) | ((with_reducible refine gate_callee (f := 33) rfl ?_); refine goesL_ (some 12) rfl rfl Tryz.func33 (by kernel_rfl) rfl #[.int .i64 1, .int .i64 2] rfl (by (try simp only [List.map_toArray, List.map_cons, List.map_nil]); first | done | rfl | (simp only [List.length_drop, List.length_take]; rfl)) ?_; (with_reducible refine (redpencillaw05_of.calls 1 2 t153 t154 _ A17.out).mono ?_); rintro e w59 ⟨rfl, hb⟩; (try clear A17); refine ⟨_, rfl, ?_⟩; have n0_ := Aside0.mk (Kd.R_below (by (with_reducible repeat (first | apply Kd.R_alloc | apply Kd.R_drewN | apply Kd.R_drew)); exact HO140.out) hb); have n1_ := Aside0.mk (Kd.R_below (by (with_reducible repeat (first | apply Kd.R_alloc | apply Kd.R_drewN | apply Kd.R_drew)); exact HO145.out) hb); have n2_ := Aside0.mk (Kd.R_below (by (with_reducible repeat (first | apply Kd.R_alloc | apply Kd.R_drewN | apply Kd.R_drew)); exact HO150.out) hb); have n3_ := Aside0.mk (below_step (by repeat (first | (with_reducible first | exact HB.out | apply below_alloc | apply pw_below_drewN | apply below_drew1) | exact HB.out)) hb); clear HO140; clear HO145; clear HO150; clear HB; have HO140 := n0_; have HO145 := n1_; have HO150 := n2_; have HB := n3_; clear n0_ n1_ n2_ n3_; (try clear hb); (try clear hb2); (try clear hk); (try clear hi)) | ((with_reducible refine gate_callee (f := 33) rfl ?_); refine goesL_ (some 13) rfl rfl Tryz.func33 (by kernel_rfl) rfl #[.int .i64 3, .int .i64 4] rfl (by (try simp only [List.map_toArray, List.map_cons, List.map_nil]); first | done | rfl | (simp only [List.length_drop, List.length_take]; rfl)) ?_; (with_reducible refine (redpencillaw05_of.calls 3 4 t155 t156 _ A18.out).mono ?_); rintro e w60 ⟨rfl, hb⟩; (try clear A18); refine ⟨_, rfl, ?_⟩; have n0_ := Aside0.mk (Kd.R_below (by (with_reducible repeat (first | apply Kd.R_alloc | apply Kd.R_drewN | apply Kd.R_drew)); exact HO140.out) hb); have n1_ := Aside0.mk (Kd.R_below (by (with_reducible repeat (first | apply Kd.R_alloc | apply Kd.R_drewN | apply Kd.R_drew)); exact HO145.out) hb); have n2_ := Aside0.mk (Kd.R_below (by (with_reducible repeat (first | apply Kd.R_alloc | apply Kd.R_drewN | apply Kd.R_drew)); exact HO150.out) hb); have n3_ := Aside0.mk (below_step (by repeat (first | (with_reducible first | exact HB.out | apply below_alloc | apply pw_below_drewN | apply below_drew1) | exact HB.out)) hb); clear HO140; clear HO145; clear HO150; clear HB; have HO140 := n0_; have HO145 := n1_; have HO150 := n2_; have HB := n3_; clear n0_ n1_ n2_ n3_; (try clear hb); (try clear hb2); (try clear hk); (try clear hi)) | ((with_reducible refine gate_dst (N := 14) rfl ?_); (try (refine gate_guard (by rfl) ?_; dsimp only)); refine Kd.R_lit k25 _ 25 ?hg (N := 14) ?hd (xs := ([(⟨t151, t152⟩ : S25), (⟨t153, t154⟩ : S25), (⟨t155, t156⟩ : S25)] : List (S25))) (inner := [.int .i64 t151, .int .i64 t152, .int .i64 t153, .int .i64 t154, .int .i64 t155, .int .i64 t156]) (ok := fun _ => True) (okp := fun _ => True) ?hr ?hp (fun _ hk => hk) trivial (Below.refl _ _) (Nat.le_refl _) (by simp) ?_; (case hd => rfl); (case hg => rfl); (case hr => first | (go_simp; done) | (go_simp; rfl)); (case hp => exact (Reps.c2 (show Kd.M k25 _ _ _ (⟨t151, t152⟩ : S25) [.int .i64 t151, .int .i64 t152] from (k25_mkM _ _ _ (⟨t151, t152⟩ : S25) )) (Reps.c2 (show Kd.M k25 _ _ _ (⟨t153, t154⟩ : S25) [.int .i64 t153, .int .i64 t154] from (k25_mkM _ _ _ (⟨t153, t154⟩ : S25) )) (Reps.c2 (show Kd.M k25 _ _ _ (⟨t155, t156⟩ : S25) [.int .i64 t155, .int .i64 t156] from (k25_mkM _ _ _ (⟨t155, t156⟩ : S25) )) (Reps.none _ _))))); intro v158 w61 ho62 hb hg_ hnew_; clear hg_ hnew_; (first | rw [← Ny157.out] at ho62 | (simp only [Int.reduceToNat] at ho62; rw [← Ny157.out] at ho62)); have n0_ := Aside0.mk (Kd.R_elder' (by (with_reducible repeat (first | apply Kd.R_alloc | apply Kd.R_drewN | apply Kd.R_drew)); exact HO140.out) (Kd.R_base ho62) hb); have n1_ := Aside0.mk (Kd.R_elder' (by (with_reducible repeat (first | apply Kd.R_alloc | apply Kd.R_drewN | apply Kd.R_drew)); exact HO145.out) (Kd.R_base ho62) hb); have n2_ := Aside0.mk (Kd.R_elder' (by (with_reducible repeat (first | apply Kd.R_alloc | apply Kd.R_drewN | apply Kd.R_drew)); exact HO150.out) (Kd.R_base ho62) hb); have n3_ := Aside0.mk (Kd.R_lower (Kd.R_new' (Kd.R_new' (Kd.R_new' ho62 (Kd.R_lt (by (with_reducible repeat (first | apply Kd.R_alloc | apply Kd.R_drewN | apply Kd.R_drew)); exact HO140.out))) (Kd.R_lt (by (with_reducible repeat (first | apply Kd.R_alloc | apply Kd.R_drewN | apply Kd.R_drew)); exact HO145.out))) (Kd.R_lt (by (with_reducible repeat (first | apply Kd.R_alloc | apply Kd.R_drewN | apply Kd.R_drew)); exact HO150.out))) (below_size (by repeat (first | (with_reducible first | exact HB.out | apply below_alloc | apply pw_below_drewN | apply below_drew1) | exact HB.out)))); have n4_ := Aside0.mk (below_step (by repeat (first | (with_reducible first | exact HB.out | apply below_alloc | apply pw_below_drewN | apply below_drew1) | exact HB.out)) hb); clear HO140; clear HO145; clear HO150; clear HB; have HO140 := n0_; have HO145 := n1_; have HO150 := n2_; have HO159 := n3_; have HB := n4_; clear n0_ n1_ n2_ n3_ n4_; clear hb ho62; obtain ⟨Ao63, co63, eo63⟩ := Kd.R_slice HO159.out; subst eo63; obtain ⟨Ao64, co64, eo64⟩ := Kd.R_slice HO140.out; subst eo64) | ((with_reducible refine gate_callee (f := 16) rfl ?_); refine goesL_ (some 16) rfl rfl Tryz.func16 (by kernel_rfl) rfl #[.slice Ao63 y157.length co63, .slice Ao64 y138.length co64, .int .i64 0] rfl (by (try simp only [List.map_toArray, List.map_cons, List.map_nil]); first | done | rfl | (simp only [List.length_drop, List.length_take]; rfl)) ?_; (with_reducible refine (redpencillaw05_made.calls k _ _ y157 _ _ y138 0 true _ ?side1 ?side2 ?side3 ?side4 A19.out).mono ?_); (case side1 => repeat (first | exact (Kd.R_reads' HO159.out).2.2 | (with_reducible refine Kd.C_alloc ?_ _) | (with_reducible refine Kd.C_drewN ?_ _) | (with_reducible refine Kd.C_drew ?_))); (case side2 => exact (Kd.R_reads' HO159.out).2.1); (case side3 => repeat (first | exact (Kd.R_reads' HO140.out).2.2 | (with_reducible refine Kd.C_alloc ?_ _) | (with_reducible refine Kd.C_drewN ?_ _) | (with_reducible refine Kd.C_drew ?_))); (case side4 => exact (Kd.R_reads' HO140.out).2.1); rintro e w65 ⟨rfl, hb⟩; (try clear A19); refine ⟨_, rfl, ?_⟩; have n0_ := Aside0.mk (Kd.R_below (by (with_reducible repeat (first | apply Kd.R_alloc | apply Kd.R_drewN | apply Kd.R_drew)); exact HO140.out) hb); have n1_ := Aside0.mk (Kd.R_below (by (with_reducible repeat (first | apply Kd.R_alloc | apply Kd.R_drewN | apply Kd.R_drew)); exact HO145.out) hb); have n2_ := Aside0.mk (Kd.R_below (by (with_reducible repeat (first | apply Kd.R_alloc | apply Kd.R_drewN | apply Kd.R_drew)); exact HO150.out) hb); have n3_ := Aside0.mk (Kd.R_below (by (with_reducible repeat (first | apply Kd.R_alloc | apply Kd.R_drewN | apply Kd.R_drew)); exact HO159.out) hb); have n4_ := Aside0.mk (below_step (by repeat (first | (with_reducible first | exact HB.out | apply below_alloc | apply pw_below_drewN | apply below_drew1) | exact HB.out)) hb); clear HO140; clear HO145; clear HO150; clear HO159; clear HB; have HO140 := n0_; have HO145 := n1_; have HO150 := n2_; have HO159 := n3_; have HB := n4_; clear n0_ n1_ n2_ n3_ n4_; (try clear hb); (try clear hb2); (try clear hk); (try clear hi)) | (go_at_call 16; (refine (redpencillaw05_made.calls k _ _ ([] : List (S25)) _ _ ([] : List (S25)) 0 true _ ?side1 ?side2 ?side3 ?side4 A21.out).mono ?_); (case side1 => exact Kd.C_nil _ _); (case side2 => exact Nat.le_refl _); (case side3 => exact Kd.C_nil _ _); (case side4 => exact Nat.le_refl _); rintro e w66 ⟨rfl, hb⟩; (try clear A21); have n0_ := Aside0.mk (Kd.R_below (by (with_reducible repeat (first | apply Kd.R_alloc | apply Kd.R_drewN | apply Kd.R_drew)); exact HO140.out) hb); have n1_ := Aside0.mk (Kd.R_below (by (with_reducible repeat (first | apply Kd.R_alloc | apply Kd.R_drewN | apply Kd.R_drew)); exact HO145.out) hb); have n2_ := Aside0.mk (Kd.R_below (by (with_reducible repeat (first | apply Kd.R_alloc | apply Kd.R_drewN | apply Kd.R_drew)); exact HO150.out) hb); have n3_ := Aside0.mk (Kd.R_below (by (with_reducible repeat (first | apply Kd.R_alloc | apply Kd.R_drewN | apply Kd.R_drew)); exact HO159.out) hb); have n4_ := Aside0.mk (below_step (by repeat (first | (with_reducible first | exact HB.out | apply below_alloc | apply pw_below_drewN | apply below_drew1) | exact HB.out)) hb); clear HO140; clear HO145; clear HO150; clear HO159; clear HB; have HO140 := n0_; have HO145 := n1_; have HO150 := n2_; have HO159 := n3_; have HB := n4_; clear n0_ n1_ n2_ n3_ n4_; (try clear hb); (try clear hb2); (try clear hk); (try clear hi)) | (go_at_call 33; (with_reducible refine (redpencillaw05_of.calls 0 1 t162 t163 _ A23.out).mono ?_); rintro e w67 ⟨rfl, hb⟩; (try clear A23); have n0_ := Aside0.mk (Kd.R_below (by (with_reducible repeat (first | apply Kd.R_alloc | apply Kd.R_drewN | apply Kd.R_drew)); exact HO140.out) hb); have n1_ := Aside0.mk (Kd.R_below (by (with_reducible repeat (first | apply Kd.R_alloc | apply Kd.R_drewN | apply Kd.R_drew)); exact HO145.out) hb); have n2_ := Aside0.mk (Kd.R_below (by (with_reducible repeat (first | apply Kd.R_alloc | apply Kd.R_drewN | apply Kd.R_drew)); exact HO150.out) hb); have n3_ := Aside0.mk (Kd.R_below (by (with_reducible repeat (first | apply Kd.R_alloc | apply Kd.R_drewN | apply Kd.R_drew)); exact HO159.out) hb); have n4_ := Aside0.mk (below_step (by repeat (first | (with_reducible first | exact HB.out | apply below_alloc | apply pw_below_drewN | apply below_drew1) | exact HB.out)) hb); clear HO140; clear HO145; clear HO150; clear HO159; clear HB; have HO140 := n0_; have HO145 := n1_; have HO150 := n2_; have HO159 := n3_; have HB := n4_; clear n0_ n1_ n2_ n3_ n4_; (try clear hb); (try clear hb2); (try clear hk); (try clear hi)) | ((with_reducible refine gate_dst (N := 24) rfl ?_); (try (refine gate_guard (by rfl) ?_; dsimp only)); refine Kd.R_lit k25 _ 25 ?hg (N := 24) ?hd (xs := ([(⟨t162, t163⟩ : S25)] : List (S25))) (inner := [.int .i64 t162, .int .i64 t163]) (ok := fun _ => True) (okp := fun _ => True) ?hr ?hp (fun _ hk => hk) trivial (Below.refl _ _) (Nat.le_refl _) (by simp) ?_; (case hd => rfl); (case hg => rfl); (case hr => first | (go_simp; done) | (go_simp; rfl)); (case hp => exact (Reps.c2 (show Kd.M k25 _ _ _ (⟨t162, t163⟩ : S25) [.int .i64 t162, .int .i64 t163] from (k25_mkM _ _ _ (⟨t162, t163⟩ : S25) )) (Reps.none _ _))); intro v165 w68 ho69 hb hg_ hnew_; clear hg_ hnew_; (first | rw [← Ny164.out] at ho69 | (simp only [Int.reduceToNat] at ho69; rw [← Ny164.out] at ho69)); have n0_ := Aside0.mk (Kd.R_elder' (by (with_reducible repeat (first | apply Kd.R_alloc | apply Kd.R_drewN | apply Kd.R_drew)); exact HO140.out) (Kd.R_base ho69) hb); have n1_ := Aside0.mk (Kd.R_elder' (by (with_reducible repeat (first | apply Kd.R_alloc | apply Kd.R_drewN | apply Kd.R_drew)); exact HO145.out) (Kd.R_base ho69) hb); have n2_ := Aside0.mk (Kd.R_elder' (by (with_reducible repeat (first | apply Kd.R_alloc | apply Kd.R_drewN | apply Kd.R_drew)); exact HO150.out) (Kd.R_base ho69) hb); have n3_ := Aside0.mk (Kd.R_elder' (by (with_reducible repeat (first | apply Kd.R_alloc | apply Kd.R_drewN | apply Kd.R_drew)); exact HO159.out) (Kd.R_base ho69) hb); have n4_ := Aside0.mk (Kd.R_lower (Kd.R_new' (Kd.R_new' (Kd.R_new' (Kd.R_new' ho69 (Kd.R_lt (by (with_reducible repeat (first | apply Kd.R_alloc | apply Kd.R_drewN | apply Kd.R_drew)); exact HO140.out))) (Kd.R_lt (by (with_reducible repeat (first | apply Kd.R_alloc | apply Kd.R_drewN | apply Kd.R_drew)); exact HO145.out))) (Kd.R_lt (by (with_reducible repeat (first | apply Kd.R_alloc | apply Kd.R_drewN | apply Kd.R_drew)); exact HO150.out))) (Kd.R_lt (by (with_reducible repeat (first | apply Kd.R_alloc | apply Kd.R_drewN | apply Kd.R_drew)); exact HO159.out))) (below_size (by repeat (first | (with_reducible first | exact HB.out | apply below_alloc | apply pw_below_drewN | apply below_drew1) | exact HB.out)))); have n5_ := Aside0.mk (below_step (by repeat (first | (with_reducible first | exact HB.out | apply below_alloc | apply pw_below_drewN | apply below_drew1) | exact HB.out)) hb); clear HO140; clear HO145; clear HO150; clear HO159; clear HB; have HO140 := n0_; have HO145 := n1_; have HO150 := n2_; have HO159 := n3_; have HO166 := n4_; have HB := n5_; clear n0_ n1_ n2_ n3_ n4_ n5_; clear hb ho69; obtain ⟨Ao70, co70, eo70⟩ := Kd.R_slice HO166.out; subst eo70) | (go_at_call 16; (refine (redpencillaw05_made.calls k _ _ y164 _ _ ([] : List (S25)) 2 true _ ?side1 ?side2 ?side3 ?side4 A24.out).mono ?_); (case side1 => repeat (first | exact (Kd.R_reads' HO166.out).2.2 | (with_reducible refine Kd.C_alloc ?_ _) | (with_reducible refine Kd.C_drewN ?_ _) | (with_reducible refine Kd.C_drew ?_))); (case side2 => exact (Kd.R_reads' HO166.out).2.1); (case side3 => exact Kd.C_nil _ _); (case side4 => exact Nat.le_refl _); rintro e w71 ⟨rfl, hb⟩; (try clear A24); have n0_ := Aside0.mk (Kd.R_below (by (with_reducible repeat (first | apply Kd.R_alloc | apply Kd.R_drewN | apply Kd.R_drew)); exact HO140.out) hb); have n1_ := Aside0.mk (Kd.R_below (by (with_reducible repeat (first | apply Kd.R_alloc | apply Kd.R_drewN | apply Kd.R_drew)); exact HO145.out) hb); have n2_ := Aside0.mk (Kd.R_below (by (with_reducible repeat (first | apply Kd.R_alloc | apply Kd.R_drewN | apply Kd.R_drew)); exact HO150.out) hb); have n3_ := Aside0.mk (Kd.R_below (by (with_reducible repeat (first | apply Kd.R_alloc | apply Kd.R_drewN | apply Kd.R_drew)); exact HO159.out) hb); have n4_ := Aside0.mk (Kd.R_below (by (with_reducible repeat (first | apply Kd.R_alloc | apply Kd.R_drewN | apply Kd.R_drew)); exact HO166.out) hb); have n5_ := Aside0.mk (below_step (by repeat (first | (with_reducible first | exact HB.out | apply below_alloc | apply pw_below_drewN | apply below_drew1) | exact HB.out)) hb); clear HO140; clear HO145; clear HO150; clear HO159; clear HO166; clear HB; have HO140 := n0_; have HO145 := n1_; have HO150 := n2_; have HO159 := n3_; have HO166 := n4_; have HB := n5_; clear n0_ n1_ n2_ n3_ n4_ n5_; (try clear hb); (try clear hb2); (try clear hk); (try clear hi)) | (go_at_call 11; (with_reducible refine (vector_Get.calls _ _ y138 3 t168 _ ?side1 ?side2 A26.out).mono ?_); (case side1 => repeat (first | exact (Kd.R_reads' HO140.out).2.2 | (with_reducible refine Kd.C_alloc ?_ _) | (with_reducible refine Kd.C_drewN ?_ _) | (with_reducible refine Kd.C_drew ?_))); (case side2 => exact (Kd.R_reads' HO140.out).2.1); rintro e w72 ⟨rfl, hb⟩; (try clear A26); have n0_ := Aside0.mk (Kd.R_below (by (with_reducible repeat (first | apply Kd.R_alloc | apply Kd.R_drewN | apply Kd.R_drew)); exact HO140.out) hb); have n1_ := Aside0.mk (Kd.R_below (by (with_reducible repeat (first | apply Kd.R_alloc | apply Kd.R_drewN | apply Kd.R_drew)); exact HO145.out) hb); have n2_ := Aside0.mk (Kd.R_below (by (with_reducible repeat (first | apply Kd.R_alloc | apply Kd.R_drewN | apply Kd.R_drew)); exact HO150.out) hb); have n3_ := Aside0.mk (Kd.R_below (by (with_reducible repeat (first | apply Kd.R_alloc | apply Kd.R_drewN | apply Kd.R_drew)); exact HO159.out) hb); have n4_ := Aside0.mk (Kd.R_below (by (with_reducible repeat (first | apply Kd.R_alloc | apply Kd.R_drewN | apply Kd.R_drew)); exact HO166.out) hb); have n5_ := Aside0.mk (below_step (by repeat (first | (with_reducible first | exact HB.out | apply below_alloc | apply pw_below_drewN | apply below_drew1) | exact HB.out)) hb); clear HO140; clear HO145; clear HO150; clear HO159; clear HO166; clear HB; have HO140 := n0_; have HO145 := n1_; have HO150 := n2_; have HO159 := n3_; have HO166 := n4_; have HB := n5_; clear n0_ n1_ n2_ n3_ n4_ n5_; (try clear hb); (try clear hb2); (try clear hk); (try clear hi)) | (go_at_call 11; (with_reducible refine (vector_Get.calls _ _ y138 2 t169 _ ?side1 ?side2 A28.out).mono ?_); (case side1 => repeat (first | exact (Kd.R_reads' HO140.out).2.2 | (with_reducible refine Kd.C_alloc ?_ _) | (with_reducible refine Kd.C_drewN ?_ _) | (with_reducible refine Kd.C_drew ?_))); (case side2 => exact (Kd.R_reads' HO140.out).2.1); rintro e w73 ⟨rfl, hb⟩; (try clear A28); have n0_ := Aside0.mk (Kd.R_below (by (with_reducible repeat (first | apply Kd.R_alloc | apply Kd.R_drewN | apply Kd.R_drew)); exact HO140.out) hb); have n1_ := Aside0.mk (Kd.R_below (by (with_reducible repeat (first | apply Kd.R_alloc | apply Kd.R_drewN | apply Kd.R_drew)); exact HO145.out) hb); have n2_ := Aside0.mk (Kd.R_below (by (with_reducible repeat (first | apply Kd.R_alloc | apply Kd.R_drewN | apply Kd.R_drew)); exact HO150.out) hb); have n3_ := Aside0.mk (Kd.R_below (by (with_reducible repeat (first | apply Kd.R_alloc | apply Kd.R_drewN | apply Kd.R_drew)); exact HO159.out) hb); have n4_ := Aside0.mk (Kd.R_below (by (with_reducible repeat (first | apply Kd.R_alloc | apply Kd.R_drewN | apply Kd.R_drew)); exact HO166.out) hb); have n5_ := Aside0.mk (below_step (by repeat (first | (with_reducible first | exact HB.out | apply below_alloc | apply pw_below_drewN | apply below_drew1) | exact HB.out)) hb); clear HO140; clear HO145; clear HO150; clear HO159; clear HO166; clear HB; have HO140 := n0_; have HO145 := n1_; have HO150 := n2_; have HO159 := n3_; have HO166 := n4_; have HB := n5_; clear n0_ n1_ n2_ n3_ n4_ n5_; (try clear hb); (try clear hb2); (try clear hk); (try clear hi)) | (go_at_call 33; (with_reducible refine (redpencillaw05_of.calls 3 7 t170 t171 _ A30.out).mono ?_); rintro e w74 ⟨rfl, hb⟩; (try clear A30); have n0_ := Aside0.mk (Kd.R_below (by (with_reducible repeat (first | apply Kd.R_alloc | apply Kd.R_drewN | apply Kd.R_drew)); exact HO140.out) hb); have n1_ := Aside0.mk (Kd.R_below (by (with_reducible repeat (first | apply Kd.R_alloc | apply Kd.R_drewN | apply Kd.R_drew)); exact HO145.out) hb); have n2_ := Aside0.mk (Kd.R_below (by (with_reducible repeat (first | apply Kd.R_alloc | apply Kd.R_drewN | apply Kd.R_drew)); exact HO150.out) hb); have n3_ := Aside0.mk (Kd.R_below (by (with_reducible repeat (first | apply Kd.R_alloc | apply Kd.R_drewN | apply Kd.R_drew)); exact HO159.out) hb); have n4_ := Aside0.mk (Kd.R_below (by (with_reducible repeat (first | apply Kd.R_alloc | apply Kd.R_drewN | apply Kd.R_drew)); exact HO166.out) hb); have n5_ := Aside0.mk (below_step (by repeat (first | (with_reducible first | exact HB.out | apply below_alloc | apply pw_below_drewN | apply below_drew1) | exact HB.out)) hb); clear HO140; clear HO145; clear HO150; clear HO159; clear HO166; clear HB; have HO140 := n0_; have HO145 := n1_; have HO150 := n2_; have HO159 := n3_; have HO166 := n4_; have HB := n5_; clear n0_ n1_ n2_ n3_ n4_ n5_; (try clear hb); (try clear hb2); (try clear hk); (try clear hi)) | (go_at_call 13; (with_reducible refine (vector_Has.calls _ _ y138 t170 t171 true _ ?side1 ?side2 A31.out).mono ?_); (case side1 => repeat (first | exact (Kd.R_reads' HO140.out).2.2 | (with_reducible refine Kd.C_alloc ?_ _) | (with_reducible refine Kd.C_drewN ?_ _) | (with_reducible refine Kd.C_drew ?_))); (case side2 => exact (Kd.R_reads' HO140.out).2.1); rintro e w75 ⟨rfl, hb⟩; (try clear A31); have n0_ := Aside0.mk (Kd.R_below (by (with_reducible repeat (first | apply Kd.R_alloc | apply Kd.R_drewN | apply Kd.R_drew)); exact HO140.out) hb); have n1_ := Aside0.mk (Kd.R_below (by (with_reducible repeat (first | apply Kd.R_alloc | apply Kd.R_drewN | apply Kd.R_drew)); exact HO145.out) hb); have n2_ := Aside0.mk (Kd.R_below (by (with_reducible repeat (first | apply Kd.R_alloc | apply Kd.R_drewN | apply Kd.R_drew)); exact HO150.out) hb); have n3_ := Aside0.mk (Kd.R_below (by (with_reducible repeat (first | apply Kd.R_alloc | apply Kd.R_drewN | apply Kd.R_drew)); exact HO159.out) hb); have n4_ := Aside0.mk (Kd.R_below (by (with_reducible repeat (first | apply Kd.R_alloc | apply Kd.R_drewN | apply Kd.R_drew)); exact HO166.out) hb); have n5_ := Aside0.mk (below_step (by repeat (first | (with_reducible first | exact HB.out | apply below_alloc | apply pw_below_drewN | apply below_drew1) | exact HB.out)) hb); clear HO140; clear HO145; clear HO150; clear HO159; clear HO166; clear HB; have HO140 := n0_; have HO145 := n1_; have HO150 := n2_; have HO159 := n3_; have HO166 := n4_; have HB := n5_; clear n0_ n1_ n2_ n3_ n4_ n5_; (try clear hb); (try clear hb2); (try clear hk); (try clear hi)) | (go_at_call 33; (with_reducible refine (redpencillaw05_of.calls 3 8 t173 t174 _ A33.out).mono ?_); rintro e w76 ⟨rfl, hb⟩; (try clear A33); have n0_ := Aside0.mk (Kd.R_below (by (with_reducible repeat (first | apply Kd.R_alloc | apply Kd.R_drewN | apply Kd.R_drew)); exact HO140.out) hb); have n1_ := Aside0.mk (Kd.R_below (by (with_reducible repeat (first | apply Kd.R_alloc | apply Kd.R_drewN | apply Kd.R_drew)); exact HO145.out) hb); have n2_ := Aside0.mk (Kd.R_below (by (with_reducible repeat (first | apply Kd.R_alloc | apply Kd.R_drewN | apply Kd.R_drew)); exact HO150.out) hb); have n3_ := Aside0.mk (Kd.R_below (by (with_reducible repeat (first | apply Kd.R_alloc | apply Kd.R_drewN | apply Kd.R_drew)); exact HO159.out) hb); have n4_ := Aside0.mk (Kd.R_below (by (with_reducible repeat (first | apply Kd.R_alloc | apply Kd.R_drewN | apply Kd.R_drew)); exact HO166.out) hb); have n5_ := Aside0.mk (below_step (by repeat (first | (with_reducible first | exact HB.out | apply below_alloc | apply pw_below_drewN | apply below_drew1) | exact HB.out)) hb); clear HO140; clear HO145; clear HO150; clear HO159; clear HO166; clear HB; have HO140 := n0_; have HO145 := n1_; have HO150 := n2_; have HO159 := n3_; have HO166 := n4_; have HB := n5_; clear n0_ n1_ n2_ n3_ n4_ n5_; (try clear hb); (try clear hb2); (try clear hk); (try clear hi)) | (go_at_call 13; (with_reducible refine (vector_Has.calls _ _ y138 t173 t174 false _ ?side1 ?side2 A34.out).mono ?_); (case side1 => repeat (first | exact (Kd.R_reads' HO140.out).2.2 | (with_reducible refine Kd.C_alloc ?_ _) | (with_reducible refine Kd.C_drewN ?_ _) | (with_reducible refine Kd.C_drew ?_))); (case side2 => exact (Kd.R_reads' HO140.out).2.1); rintro e w77 ⟨rfl, hb⟩; (try clear A34); have n0_ := Aside0.mk (Kd.R_below (by (with_reducible repeat (first | apply Kd.R_alloc | apply Kd.R_drewN | apply Kd.R_drew)); exact HO140.out) hb); have n1_ := Aside0.mk (Kd.R_below (by (with_reducible repeat (first | apply Kd.R_alloc | apply Kd.R_drewN | apply Kd.R_drew)); exact HO145.out) hb); have n2_ := Aside0.mk (Kd.R_below (by (with_reducible repeat (first | apply Kd.R_alloc | apply Kd.R_drewN | apply Kd.R_drew)); exact HO150.out) hb); have n3_ := Aside0.mk (Kd.R_below (by (with_reducible repeat (first | apply Kd.R_alloc | apply Kd.R_drewN | apply Kd.R_drew)); exact HO159.out) hb); have n4_ := Aside0.mk (Kd.R_below (by (with_reducible repeat (first | apply Kd.R_alloc | apply Kd.R_drewN | apply Kd.R_drew)); exact HO166.out) hb); have n5_ := Aside0.mk (below_step (by repeat (first | (with_reducible first | exact HB.out | apply below_alloc | apply pw_below_drewN | apply below_drew1) | exact HB.out)) hb); clear HO140; clear HO145; clear HO150; clear HO159; clear HO166; clear HB; have HO140 := n0_; have HO145 := n1_; have HO150 := n2_; have HO159 := n3_; have HO166 := n4_; have HB := n5_; clear n0_ n1_ n2_ n3_ n4_ n5_; (try clear hb); (try clear hb2); (try clear hk); (try clear hi)) | (go_at_call 33; (with_reducible refine (redpencillaw05_of.calls 1 0 t176 t177 _ A56.out).mono ?_); rintro e w78 ⟨rfl, hb⟩; (try clear A56); have n0_ := Aside0.mk (Kd.R_below (by (with_reducible repeat (first | apply Kd.R_alloc | apply Kd.R_drewN | apply Kd.R_drew)); exact HO140.out) hb); have n1_ := Aside0.mk (Kd.R_below (by (with_reducible repeat (first | apply Kd.R_alloc | apply Kd.R_drewN | apply Kd.R_drew)); exact HO145.out) hb); have n2_ := Aside0.mk (Kd.R_below (by (with_reducible repeat (first | apply Kd.R_alloc | apply Kd.R_drewN | apply Kd.R_drew)); exact HO150.out) hb); have n3_ := Aside0.mk (Kd.R_below (by (with_reducible repeat (first | apply Kd.R_alloc | apply Kd.R_drewN | apply Kd.R_drew)); exact HO159.out) hb); have n4_ := Aside0.mk (Kd.R_below (by (with_reducible repeat (first | apply Kd.R_alloc | apply Kd.R_drewN | apply Kd.R_drew)); exact HO166.out) hb); have n5_ := Aside0.mk (below_step (by repeat (first | (with_reducible first | exact HB.out | apply below_alloc | apply pw_below_drewN | apply below_drew1) | exact HB.out)) hb); clear HO140; clear HO145; clear HO150; clear HO159; clear HO166; clear HB; have HO140 := n0_; have HO145 := n1_; have HO150 := n2_; have HO159 := n3_; have HO166 := n4_; have HB := n5_; clear n0_ n1_ n2_ n3_ n4_ n5_; (try clear hb); (try clear hb2); (try clear hk); (try clear hi)) | (go_at_call 13; (with_reducible refine (vector_Has.calls _ _ y138 t176 t177 t178 _ ?side1 ?side2 A57.out).mono ?_); (case side1 => repeat (first | exact (Kd.R_reads' HO140.out).2.2 | (with_reducible refine Kd.C_alloc ?_ _) | (with_reducible refine Kd.C_drewN ?_ _) | (with_reducible refine Kd.C_drew ?_))); (case side2 => exact (Kd.R_reads' HO140.out).2.1); rintro e w79 ⟨rfl, hb⟩; (try clear A57); have n0_ := Aside0.mk (Kd.R_below (by (with_reducible repeat (first | apply Kd.R_alloc | apply Kd.R_drewN | apply Kd.R_drew)); exact HO140.out) hb); have n1_ := Aside0.mk (Kd.R_below (by (with_reducible repeat (first | apply Kd.R_alloc | apply Kd.R_drewN | apply Kd.R_drew)); exact HO145.out) hb); have n2_ := Aside0.mk (Kd.R_below (by (with_reducible repeat (first | apply Kd.R_alloc | apply Kd.R_drewN | apply Kd.R_drew)); exact HO150.out) hb); have n3_ := Aside0.mk (Kd.R_below (by (with_reducible repeat (first | apply Kd.R_alloc | apply Kd.R_drewN | apply Kd.R_drew)); exact HO159.out) hb); have n4_ := Aside0.mk (Kd.R_below (by (with_reducible repeat (first | apply Kd.R_alloc | apply Kd.R_drewN | apply Kd.R_drew)); exact HO166.out) hb); have n5_ := Aside0.mk (below_step (by repeat (first | (with_reducible first | exact HB.out | apply below_alloc | apply pw_below_drewN | apply below_drew1) | exact HB.out)) hb); clear HO140; clear HO145; clear HO150; clear HO159; clear HO166; clear HB; have HO140 := n0_; have HO145 := n1_; have HO150 := n2_; have HO159 := n3_; have HO166 := n4_; have HB := n5_; clear n0_ n1_ n2_ n3_ n4_ n5_; (try clear hb); (try clear hb2); (try clear hk); (try clear hi)))
         go_meet
         case rel => exact ⟨_, (t178), (by first | rfl | (simp; done) | (simp [*]; done)), H', ⟨by first | omega | exact Nat.le_refl _⟩, ⟨by (with_reducible repeat (first | apply Kd.R_alloc | apply Kd.R_drewN | apply Kd.R_drew)); exact Kd.R_mono HO140.out (fun _ hk => ⟨hk.1.1.1.2, hk.1.1.2⟩)⟩, ⟨by (with_reducible repeat (first | apply Kd.R_alloc | apply Kd.R_drewN | apply Kd.R_drew)); exact Kd.R_mono HO145.out (fun _ hk => ⟨hk.1.1.1.2, hk.1.1.2⟩)⟩, ⟨by (with_reducible repeat (first | apply Kd.R_alloc | apply Kd.R_drewN | apply Kd.R_drew)); exact Kd.R_mono HO150.out (fun _ hk => ⟨hk.1.1.1.2, hk.1.1.2⟩)⟩, ⟨by repeat (first | (with_reducible first | exact HB.out | apply below_alloc | apply pw_below_drewN | apply below_drew1) | exact HB.out)⟩⟩
       ·
        replace c32 := Bool.eq_false_iff.mpr c32
        subst c32
        have H1 : (redpencillaw05_known.j0 k y138 y143 y148 true) = some true := by rw [if_neg (show ¬ (false = true) by decide)] at H; exact H
        exact absurd H1 (redpencillaw05_known.j0_no _ _ _ _)
      ·
       rw [if_neg c29] at H
       exact absurd H (redpencillaw05_known.j0_no _ _ _ _)
     ·
      rw [if_neg c27] at H
      exact absurd H (redpencillaw05_known.j0_no _ _ _ _)
    ·
     replace c25 := Bool.eq_false_iff.mpr c25
     subst c25
     have H1 : (redpencillaw05_known.j0 k y138 y143 y148 true) = some true := by rw [if_neg (show ¬ (false = true) by decide)] at H; exact H
     exact absurd H1 (redpencillaw05_known.j0_no _ _ _ _)
   ·
    replace c22 := Bool.eq_false_iff.mpr c22
    subst c22
    have H1 : (redpencillaw05_known.j0 k y138 y143 y148 true) = some true := by rw [if_neg (show ¬ (false = true) by decide)] at H; exact H
    exact absurd H1 (redpencillaw05_known.j0_no _ _ _ _)
  ·
   replace c20 := Bool.eq_false_iff.mpr c20
   subst c20
   have H1 : (redpencillaw05_known.j0 k y138 y143 y148 true) = some true := by rw [if_neg (show ¬ (false = true) by decide)] at H; exact H
   exact absurd H1 (redpencillaw05_known.j0_no _ _ _ _)
 case rest =>
  clear HC5
  try clear c1
  try clear c2
  try clear p2
  try clear c3
  try clear c8
  try clear c16
  try clear c20
  try clear c22
  try clear c25
  try clear c27
  try clear c27b0
  try clear c27b1
  try clear c29
  try clear c29b0
  try clear c29b1
  try clear c32
  try clear c33
  try clear c35
  obtain ⟨kq, x53_4, rfl, HA, HJ4, HO_1, HO_2, HO_3, HB⟩ := hcut
  cases kq with
  | zero => exact absurd HA.out (by simp [redpencillaw05_known.j0])
  | succ kj4 =>
   have H := HA.out
   clear HA
   simp only [redpencillaw05_known.j0] at H
   by_cases c160 : x53_4 = true
   ·
    subst c160
    have H1 : (some false) = some true := by rw [if_pos rfl] at H; exact H
    exact absurd H1 (by simp)
   ·
    replace c160 := Bool.eq_false_iff.mpr c160
    subst c160
    have H1 : ((redpencillaw05_of.f 2 5).bind fun bt179 => ((redpencillaw05_of.f 1 2).bind fun bt181 => ((redpencillaw05_of.f 2 5).bind fun bt183 => ((redpencillaw05_of.f 3 7).bind fun bt185 => ((redpencillaw05_raised.f kj4 y138 bt179.1 bt179.2 (([(⟨bt181.1, bt181.2⟩ : S25), (⟨bt183.1, bt183.2⟩ : S25), (⟨bt185.1, bt185.2⟩ : S25)] : List (S25))) 0).bind fun t190 => (if t190 = true then ((redpencillaw05_of.f 3 5).bind fun bt191 => ((redpencillaw05_raised.f kj4 y138 bt191.1 bt191.2 y138 0).bind fun t193 => (if t193 = true then ((redpencillaw05_of.f 1 4).bind fun bt194 => ((redpencillaw05_of.f 2 1).bind fun bt196 => ((redpencillaw05_of.f 1 4).bind fun bt201 => ((redpencillaw05_of.f 2 1).bind fun bt203 => ((redpencillaw05_of.f 3 7).bind fun bt205 => ((redpencillaw05_merged.f kj4 y138 (([(⟨bt194.1, bt194.2⟩ : S25), (⟨bt196.1, bt196.2⟩ : S25)] : List (S25))) (([(⟨bt201.1, bt201.2⟩ : S25), (⟨bt203.1, bt203.2⟩ : S25), (⟨bt205.1, bt205.2⟩ : S25)] : List (S25))) 0).bind fun t210 => (if t210 = true then ((redpencillaw05_of.f 3 7).bind fun bt211 => ((redpencillaw05_of.f 1 2).bind fun bt213 => ((redpencillaw05_merged.f kj4 (([(⟨bt211.1, bt211.2⟩ : S25), (⟨bt213.1, bt213.2⟩ : S25)] : List (S25))) ([] : List (S25)) ([] : List (S25)) 2).bind fun t218 => (redpencillaw05_known.j1 kj4 y138 y143 y148 (!t218))))) else (redpencillaw05_known.j1 kj4 y138 y143 y148 true)))))))) else (redpencillaw05_known.j1 kj4 y138 y143 y148 true)))) else (redpencillaw05_known.j1 kj4 y138 y143 y148 true))))))) = some true := by rw [if_neg (show ¬ (false = true) by decide)] at H; exact H
    clear H
    have H := H1
    clear H1
    have HC161 := Aside0.mk H
    clear H
    go_upto_region 5 with (fail)
    go_cut [87] (fun v87 wc => ∃ (kq : Nat) (x87_160 : Bool), v87 = .bool x87_160 ∧ Aside0 (redpencillaw05_known.j1 kq y138 y143 y148 x87_160 = some true) ∧ Aside0 (kq ≤ kj4) ∧ Aside0 (Kd.R k25 25 wc w.heap.size (fun k_ => some k_ ≠ (v144 : Value).ownBlock ∧ some k_ ≠ (v149 : Value).ownBlock) v139 y138) ∧ Aside0 (Kd.R k25 25 wc w.heap.size (fun k_ => some k_ ≠ (v139 : Value).ownBlock ∧ some k_ ≠ (v149 : Value).ownBlock) v144 y143) ∧ Aside0 (Kd.R k25 25 wc w.heap.size (fun k_ => some k_ ≠ (v139 : Value).ownBlock ∧ some k_ ≠ (v144 : Value).ownBlock) v149 y148) ∧ Aside0 (Below w.heap.size w wc))
    case first =>
     have H := HC161.out
     clear HC161
     replace H := Option.bind_eq_some_iff.mp H
     obtain ⟨⟨t179, t180⟩, A1620, H⟩ := H
     replace H : ((redpencillaw05_of.f 1 2).bind fun bt181 => ((redpencillaw05_of.f 2 5).bind fun bt183 => ((redpencillaw05_of.f 3 7).bind fun bt185 => ((redpencillaw05_raised.f kj4 y138 t179 t180 (([(⟨bt181.1, bt181.2⟩ : S25), (⟨bt183.1, bt183.2⟩ : S25), (⟨bt185.1, bt185.2⟩ : S25)] : List (S25))) 0).bind fun t190 => (if t190 = true then ((redpencillaw05_of.f 3 5).bind fun bt191 => ((redpencillaw05_raised.f kj4 y138 bt191.1 bt191.2 y138 0).bind fun t193 => (if t193 = true then ((redpencillaw05_of.f 1 4).bind fun bt194 => ((redpencillaw05_of.f 2 1).bind fun bt196 => ((redpencillaw05_of.f 1 4).bind fun bt201 => ((redpencillaw05_of.f 2 1).bind fun bt203 => ((redpencillaw05_of.f 3 7).bind fun bt205 => ((redpencillaw05_merged.f kj4 y138 (([(⟨bt194.1, bt194.2⟩ : S25), (⟨bt196.1, bt196.2⟩ : S25)] : List (S25))) (([(⟨bt201.1, bt201.2⟩ : S25), (⟨bt203.1, bt203.2⟩ : S25), (⟨bt205.1, bt205.2⟩ : S25)] : List (S25))) 0).bind fun t210 => (if t210 = true then ((redpencillaw05_of.f 3 7).bind fun bt211 => ((redpencillaw05_of.f 1 2).bind fun bt213 => ((redpencillaw05_merged.f kj4 (([(⟨bt211.1, bt211.2⟩ : S25), (⟨bt213.1, bt213.2⟩ : S25)] : List (S25))) ([] : List (S25)) ([] : List (S25)) 2).bind fun t218 => (redpencillaw05_known.j1 kj4 y138 y143 y148 (!t218))))) else (redpencillaw05_known.j1 kj4 y138 y143 y148 true)))))))) else (redpencillaw05_known.j1 kj4 y138 y143 y148 true)))) else (redpencillaw05_known.j1 kj4 y138 y143 y148 true)))))) = some true := H
     have A162 := Aside0.mk A1620
     clear A1620
     replace H := Option.bind_eq_some_iff.mp H
     obtain ⟨⟨t181, t182⟩, A1630, H⟩ := H
     replace H : ((redpencillaw05_of.f 2 5).bind fun bt183 => ((redpencillaw05_of.f 3 7).bind fun bt185 => ((redpencillaw05_raised.f kj4 y138 t179 t180 (([(⟨t181, t182⟩ : S25), (⟨bt183.1, bt183.2⟩ : S25), (⟨bt185.1, bt185.2⟩ : S25)] : List (S25))) 0).bind fun t190 => (if t190 = true then ((redpencillaw05_of.f 3 5).bind fun bt191 => ((redpencillaw05_raised.f kj4 y138 bt191.1 bt191.2 y138 0).bind fun t193 => (if t193 = true then ((redpencillaw05_of.f 1 4).bind fun bt194 => ((redpencillaw05_of.f 2 1).bind fun bt196 => ((redpencillaw05_of.f 1 4).bind fun bt201 => ((redpencillaw05_of.f 2 1).bind fun bt203 => ((redpencillaw05_of.f 3 7).bind fun bt205 => ((redpencillaw05_merged.f kj4 y138 (([(⟨bt194.1, bt194.2⟩ : S25), (⟨bt196.1, bt196.2⟩ : S25)] : List (S25))) (([(⟨bt201.1, bt201.2⟩ : S25), (⟨bt203.1, bt203.2⟩ : S25), (⟨bt205.1, bt205.2⟩ : S25)] : List (S25))) 0).bind fun t210 => (if t210 = true then ((redpencillaw05_of.f 3 7).bind fun bt211 => ((redpencillaw05_of.f 1 2).bind fun bt213 => ((redpencillaw05_merged.f kj4 (([(⟨bt211.1, bt211.2⟩ : S25), (⟨bt213.1, bt213.2⟩ : S25)] : List (S25))) ([] : List (S25)) ([] : List (S25)) 2).bind fun t218 => (redpencillaw05_known.j1 kj4 y138 y143 y148 (!t218))))) else (redpencillaw05_known.j1 kj4 y138 y143 y148 true)))))))) else (redpencillaw05_known.j1 kj4 y138 y143 y148 true)))) else (redpencillaw05_known.j1 kj4 y138 y143 y148 true))))) = some true := H
     have A163 := Aside0.mk A1630
     clear A1630
     replace H := Option.bind_eq_some_iff.mp H
     obtain ⟨⟨t183, t184⟩, A1640, H⟩ := H
     replace H : ((redpencillaw05_of.f 3 7).bind fun bt185 => ((redpencillaw05_raised.f kj4 y138 t179 t180 (([(⟨t181, t182⟩ : S25), (⟨t183, t184⟩ : S25), (⟨bt185.1, bt185.2⟩ : S25)] : List (S25))) 0).bind fun t190 => (if t190 = true then ((redpencillaw05_of.f 3 5).bind fun bt191 => ((redpencillaw05_raised.f kj4 y138 bt191.1 bt191.2 y138 0).bind fun t193 => (if t193 = true then ((redpencillaw05_of.f 1 4).bind fun bt194 => ((redpencillaw05_of.f 2 1).bind fun bt196 => ((redpencillaw05_of.f 1 4).bind fun bt201 => ((redpencillaw05_of.f 2 1).bind fun bt203 => ((redpencillaw05_of.f 3 7).bind fun bt205 => ((redpencillaw05_merged.f kj4 y138 (([(⟨bt194.1, bt194.2⟩ : S25), (⟨bt196.1, bt196.2⟩ : S25)] : List (S25))) (([(⟨bt201.1, bt201.2⟩ : S25), (⟨bt203.1, bt203.2⟩ : S25), (⟨bt205.1, bt205.2⟩ : S25)] : List (S25))) 0).bind fun t210 => (if t210 = true then ((redpencillaw05_of.f 3 7).bind fun bt211 => ((redpencillaw05_of.f 1 2).bind fun bt213 => ((redpencillaw05_merged.f kj4 (([(⟨bt211.1, bt211.2⟩ : S25), (⟨bt213.1, bt213.2⟩ : S25)] : List (S25))) ([] : List (S25)) ([] : List (S25)) 2).bind fun t218 => (redpencillaw05_known.j1 kj4 y138 y143 y148 (!t218))))) else (redpencillaw05_known.j1 kj4 y138 y143 y148 true)))))))) else (redpencillaw05_known.j1 kj4 y138 y143 y148 true)))) else (redpencillaw05_known.j1 kj4 y138 y143 y148 true)))) = some true := H
     have A164 := Aside0.mk A1640
     clear A1640
     replace H := Option.bind_eq_some_iff.mp H
     obtain ⟨⟨t185, t186⟩, A1650, H⟩ := H
     replace H : ((redpencillaw05_raised.f kj4 y138 t179 t180 (([(⟨t181, t182⟩ : S25), (⟨t183, t184⟩ : S25), (⟨t185, t186⟩ : S25)] : List (S25))) 0).bind fun t190 => (if t190 = true then ((redpencillaw05_of.f 3 5).bind fun bt191 => ((redpencillaw05_raised.f kj4 y138 bt191.1 bt191.2 y138 0).bind fun t193 => (if t193 = true then ((redpencillaw05_of.f 1 4).bind fun bt194 => ((redpencillaw05_of.f 2 1).bind fun bt196 => ((redpencillaw05_of.f 1 4).bind fun bt201 => ((redpencillaw05_of.f 2 1).bind fun bt203 => ((redpencillaw05_of.f 3 7).bind fun bt205 => ((redpencillaw05_merged.f kj4 y138 (([(⟨bt194.1, bt194.2⟩ : S25), (⟨bt196.1, bt196.2⟩ : S25)] : List (S25))) (([(⟨bt201.1, bt201.2⟩ : S25), (⟨bt203.1, bt203.2⟩ : S25), (⟨bt205.1, bt205.2⟩ : S25)] : List (S25))) 0).bind fun t210 => (if t210 = true then ((redpencillaw05_of.f 3 7).bind fun bt211 => ((redpencillaw05_of.f 1 2).bind fun bt213 => ((redpencillaw05_merged.f kj4 (([(⟨bt211.1, bt211.2⟩ : S25), (⟨bt213.1, bt213.2⟩ : S25)] : List (S25))) ([] : List (S25)) ([] : List (S25)) 2).bind fun t218 => (redpencillaw05_known.j1 kj4 y138 y143 y148 (!t218))))) else (redpencillaw05_known.j1 kj4 y138 y143 y148 true)))))))) else (redpencillaw05_known.j1 kj4 y138 y143 y148 true)))) else (redpencillaw05_known.j1 kj4 y138 y143 y148 true))) = some true := H
     have A165 := Aside0.mk A1650
     clear A1650
     obtain ⟨y187, hy187⟩ : ∃ y_ : List (S25), y_ = (([(⟨t181, t182⟩ : S25), (⟨t183, t184⟩ : S25), (⟨t185, t186⟩ : S25)] : List (S25))) := ⟨_, rfl⟩
     replace H : ((redpencillaw05_raised.f kj4 y138 t179 t180 y187 0).bind fun t190 => (if t190 = true then ((redpencillaw05_of.f 3 5).bind fun bt191 => ((redpencillaw05_raised.f kj4 y138 bt191.1 bt191.2 y138 0).bind fun t193 => (if t193 = true then ((redpencillaw05_of.f 1 4).bind fun bt194 => ((redpencillaw05_of.f 2 1).bind fun bt196 => ((redpencillaw05_of.f 1 4).bind fun bt201 => ((redpencillaw05_of.f 2 1).bind fun bt203 => ((redpencillaw05_of.f 3 7).bind fun bt205 => ((redpencillaw05_merged.f kj4 y138 (([(⟨bt194.1, bt194.2⟩ : S25), (⟨bt196.1, bt196.2⟩ : S25)] : List (S25))) (([(⟨bt201.1, bt201.2⟩ : S25), (⟨bt203.1, bt203.2⟩ : S25), (⟨bt205.1, bt205.2⟩ : S25)] : List (S25))) 0).bind fun t210 => (if t210 = true then ((redpencillaw05_of.f 3 7).bind fun bt211 => ((redpencillaw05_of.f 1 2).bind fun bt213 => ((redpencillaw05_merged.f kj4 (([(⟨bt211.1, bt211.2⟩ : S25), (⟨bt213.1, bt213.2⟩ : S25)] : List (S25))) ([] : List (S25)) ([] : List (S25)) 2).bind fun t218 => (redpencillaw05_known.j1 kj4 y138 y143 y148 (!t218))))) else (redpencillaw05_known.j1 kj4 y138 y143 y148 true)))))))) else (redpencillaw05_known.j1 kj4 y138 y143 y148 true)))) else (redpencillaw05_known.j1 kj4 y138 y143 y148 true))) = some true := by first | (rw [hy187]; with_reducible exact H) | (have H2_ := (Option.bind_some _ _).symm.trans H; rw [hy187]; with_reducible exact H2_) | (have H2_ := (Option.bind_some _ _).symm.trans H; with_reducible exact H2_) | with_reducible exact H | (rw [hy187]; exact H) | exact H
     have Ny187 := Aside0.mk hy187
     clear hy187
     replace H := Option.bind_eq_some_iff.mp H
     obtain ⟨t190, A1660, H⟩ := H
     replace H : (if t190 = true then ((redpencillaw05_of.f 3 5).bind fun bt191 => ((redpencillaw05_raised.f kj4 y138 bt191.1 bt191.2 y138 0).bind fun t193 => (if t193 = true then ((redpencillaw05_of.f 1 4).bind fun bt194 => ((redpencillaw05_of.f 2 1).bind fun bt196 => ((redpencillaw05_of.f 1 4).bind fun bt201 => ((redpencillaw05_of.f 2 1).bind fun bt203 => ((redpencillaw05_of.f 3 7).bind fun bt205 => ((redpencillaw05_merged.f kj4 y138 (([(⟨bt194.1, bt194.2⟩ : S25), (⟨bt196.1, bt196.2⟩ : S25)] : List (S25))) (([(⟨bt201.1, bt201.2⟩ : S25), (⟨bt203.1, bt203.2⟩ : S25), (⟨bt205.1, bt205.2⟩ : S25)] : List (S25))) 0).bind fun t210 => (if t210 = true then ((redpencillaw05_of.f 3 7).bind fun bt211 => ((redpencillaw05_of.f 1 2).bind fun bt213 => ((redpencillaw05_merged.f kj4 (([(⟨bt211.1, bt211.2⟩ : S25), (⟨bt213.1, bt213.2⟩ : S25)] : List (S25))) ([] : List (S25)) ([] : List (S25)) 2).bind fun t218 => (redpencillaw05_known.j1 kj4 y138 y143 y148 (!t218))))) else (redpencillaw05_known.j1 kj4 y138 y143 y148 true)))))))) else (redpencillaw05_known.j1 kj4 y138 y143 y148 true)))) else (redpencillaw05_known.j1 kj4 y138 y143 y148 true)) = some true := H
     have A166 := Aside0.mk A1660
     clear A1660
     by_cases c167 : t190 = true
     ·
      subst c167
      have H1 : ((redpencillaw05_of.f 3 5).bind fun bt191 => ((redpencillaw05_raised.f kj4 y138 bt191.1 bt191.2 y138 0).bind fun t193 => (if t193 = true then ((redpencillaw05_of.f 1 4).bind fun bt194 => ((redpencillaw05_of.f 2 1).bind fun bt196 => ((redpencillaw05_of.f 1 4).bind fun bt201 => ((redpencillaw05_of.f 2 1).bind fun bt203 => ((redpencillaw05_of.f 3 7).bind fun bt205 => ((redpencillaw05_merged.f kj4 y138 (([(⟨bt194.1, bt194.2⟩ : S25), (⟨bt196.1, bt196.2⟩ : S25)] : List (S25))) (([(⟨bt201.1, bt201.2⟩ : S25), (⟨bt203.1, bt203.2⟩ : S25), (⟨bt205.1, bt205.2⟩ : S25)] : List (S25))) 0).bind fun t210 => (if t210 = true then ((redpencillaw05_of.f 3 7).bind fun bt211 => ((redpencillaw05_of.f 1 2).bind fun bt213 => ((redpencillaw05_merged.f kj4 (([(⟨bt211.1, bt211.2⟩ : S25), (⟨bt213.1, bt213.2⟩ : S25)] : List (S25))) ([] : List (S25)) ([] : List (S25)) 2).bind fun t218 => (redpencillaw05_known.j1 kj4 y138 y143 y148 (!t218))))) else (redpencillaw05_known.j1 kj4 y138 y143 y148 true)))))))) else (redpencillaw05_known.j1 kj4 y138 y143 y148 true)))) = some true := by rw [if_pos rfl] at H; exact H
      clear H
      have H := H1
      clear H1
      replace H := Option.bind_eq_some_iff.mp H
      obtain ⟨⟨t191, t192⟩, A1680, H⟩ := H
      replace H : ((redpencillaw05_raised.f kj4 y138 t191 t192 y138 0).bind fun t193 => (if t193 = true then ((redpencillaw05_of.f 1 4).bind fun bt194 => ((redpencillaw05_of.f 2 1).bind fun bt196 => ((redpencillaw05_of.f 1 4).bind fun bt201 => ((redpencillaw05_of.f 2 1).bind fun bt203 => ((redpencillaw05_of.f 3 7).bind fun bt205 => ((redpencillaw05_merged.f kj4 y138 (([(⟨bt194.1, bt194.2⟩ : S25), (⟨bt196.1, bt196.2⟩ : S25)] : List (S25))) (([(⟨bt201.1, bt201.2⟩ : S25), (⟨bt203.1, bt203.2⟩ : S25), (⟨bt205.1, bt205.2⟩ : S25)] : List (S25))) 0).bind fun t210 => (if t210 = true then ((redpencillaw05_of.f 3 7).bind fun bt211 => ((redpencillaw05_of.f 1 2).bind fun bt213 => ((redpencillaw05_merged.f kj4 (([(⟨bt211.1, bt211.2⟩ : S25), (⟨bt213.1, bt213.2⟩ : S25)] : List (S25))) ([] : List (S25)) ([] : List (S25)) 2).bind fun t218 => (redpencillaw05_known.j1 kj4 y138 y143 y148 (!t218))))) else (redpencillaw05_known.j1 kj4 y138 y143 y148 true)))))))) else (redpencillaw05_known.j1 kj4 y138 y143 y148 true))) = some true := H
      have A168 := Aside0.mk A1680
      clear A1680
      replace H := Option.bind_eq_some_iff.mp H
      obtain ⟨t193, A1690, H⟩ := H
      replace H : (if t193 = true then ((redpencillaw05_of.f 1 4).bind fun bt194 => ((redpencillaw05_of.f 2 1).bind fun bt196 => ((redpencillaw05_of.f 1 4).bind fun bt201 => ((redpencillaw05_of.f 2 1).bind fun bt203 => ((redpencillaw05_of.f 3 7).bind fun bt205 => ((redpencillaw05_merged.f kj4 y138 (([(⟨bt194.1, bt194.2⟩ : S25), (⟨bt196.1, bt196.2⟩ : S25)] : List (S25))) (([(⟨bt201.1, bt201.2⟩ : S25), (⟨bt203.1, bt203.2⟩ : S25), (⟨bt205.1, bt205.2⟩ : S25)] : List (S25))) 0).bind fun t210 => (if t210 = true then ((redpencillaw05_of.f 3 7).bind fun bt211 => ((redpencillaw05_of.f 1 2).bind fun bt213 => ((redpencillaw05_merged.f kj4 (([(⟨bt211.1, bt211.2⟩ : S25), (⟨bt213.1, bt213.2⟩ : S25)] : List (S25))) ([] : List (S25)) ([] : List (S25)) 2).bind fun t218 => (redpencillaw05_known.j1 kj4 y138 y143 y148 (!t218))))) else (redpencillaw05_known.j1 kj4 y138 y143 y148 true)))))))) else (redpencillaw05_known.j1 kj4 y138 y143 y148 true)) = some true := H
      have A169 := Aside0.mk A1690
      clear A1690
      by_cases c170 : t193 = true
      ·
       subst c170
       have H1 : ((redpencillaw05_of.f 1 4).bind fun bt194 => ((redpencillaw05_of.f 2 1).bind fun bt196 => ((redpencillaw05_of.f 1 4).bind fun bt201 => ((redpencillaw05_of.f 2 1).bind fun bt203 => ((redpencillaw05_of.f 3 7).bind fun bt205 => ((redpencillaw05_merged.f kj4 y138 (([(⟨bt194.1, bt194.2⟩ : S25), (⟨bt196.1, bt196.2⟩ : S25)] : List (S25))) (([(⟨bt201.1, bt201.2⟩ : S25), (⟨bt203.1, bt203.2⟩ : S25), (⟨bt205.1, bt205.2⟩ : S25)] : List (S25))) 0).bind fun t210 => (if t210 = true then ((redpencillaw05_of.f 3 7).bind fun bt211 => ((redpencillaw05_of.f 1 2).bind fun bt213 => ((redpencillaw05_merged.f kj4 (([(⟨bt211.1, bt211.2⟩ : S25), (⟨bt213.1, bt213.2⟩ : S25)] : List (S25))) ([] : List (S25)) ([] : List (S25)) 2).bind fun t218 => (redpencillaw05_known.j1 kj4 y138 y143 y148 (!t218))))) else (redpencillaw05_known.j1 kj4 y138 y143 y148 true)))))))) = some true := by rw [if_pos rfl] at H; exact H
       clear H
       have H := H1
       clear H1
       replace H := Option.bind_eq_some_iff.mp H
       obtain ⟨⟨t194, t195⟩, A1710, H⟩ := H
       replace H : ((redpencillaw05_of.f 2 1).bind fun bt196 => ((redpencillaw05_of.f 1 4).bind fun bt201 => ((redpencillaw05_of.f 2 1).bind fun bt203 => ((redpencillaw05_of.f 3 7).bind fun bt205 => ((redpencillaw05_merged.f kj4 y138 (([(⟨t194, t195⟩ : S25), (⟨bt196.1, bt196.2⟩ : S25)] : List (S25))) (([(⟨bt201.1, bt201.2⟩ : S25), (⟨bt203.1, bt203.2⟩ : S25), (⟨bt205.1, bt205.2⟩ : S25)] : List (S25))) 0).bind fun t210 => (if t210 = true then ((redpencillaw05_of.f 3 7).bind fun bt211 => ((redpencillaw05_of.f 1 2).bind fun bt213 => ((redpencillaw05_merged.f kj4 (([(⟨bt211.1, bt211.2⟩ : S25), (⟨bt213.1, bt213.2⟩ : S25)] : List (S25))) ([] : List (S25)) ([] : List (S25)) 2).bind fun t218 => (redpencillaw05_known.j1 kj4 y138 y143 y148 (!t218))))) else (redpencillaw05_known.j1 kj4 y138 y143 y148 true))))))) = some true := H
       have A171 := Aside0.mk A1710
       clear A1710
       replace H := Option.bind_eq_some_iff.mp H
       obtain ⟨⟨t196, t197⟩, A1720, H⟩ := H
       replace H : ((redpencillaw05_of.f 1 4).bind fun bt201 => ((redpencillaw05_of.f 2 1).bind fun bt203 => ((redpencillaw05_of.f 3 7).bind fun bt205 => ((redpencillaw05_merged.f kj4 y138 (([(⟨t194, t195⟩ : S25), (⟨t196, t197⟩ : S25)] : List (S25))) (([(⟨bt201.1, bt201.2⟩ : S25), (⟨bt203.1, bt203.2⟩ : S25), (⟨bt205.1, bt205.2⟩ : S25)] : List (S25))) 0).bind fun t210 => (if t210 = true then ((redpencillaw05_of.f 3 7).bind fun bt211 => ((redpencillaw05_of.f 1 2).bind fun bt213 => ((redpencillaw05_merged.f kj4 (([(⟨bt211.1, bt211.2⟩ : S25), (⟨bt213.1, bt213.2⟩ : S25)] : List (S25))) ([] : List (S25)) ([] : List (S25)) 2).bind fun t218 => (redpencillaw05_known.j1 kj4 y138 y143 y148 (!t218))))) else (redpencillaw05_known.j1 kj4 y138 y143 y148 true)))))) = some true := H
       have A172 := Aside0.mk A1720
       clear A1720
       obtain ⟨y198, hy198⟩ : ∃ y_ : List (S25), y_ = (([(⟨t194, t195⟩ : S25), (⟨t196, t197⟩ : S25)] : List (S25))) := ⟨_, rfl⟩
       replace H : ((redpencillaw05_of.f 1 4).bind fun bt201 => ((redpencillaw05_of.f 2 1).bind fun bt203 => ((redpencillaw05_of.f 3 7).bind fun bt205 => ((redpencillaw05_merged.f kj4 y138 y198 (([(⟨bt201.1, bt201.2⟩ : S25), (⟨bt203.1, bt203.2⟩ : S25), (⟨bt205.1, bt205.2⟩ : S25)] : List (S25))) 0).bind fun t210 => (if t210 = true then ((redpencillaw05_of.f 3 7).bind fun bt211 => ((redpencillaw05_of.f 1 2).bind fun bt213 => ((redpencillaw05_merged.f kj4 (([(⟨bt211.1, bt211.2⟩ : S25), (⟨bt213.1, bt213.2⟩ : S25)] : List (S25))) ([] : List (S25)) ([] : List (S25)) 2).bind fun t218 => (redpencillaw05_known.j1 kj4 y138 y143 y148 (!t218))))) else (redpencillaw05_known.j1 kj4 y138 y143 y148 true)))))) = some true := by first | (rw [hy198]; with_reducible exact H) | (have H2_ := (Option.bind_some _ _).symm.trans H; rw [hy198]; with_reducible exact H2_) | (have H2_ := (Option.bind_some _ _).symm.trans H; with_reducible exact H2_) | with_reducible exact H | (rw [hy198]; exact H) | exact H
       have Ny198 := Aside0.mk hy198
       clear hy198
       replace H := Option.bind_eq_some_iff.mp H
       obtain ⟨⟨t201, t202⟩, A1730, H⟩ := H
       replace H : ((redpencillaw05_of.f 2 1).bind fun bt203 => ((redpencillaw05_of.f 3 7).bind fun bt205 => ((redpencillaw05_merged.f kj4 y138 y198 (([(⟨t201, t202⟩ : S25), (⟨bt203.1, bt203.2⟩ : S25), (⟨bt205.1, bt205.2⟩ : S25)] : List (S25))) 0).bind fun t210 => (if t210 = true then ((redpencillaw05_of.f 3 7).bind fun bt211 => ((redpencillaw05_of.f 1 2).bind fun bt213 => ((redpencillaw05_merged.f kj4 (([(⟨bt211.1, bt211.2⟩ : S25), (⟨bt213.1, bt213.2⟩ : S25)] : List (S25))) ([] : List (S25)) ([] : List (S25)) 2).bind fun t218 => (redpencillaw05_known.j1 kj4 y138 y143 y148 (!t218))))) else (redpencillaw05_known.j1 kj4 y138 y143 y148 true))))) = some true := H
       have A173 := Aside0.mk A1730
       clear A1730
       replace H := Option.bind_eq_some_iff.mp H
       obtain ⟨⟨t203, t204⟩, A1740, H⟩ := H
       replace H : ((redpencillaw05_of.f 3 7).bind fun bt205 => ((redpencillaw05_merged.f kj4 y138 y198 (([(⟨t201, t202⟩ : S25), (⟨t203, t204⟩ : S25), (⟨bt205.1, bt205.2⟩ : S25)] : List (S25))) 0).bind fun t210 => (if t210 = true then ((redpencillaw05_of.f 3 7).bind fun bt211 => ((redpencillaw05_of.f 1 2).bind fun bt213 => ((redpencillaw05_merged.f kj4 (([(⟨bt211.1, bt211.2⟩ : S25), (⟨bt213.1, bt213.2⟩ : S25)] : List (S25))) ([] : List (S25)) ([] : List (S25)) 2).bind fun t218 => (redpencillaw05_known.j1 kj4 y138 y143 y148 (!t218))))) else (redpencillaw05_known.j1 kj4 y138 y143 y148 true)))) = some true := H
       have A174 := Aside0.mk A1740
       clear A1740
       replace H := Option.bind_eq_some_iff.mp H
       obtain ⟨⟨t205, t206⟩, A1750, H⟩ := H
       replace H : ((redpencillaw05_merged.f kj4 y138 y198 (([(⟨t201, t202⟩ : S25), (⟨t203, t204⟩ : S25), (⟨t205, t206⟩ : S25)] : List (S25))) 0).bind fun t210 => (if t210 = true then ((redpencillaw05_of.f 3 7).bind fun bt211 => ((redpencillaw05_of.f 1 2).bind fun bt213 => ((redpencillaw05_merged.f kj4 (([(⟨bt211.1, bt211.2⟩ : S25), (⟨bt213.1, bt213.2⟩ : S25)] : List (S25))) ([] : List (S25)) ([] : List (S25)) 2).bind fun t218 => (redpencillaw05_known.j1 kj4 y138 y143 y148 (!t218))))) else (redpencillaw05_known.j1 kj4 y138 y143 y148 true))) = some true := H
       have A175 := Aside0.mk A1750
       clear A1750
       obtain ⟨y207, hy207⟩ : ∃ y_ : List (S25), y_ = (([(⟨t201, t202⟩ : S25), (⟨t203, t204⟩ : S25), (⟨t205, t206⟩ : S25)] : List (S25))) := ⟨_, rfl⟩
       replace H : ((redpencillaw05_merged.f kj4 y138 y198 y207 0).bind fun t210 => (if t210 = true then ((redpencillaw05_of.f 3 7).bind fun bt211 => ((redpencillaw05_of.f 1 2).bind fun bt213 => ((redpencillaw05_merged.f kj4 (([(⟨bt211.1, bt211.2⟩ : S25), (⟨bt213.1, bt213.2⟩ : S25)] : List (S25))) ([] : List (S25)) ([] : List (S25)) 2).bind fun t218 => (redpencillaw05_known.j1 kj4 y138 y143 y148 (!t218))))) else (redpencillaw05_known.j1 kj4 y138 y143 y148 true))) = some true := by first | (rw [hy207]; with_reducible exact H) | (have H2_ := (Option.bind_some _ _).symm.trans H; rw [hy207]; with_reducible exact H2_) | (have H2_ := (Option.bind_some _ _).symm.trans H; with_reducible exact H2_) | with_reducible exact H | (rw [hy207]; exact H) | exact H
       have Ny207 := Aside0.mk hy207
       clear hy207
       replace H := Option.bind_eq_some_iff.mp H
       obtain ⟨t210, A1760, H⟩ := H
       replace H : (if t210 = true then ((redpencillaw05_of.f 3 7).bind fun bt211 => ((redpencillaw05_of.f 1 2).bind fun bt213 => ((redpencillaw05_merged.f kj4 (([(⟨bt211.1, bt211.2⟩ : S25), (⟨bt213.1, bt213.2⟩ : S25)] : List (S25))) ([] : List (S25)) ([] : List (S25)) 2).bind fun t218 => (redpencillaw05_known.j1 kj4 y138 y143 y148 (!t218))))) else (redpencillaw05_known.j1 kj4 y138 y143 y148 true)) = some true := H
       have A176 := Aside0.mk A1760
       clear A1760
       by_cases c177 : t210 = true
       ·
        subst c177
        have H1 : ((redpencillaw05_of.f 3 7).bind fun bt211 => ((redpencillaw05_of.f 1 2).bind fun bt213 => ((redpencillaw05_merged.f kj4 (([(⟨bt211.1, bt211.2⟩ : S25), (⟨bt213.1, bt213.2⟩ : S25)] : List (S25))) ([] : List (S25)) ([] : List (S25)) 2).bind fun t218 => (redpencillaw05_known.j1 kj4 y138 y143 y148 (!t218))))) = some true := by rw [if_pos rfl] at H; exact H
        clear H
        have H := H1
        clear H1
        replace H := Option.bind_eq_some_iff.mp H
        obtain ⟨⟨t211, t212⟩, A1780, H⟩ := H
        replace H : ((redpencillaw05_of.f 1 2).bind fun bt213 => ((redpencillaw05_merged.f kj4 (([(⟨t211, t212⟩ : S25), (⟨bt213.1, bt213.2⟩ : S25)] : List (S25))) ([] : List (S25)) ([] : List (S25)) 2).bind fun t218 => (redpencillaw05_known.j1 kj4 y138 y143 y148 (!t218)))) = some true := H
        have A178 := Aside0.mk A1780
        clear A1780
        replace H := Option.bind_eq_some_iff.mp H
        obtain ⟨⟨t213, t214⟩, A1790, H⟩ := H
        replace H : ((redpencillaw05_merged.f kj4 (([(⟨t211, t212⟩ : S25), (⟨t213, t214⟩ : S25)] : List (S25))) ([] : List (S25)) ([] : List (S25)) 2).bind fun t218 => (redpencillaw05_known.j1 kj4 y138 y143 y148 (!t218))) = some true := H
        have A179 := Aside0.mk A1790
        clear A1790
        obtain ⟨y215, hy215⟩ : ∃ y_ : List (S25), y_ = (([(⟨t211, t212⟩ : S25), (⟨t213, t214⟩ : S25)] : List (S25))) := ⟨_, rfl⟩
        replace H : ((redpencillaw05_merged.f kj4 y215 ([] : List (S25)) ([] : List (S25)) 2).bind fun t218 => (redpencillaw05_known.j1 kj4 y138 y143 y148 (!t218))) = some true := by first | (rw [hy215]; with_reducible exact H) | (have H2_ := (Option.bind_some _ _).symm.trans H; rw [hy215]; with_reducible exact H2_) | (have H2_ := (Option.bind_some _ _).symm.trans H; with_reducible exact H2_) | with_reducible exact H | (rw [hy215]; exact H) | exact H
        have Ny215 := Aside0.mk hy215
        clear hy215
        replace H := Option.bind_eq_some_iff.mp H
        obtain ⟨t218, A1800, H⟩ := H
        replace H : (redpencillaw05_known.j1 kj4 y138 y143 y148 (!t218)) = some true := H
        have A180 := Aside0.mk A1800
        clear A1800
        have H' := Aside0.mk H
        clear H
        go_wp2_with (first | ((with_reducible refine gate_callee (f := 33) rfl ?_); refine goesL_ (some 55) rfl rfl Tryz.func33 (by kernel_rfl) rfl #[.int .i64 2, .int .i64 5] rfl (by (try simp only [List.map_toArray, List.map_cons, List.map_nil]); first | done | rfl | (simp only [List.length_drop, List.length_take]; rfl)) ?_; (with_reducible refine (redpencillaw05_of.calls 2 5 t179 t180 _ A162.out).mono ?_); rintro e w181 ⟨rfl, hb⟩; (try clear A162); refine ⟨_, rfl, ?_⟩; have n0_ := Aside0.mk (Kd.R_below (by (with_reducible repeat (first | apply Kd.R_alloc | apply Kd.R_drewN | apply Kd.R_drew)); exact HO_1.out) hb); have n1_ := Aside0.mk (Kd.R_below (by (with_reducible repeat (first | apply Kd.R_alloc | apply Kd.R_drewN | apply Kd.R_drew)); exact HO_2.out) hb); have n2_ := Aside0.mk (Kd.R_below (by (with_reducible repeat (first | apply Kd.R_alloc | apply Kd.R_drewN | apply Kd.R_drew)); exact HO_3.out) hb); have n3_ := Aside0.mk (below_step (by repeat (first | (with_reducible first | exact HB.out | apply below_alloc | apply pw_below_drewN | apply below_drew1) | exact HB.out)) hb); clear HO_1; clear HO_2; clear HO_3; clear HB; have HO_1 := n0_; have HO_2 := n1_; have HO_3 := n2_; have HB := n3_; clear n0_ n1_ n2_ n3_; (try clear hb); (try clear hb2); (try clear hk); (try clear hi)) | ((with_reducible refine gate_callee (f := 33) rfl ?_); refine goesL_ (some 56) rfl rfl Tryz.func33 (by kernel_rfl) rfl #[.int .i64 1, .int .i64 2] rfl (by (try simp only [List.map_toArray, List.map_cons, List.map_nil]); first | done | rfl | (simp only [List.length_drop, List.length_take]; rfl)) ?_; (with_reducible refine (redpencillaw05_of.calls 1 2 t181 t182 _ A163.out).mono ?_); rintro e w182 ⟨rfl, hb⟩; (try clear A163); refine ⟨_, rfl, ?_⟩; have n0_ := Aside0.mk (Kd.R_below (by (with_reducible repeat (first | apply Kd.R_alloc | apply Kd.R_drewN | apply Kd.R_drew)); exact HO_1.out) hb); have n1_ := Aside0.mk (Kd.R_below (by (with_reducible repeat (first | apply Kd.R_alloc | apply Kd.R_drewN | apply Kd.R_drew)); exact HO_2.out) hb); have n2_ := Aside0.mk (Kd.R_below (by (with_reducible repeat (first | apply Kd.R_alloc | apply Kd.R_drewN | apply Kd.R_drew)); exact HO_3.out) hb); have n3_ := Aside0.mk (below_step (by repeat (first | (with_reducible first | exact HB.out | apply below_alloc | apply pw_below_drewN | apply below_drew1) | exact HB.out)) hb); clear HO_1; clear HO_2; clear HO_3; clear HB; have HO_1 := n0_; have HO_2 := n1_; have HO_3 := n2_; have HB := n3_; clear n0_ n1_ n2_ n3_; (try clear hb); (try clear hb2); (try clear hk); (try clear hi)) | ((with_reducible refine gate_callee (f := 33) rfl ?_); refine goesL_ (some 57) rfl rfl Tryz.func33 (by kernel_rfl) rfl #[.int .i64 2, .int .i64 5] rfl (by (try simp only [List.map_toArray, List.map_cons, List.map_nil]); first | done | rfl | (simp only [List.length_drop, List.length_take]; rfl)) ?_; (with_reducible refine (redpencillaw05_of.calls 2 5 t183 t184 _ A164.out).mono ?_); rintro e w183 ⟨rfl, hb⟩; (try clear A164); refine ⟨_, rfl, ?_⟩; have n0_ := Aside0.mk (Kd.R_below (by (with_reducible repeat (first | apply Kd.R_alloc | apply Kd.R_drewN | apply Kd.R_drew)); exact HO_1.out) hb); have n1_ := Aside0.mk (Kd.R_below (by (with_reducible repeat (first | apply Kd.R_alloc | apply Kd.R_drewN | apply Kd.R_drew)); exact HO_2.out) hb); have n2_ := Aside0.mk (Kd.R_below (by (with_reducible repeat (first | apply Kd.R_alloc | apply Kd.R_drewN | apply Kd.R_drew)); exact HO_3.out) hb); have n3_ := Aside0.mk (below_step (by repeat (first | (with_reducible first | exact HB.out | apply below_alloc | apply pw_below_drewN | apply below_drew1) | exact HB.out)) hb); clear HO_1; clear HO_2; clear HO_3; clear HB; have HO_1 := n0_; have HO_2 := n1_; have HO_3 := n2_; have HB := n3_; clear n0_ n1_ n2_ n3_; (try clear hb); (try clear hb2); (try clear hk); (try clear hi)) | ((with_reducible refine gate_callee (f := 33) rfl ?_); refine goesL_ (some 58) rfl rfl Tryz.func33 (by kernel_rfl) rfl #[.int .i64 3, .int .i64 7] rfl (by (try simp only [List.map_toArray, List.map_cons, List.map_nil]); first | done | rfl | (simp only [List.length_drop, List.length_take]; rfl)) ?_; (with_reducible refine (redpencillaw05_of.calls 3 7 t185 t186 _ A165.out).mono ?_); rintro e w184 ⟨rfl, hb⟩; (try clear A165); refine ⟨_, rfl, ?_⟩; have n0_ := Aside0.mk (Kd.R_below (by (with_reducible repeat (first | apply Kd.R_alloc | apply Kd.R_drewN | apply Kd.R_drew)); exact HO_1.out) hb); have n1_ := Aside0.mk (Kd.R_below (by (with_reducible repeat (first | apply Kd.R_alloc | apply Kd.R_drewN | apply Kd.R_drew)); exact HO_2.out) hb); have n2_ := Aside0.mk (Kd.R_below (by (with_reducible repeat (first | apply Kd.R_alloc | apply Kd.R_drewN | apply Kd.R_drew)); exact HO_3.out) hb); have n3_ := Aside0.mk (below_step (by repeat (first | (with_reducible first | exact HB.out | apply below_alloc | apply pw_below_drewN | apply below_drew1) | exact HB.out)) hb); clear HO_1; clear HO_2; clear HO_3; clear HB; have HO_1 := n0_; have HO_2 := n1_; have HO_3 := n2_; have HB := n3_; clear n0_ n1_ n2_ n3_; (try clear hb); (try clear hb2); (try clear hk); (try clear hi)) | ((with_reducible refine gate_dst (N := 59) rfl ?_); (try (refine gate_guard (by rfl) ?_; dsimp only)); refine Kd.R_lit k25 _ 25 ?hg (N := 59) ?hd (xs := ([(⟨t181, t182⟩ : S25), (⟨t183, t184⟩ : S25), (⟨t185, t186⟩ : S25)] : List (S25))) (inner := [.int .i64 t181, .int .i64 t182, .int .i64 t183, .int .i64 t184, .int .i64 t185, .int .i64 t186]) (ok := fun _ => True) (okp := fun _ => True) ?hr ?hp (fun _ hk => hk) trivial (Below.refl _ _) (Nat.le_refl _) (by simp) ?_; (case hd => rfl); (case hg => rfl); (case hr => first | (go_simp; done) | (go_simp; rfl)); (case hp => exact (Reps.c2 (show Kd.M k25 _ _ _ (⟨t181, t182⟩ : S25) [.int .i64 t181, .int .i64 t182] from (k25_mkM _ _ _ (⟨t181, t182⟩ : S25) )) (Reps.c2 (show Kd.M k25 _ _ _ (⟨t183, t184⟩ : S25) [.int .i64 t183, .int .i64 t184] from (k25_mkM _ _ _ (⟨t183, t184⟩ : S25) )) (Reps.c2 (show Kd.M k25 _ _ _ (⟨t185, t186⟩ : S25) [.int .i64 t185, .int .i64 t186] from (k25_mkM _ _ _ (⟨t185, t186⟩ : S25) )) (Reps.none _ _))))); intro v188 w185 ho186 hb hg_ hnew_; clear hg_ hnew_; (first | rw [← Ny187.out] at ho186 | (simp only [Int.reduceToNat] at ho186; rw [← Ny187.out] at ho186)); have n0_ := Aside0.mk (Kd.R_elder' (by (with_reducible repeat (first | apply Kd.R_alloc | apply Kd.R_drewN | apply Kd.R_drew)); exact HO_1.out) (Kd.R_base ho186) hb); have n1_ := Aside0.mk (Kd.R_elder' (by (with_reducible repeat (first | apply Kd.R_alloc | apply Kd.R_drewN | apply Kd.R_drew)); exact HO_2.out) (Kd.R_base ho186) hb); have n2_ := Aside0.mk (Kd.R_elder' (by (with_reducible repeat (first | apply Kd.R_alloc | apply Kd.R_drewN | apply Kd.R_drew)); exact HO_3.out) (Kd.R_base ho186) hb); have n3_ := Aside0.mk (Kd.R_lower (Kd.R_new' (Kd.R_new' (Kd.R_new' ho186 (Kd.R_lt (by (with_reducible repeat (first | apply Kd.R_alloc | apply Kd.R_drewN | apply Kd.R_drew)); exact HO_1.out))) (Kd.R_lt (by (with_reducible repeat (first | apply Kd.R_alloc | apply Kd.R_drewN | apply Kd.R_drew)); exact HO_2.out))) (Kd.R_lt (by (with_reducible repeat (first | apply Kd.R_alloc | apply Kd.R_drewN | apply Kd.R_drew)); exact HO_3.out))) (below_size (by repeat (first | (with_reducible first | exact HB.out | apply below_alloc | apply pw_below_drewN | apply below_drew1) | exact HB.out)))); have n4_ := Aside0.mk (below_step (by repeat (first | (with_reducible first | exact HB.out | apply below_alloc | apply pw_below_drewN | apply below_drew1) | exact HB.out)) hb); clear HO_1; clear HO_2; clear HO_3; clear HB; have HO_1 := n0_; have HO_2 := n1_; have HO_3 := n2_; have HO189 := n3_; have HB := n4_; clear n0_ n1_ n2_ n3_ n4_; clear hb ho186; obtain ⟨Ao187, co187, eo187⟩ := Kd.R_slice HO_1.out; subst eo187; obtain ⟨Ao188, co188, eo188⟩ := Kd.R_slice HO189.out; subst eo188) | ((with_reducible refine gate_callee (f := 19) rfl ?_); refine goesL_ (some 60) rfl rfl Tryz.func19 (by kernel_rfl) rfl #[.slice Ao187 y138.length co187, .agg #[.int .i64 t179, .int .i64 t180], .slice Ao188 y187.length co188, .int .i64 0] rfl (by (try simp only [List.map_toArray, List.map_cons, List.map_nil]); first | done | rfl | (simp only [List.length_drop, List.length_take]; rfl)) ?_; (with_reducible refine (redpencillaw05_raised.calls kj4 _ _ y138 t179 t180 _ _ y187 0 true _ ?side1 ?side2 ?side3 ?side4 A166.out).mono ?_); (case side1 => repeat (first | exact (Kd.R_reads' HO_1.out).2.2 | (with_reducible refine Kd.C_alloc ?_ _) | (with_reducible refine Kd.C_drewN ?_ _) | (with_reducible refine Kd.C_drew ?_))); (case side2 => exact (Kd.R_reads' HO_1.out).2.1); (case side3 => repeat (first | exact (Kd.R_reads' HO189.out).2.2 | (with_reducible refine Kd.C_alloc ?_ _) | (with_reducible refine Kd.C_drewN ?_ _) | (with_reducible refine Kd.C_drew ?_))); (case side4 => exact (Kd.R_reads' HO189.out).2.1); rintro e w189 ⟨rfl, hb⟩; (try clear A166); refine ⟨_, rfl, ?_⟩; have n0_ := Aside0.mk (Kd.R_below (by (with_reducible repeat (first | apply Kd.R_alloc | apply Kd.R_drewN | apply Kd.R_drew)); exact HO_1.out) hb); have n1_ := Aside0.mk (Kd.R_below (by (with_reducible repeat (first | apply Kd.R_alloc | apply Kd.R_drewN | apply Kd.R_drew)); exact HO_2.out) hb); have n2_ := Aside0.mk (Kd.R_below (by (with_reducible repeat (first | apply Kd.R_alloc | apply Kd.R_drewN | apply Kd.R_drew)); exact HO_3.out) hb); have n3_ := Aside0.mk (Kd.R_below (by (with_reducible repeat (first | apply Kd.R_alloc | apply Kd.R_drewN | apply Kd.R_drew)); exact HO189.out) hb); have n4_ := Aside0.mk (below_step (by repeat (first | (with_reducible first | exact HB.out | apply below_alloc | apply pw_below_drewN | apply below_drew1) | exact HB.out)) hb); clear HO_1; clear HO_2; clear HO_3; clear HO189; clear HB; have HO_1 := n0_; have HO_2 := n1_; have HO_3 := n2_; have HO189 := n3_; have HB := n4_; clear n0_ n1_ n2_ n3_ n4_; (try clear hb); (try clear hb2); (try clear hk); (try clear hi)) | (go_at_call 33; (with_reducible refine (redpencillaw05_of.calls 3 5 t191 t192 _ A168.out).mono ?_); rintro e w190 ⟨rfl, hb⟩; (try clear A168); have n0_ := Aside0.mk (Kd.R_below (by (with_reducible repeat (first | apply Kd.R_alloc | apply Kd.R_drewN | apply Kd.R_drew)); exact HO_1.out) hb); have n1_ := Aside0.mk (Kd.R_below (by (with_reducible repeat (first | apply Kd.R_alloc | apply Kd.R_drewN | apply Kd.R_drew)); exact HO_2.out) hb); have n2_ := Aside0.mk (Kd.R_below (by (with_reducible repeat (first | apply Kd.R_alloc | apply Kd.R_drewN | apply Kd.R_drew)); exact HO_3.out) hb); have n3_ := Aside0.mk (Kd.R_below (by (with_reducible repeat (first | apply Kd.R_alloc | apply Kd.R_drewN | apply Kd.R_drew)); exact HO189.out) hb); have n4_ := Aside0.mk (below_step (by repeat (first | (with_reducible first | exact HB.out | apply below_alloc | apply pw_below_drewN | apply below_drew1) | exact HB.out)) hb); clear HO_1; clear HO_2; clear HO_3; clear HO189; clear HB; have HO_1 := n0_; have HO_2 := n1_; have HO_3 := n2_; have HO189 := n3_; have HB := n4_; clear n0_ n1_ n2_ n3_ n4_; (try clear hb); (try clear hb2); (try clear hk); (try clear hi)) | (go_at_call 19; (with_reducible refine (redpencillaw05_raised.calls kj4 _ _ y138 t191 t192 _ _ y138 0 true _ ?side1 ?side2 ?side3 ?side4 A169.out).mono ?_); (case side1 => repeat (first | exact (Kd.R_reads' HO_1.out).2.2 | (with_reducible refine Kd.C_alloc ?_ _) | (with_reducible refine Kd.C_drewN ?_ _) | (with_reducible refine Kd.C_drew ?_))); (case side2 => exact (Kd.R_reads' HO_1.out).2.1); (case side3 => repeat (first | exact (Kd.R_reads' HO_1.out).2.2 | (with_reducible refine Kd.C_alloc ?_ _) | (with_reducible refine Kd.C_drewN ?_ _) | (with_reducible refine Kd.C_drew ?_))); (case side4 => exact (Kd.R_reads' HO_1.out).2.1); rintro e w191 ⟨rfl, hb⟩; (try clear A169); have n0_ := Aside0.mk (Kd.R_below (by (with_reducible repeat (first | apply Kd.R_alloc | apply Kd.R_drewN | apply Kd.R_drew)); exact HO_1.out) hb); have n1_ := Aside0.mk (Kd.R_below (by (with_reducible repeat (first | apply Kd.R_alloc | apply Kd.R_drewN | apply Kd.R_drew)); exact HO_2.out) hb); have n2_ := Aside0.mk (Kd.R_below (by (with_reducible repeat (first | apply Kd.R_alloc | apply Kd.R_drewN | apply Kd.R_drew)); exact HO_3.out) hb); have n3_ := Aside0.mk (Kd.R_below (by (with_reducible repeat (first | apply Kd.R_alloc | apply Kd.R_drewN | apply Kd.R_drew)); exact HO189.out) hb); have n4_ := Aside0.mk (below_step (by repeat (first | (with_reducible first | exact HB.out | apply below_alloc | apply pw_below_drewN | apply below_drew1) | exact HB.out)) hb); clear HO_1; clear HO_2; clear HO_3; clear HO189; clear HB; have HO_1 := n0_; have HO_2 := n1_; have HO_3 := n2_; have HO189 := n3_; have HB := n4_; clear n0_ n1_ n2_ n3_ n4_; (try clear hb); (try clear hb2); (try clear hk); (try clear hi)) | (go_at_call 33; (with_reducible refine (redpencillaw05_of.calls 1 4 t194 t195 _ A171.out).mono ?_); rintro e w192 ⟨rfl, hb⟩; (try clear A171); have n0_ := Aside0.mk (Kd.R_below (by (with_reducible repeat (first | apply Kd.R_alloc | apply Kd.R_drewN | apply Kd.R_drew)); exact HO_1.out) hb); have n1_ := Aside0.mk (Kd.R_below (by (with_reducible repeat (first | apply Kd.R_alloc | apply Kd.R_drewN | apply Kd.R_drew)); exact HO_2.out) hb); have n2_ := Aside0.mk (Kd.R_below (by (with_reducible repeat (first | apply Kd.R_alloc | apply Kd.R_drewN | apply Kd.R_drew)); exact HO_3.out) hb); have n3_ := Aside0.mk (Kd.R_below (by (with_reducible repeat (first | apply Kd.R_alloc | apply Kd.R_drewN | apply Kd.R_drew)); exact HO189.out) hb); have n4_ := Aside0.mk (below_step (by repeat (first | (with_reducible first | exact HB.out | apply below_alloc | apply pw_below_drewN | apply below_drew1) | exact HB.out)) hb); clear HO_1; clear HO_2; clear HO_3; clear HO189; clear HB; have HO_1 := n0_; have HO_2 := n1_; have HO_3 := n2_; have HO189 := n3_; have HB := n4_; clear n0_ n1_ n2_ n3_ n4_; (try clear hb); (try clear hb2); (try clear hk); (try clear hi)) | (go_at_call 33; (with_reducible refine (redpencillaw05_of.calls 2 1 t196 t197 _ A172.out).mono ?_); rintro e w193 ⟨rfl, hb⟩; (try clear A172); have n0_ := Aside0.mk (Kd.R_below (by (with_reducible repeat (first | apply Kd.R_alloc | apply Kd.R_drewN | apply Kd.R_drew)); exact HO_1.out) hb); have n1_ := Aside0.mk (Kd.R_below (by (with_reducible repeat (first | apply Kd.R_alloc | apply Kd.R_drewN | apply Kd.R_drew)); exact HO_2.out) hb); have n2_ := Aside0.mk (Kd.R_below (by (with_reducible repeat (first | apply Kd.R_alloc | apply Kd.R_drewN | apply Kd.R_drew)); exact HO_3.out) hb); have n3_ := Aside0.mk (Kd.R_below (by (with_reducible repeat (first | apply Kd.R_alloc | apply Kd.R_drewN | apply Kd.R_drew)); exact HO189.out) hb); have n4_ := Aside0.mk (below_step (by repeat (first | (with_reducible first | exact HB.out | apply below_alloc | apply pw_below_drewN | apply below_drew1) | exact HB.out)) hb); clear HO_1; clear HO_2; clear HO_3; clear HO189; clear HB; have HO_1 := n0_; have HO_2 := n1_; have HO_3 := n2_; have HO189 := n3_; have HB := n4_; clear n0_ n1_ n2_ n3_ n4_; (try clear hb); (try clear hb2); (try clear hk); (try clear hi)) | ((with_reducible refine gate_dst (N := 73) rfl ?_); (try (refine gate_guard (by rfl) ?_; dsimp only)); refine Kd.R_lit k25 _ 25 ?hg (N := 73) ?hd (xs := ([(⟨t194, t195⟩ : S25), (⟨t196, t197⟩ : S25)] : List (S25))) (inner := [.int .i64 t194, .int .i64 t195, .int .i64 t196, .int .i64 t197]) (ok := fun _ => True) (okp := fun _ => True) ?hr ?hp (fun _ hk => hk) trivial (Below.refl _ _) (Nat.le_refl _) (by simp) ?_; (case hd => rfl); (case hg => rfl); (case hr => first | (go_simp; done) | (go_simp; rfl)); (case hp => exact (Reps.c2 (show Kd.M k25 _ _ _ (⟨t194, t195⟩ : S25) [.int .i64 t194, .int .i64 t195] from (k25_mkM _ _ _ (⟨t194, t195⟩ : S25) )) (Reps.c2 (show Kd.M k25 _ _ _ (⟨t196, t197⟩ : S25) [.int .i64 t196, .int .i64 t197] from (k25_mkM _ _ _ (⟨t196, t197⟩ : S25) )) (Reps.none _ _)))); intro v199 w194 ho195 hb hg_ hnew_; clear hg_ hnew_; (first | rw [← Ny198.out] at ho195 | (simp only [Int.reduceToNat] at ho195; rw [← Ny198.out] at ho195)); have n0_ := Aside0.mk (Kd.R_elder' (by (with_reducible repeat (first | apply Kd.R_alloc | apply Kd.R_drewN | apply Kd.R_drew)); exact HO_1.out) (Kd.R_base ho195) hb); have n1_ := Aside0.mk (Kd.R_elder' (by (with_reducible repeat (first | apply Kd.R_alloc | apply Kd.R_drewN | apply Kd.R_drew)); exact HO_2.out) (Kd.R_base ho195) hb); have n2_ := Aside0.mk (Kd.R_elder' (by (with_reducible repeat (first | apply Kd.R_alloc | apply Kd.R_drewN | apply Kd.R_drew)); exact HO_3.out) (Kd.R_base ho195) hb); have n3_ := Aside0.mk (Kd.R_elder' (by (with_reducible repeat (first | apply Kd.R_alloc | apply Kd.R_drewN | apply Kd.R_drew)); exact HO189.out) (Kd.R_base ho195) hb); have n4_ := Aside0.mk (Kd.R_lower (Kd.R_new' (Kd.R_new' (Kd.R_new' (Kd.R_new' ho195 (Kd.R_lt (by (with_reducible repeat (first | apply Kd.R_alloc | apply Kd.R_drewN | apply Kd.R_drew)); exact HO_1.out))) (Kd.R_lt (by (with_reducible repeat (first | apply Kd.R_alloc | apply Kd.R_drewN | apply Kd.R_drew)); exact HO_2.out))) (Kd.R_lt (by (with_reducible repeat (first | apply Kd.R_alloc | apply Kd.R_drewN | apply Kd.R_drew)); exact HO_3.out))) (Kd.R_lt (by (with_reducible repeat (first | apply Kd.R_alloc | apply Kd.R_drewN | apply Kd.R_drew)); exact HO189.out))) (below_size (by repeat (first | (with_reducible first | exact HB.out | apply below_alloc | apply pw_below_drewN | apply below_drew1) | exact HB.out)))); have n5_ := Aside0.mk (below_step (by repeat (first | (with_reducible first | exact HB.out | apply below_alloc | apply pw_below_drewN | apply below_drew1) | exact HB.out)) hb); clear HO_1; clear HO_2; clear HO_3; clear HO189; clear HB; have HO_1 := n0_; have HO_2 := n1_; have HO_3 := n2_; have HO189 := n3_; have HO200 := n4_; have HB := n5_; clear n0_ n1_ n2_ n3_ n4_ n5_; clear hb ho195) | (go_at_call 33; (with_reducible refine (redpencillaw05_of.calls 1 4 t201 t202 _ A173.out).mono ?_); rintro e w196 ⟨rfl, hb⟩; (try clear A173); have n0_ := Aside0.mk (Kd.R_below (by (with_reducible repeat (first | apply Kd.R_alloc | apply Kd.R_drewN | apply Kd.R_drew)); exact HO_1.out) hb); have n1_ := Aside0.mk (Kd.R_below (by (with_reducible repeat (first | apply Kd.R_alloc | apply Kd.R_drewN | apply Kd.R_drew)); exact HO_2.out) hb); have n2_ := Aside0.mk (Kd.R_below (by (with_reducible repeat (first | apply Kd.R_alloc | apply Kd.R_drewN | apply Kd.R_drew)); exact HO_3.out) hb); have n3_ := Aside0.mk (Kd.R_below (by (with_reducible repeat (first | apply Kd.R_alloc | apply Kd.R_drewN | apply Kd.R_drew)); exact HO189.out) hb); have n4_ := Aside0.mk (Kd.R_below (by (with_reducible repeat (first | apply Kd.R_alloc | apply Kd.R_drewN | apply Kd.R_drew)); exact HO200.out) hb); have n5_ := Aside0.mk (below_step (by repeat (first | (with_reducible first | exact HB.out | apply below_alloc | apply pw_below_drewN | apply below_drew1) | exact HB.out)) hb); clear HO_1; clear HO_2; clear HO_3; clear HO189; clear HO200; clear HB; have HO_1 := n0_; have HO_2 := n1_; have HO_3 := n2_; have HO189 := n3_; have HO200 := n4_; have HB := n5_; clear n0_ n1_ n2_ n3_ n4_ n5_; (try clear hb); (try clear hb2); (try clear hk); (try clear hi)) | (go_at_call 33; (with_reducible refine (redpencillaw05_of.calls 2 1 t203 t204 _ A174.out).mono ?_); rintro e w197 ⟨rfl, hb⟩; (try clear A174); have n0_ := Aside0.mk (Kd.R_below (by (with_reducible repeat (first | apply Kd.R_alloc | apply Kd.R_drewN | apply Kd.R_drew)); exact HO_1.out) hb); have n1_ := Aside0.mk (Kd.R_below (by (with_reducible repeat (first | apply Kd.R_alloc | apply Kd.R_drewN | apply Kd.R_drew)); exact HO_2.out) hb); have n2_ := Aside0.mk (Kd.R_below (by (with_reducible repeat (first | apply Kd.R_alloc | apply Kd.R_drewN | apply Kd.R_drew)); exact HO_3.out) hb); have n3_ := Aside0.mk (Kd.R_below (by (with_reducible repeat (first | apply Kd.R_alloc | apply Kd.R_drewN | apply Kd.R_drew)); exact HO189.out) hb); have n4_ := Aside0.mk (Kd.R_below (by (with_reducible repeat (first | apply Kd.R_alloc | apply Kd.R_drewN | apply Kd.R_drew)); exact HO200.out) hb); have n5_ := Aside0.mk (below_step (by repeat (first | (with_reducible first | exact HB.out | apply below_alloc | apply pw_below_drewN | apply below_drew1) | exact HB.out)) hb); clear HO_1; clear HO_2; clear HO_3; clear HO189; clear HO200; clear HB; have HO_1 := n0_; have HO_2 := n1_; have HO_3 := n2_; have HO189 := n3_; have HO200 := n4_; have HB := n5_; clear n0_ n1_ n2_ n3_ n4_ n5_; (try clear hb); (try clear hb2); (try clear hk); (try clear hi)) | (go_at_call 33; (with_reducible refine (redpencillaw05_of.calls 3 7 t205 t206 _ A175.out).mono ?_); rintro e w198 ⟨rfl, hb⟩; (try clear A175); have n0_ := Aside0.mk (Kd.R_below (by (with_reducible repeat (first | apply Kd.R_alloc | apply Kd.R_drewN | apply Kd.R_drew)); exact HO_1.out) hb); have n1_ := Aside0.mk (Kd.R_below (by (with_reducible repeat (first | apply Kd.R_alloc | apply Kd.R_drewN | apply Kd.R_drew)); exact HO_2.out) hb); have n2_ := Aside0.mk (Kd.R_below (by (with_reducible repeat (first | apply Kd.R_alloc | apply Kd.R_drewN | apply Kd.R_drew)); exact HO_3.out) hb); have n3_ := Aside0.mk (Kd.R_below (by (with_reducible repeat (first | apply Kd.R_alloc | apply Kd.R_drewN | apply Kd.R_drew)); exact HO189.out) hb); have n4_ := Aside0.mk (Kd.R_below (by (with_reducible repeat (first | apply Kd.R_alloc | apply Kd.R_drewN | apply Kd.R_drew)); exact HO200.out) hb); have n5_ := Aside0.mk (below_step (by repeat (first | (with_reducible first | exact HB.out | apply below_alloc | apply pw_below_drewN | apply below_drew1) | exact HB.out)) hb); clear HO_1; clear HO_2; clear HO_3; clear HO189; clear HO200; clear HB; have HO_1 := n0_; have HO_2 := n1_; have HO_3 := n2_; have HO189 := n3_; have HO200 := n4_; have HB := n5_; clear n0_ n1_ n2_ n3_ n4_ n5_; (try clear hb); (try clear hb2); (try clear hk); (try clear hi)) | ((with_reducible refine gate_dst (N := 77) rfl ?_); (try (refine gate_guard (by rfl) ?_; dsimp only)); refine Kd.R_lit k25 _ 25 ?hg (N := 77) ?hd (xs := ([(⟨t201, t202⟩ : S25), (⟨t203, t204⟩ : S25), (⟨t205, t206⟩ : S25)] : List (S25))) (inner := [.int .i64 t201, .int .i64 t202, .int .i64 t203, .int .i64 t204, .int .i64 t205, .int .i64 t206]) (ok := fun _ => True) (okp := fun _ => True) ?hr ?hp (fun _ hk => hk) trivial (Below.refl _ _) (Nat.le_refl _) (by simp) ?_; (case hd => rfl); (case hg => rfl); (case hr => first | (go_simp; done) | (go_simp; rfl)); (case hp => exact (Reps.c2 (show Kd.M k25 _ _ _ (⟨t201, t202⟩ : S25) [.int .i64 t201, .int .i64 t202] from (k25_mkM _ _ _ (⟨t201, t202⟩ : S25) )) (Reps.c2 (show Kd.M k25 _ _ _ (⟨t203, t204⟩ : S25) [.int .i64 t203, .int .i64 t204] from (k25_mkM _ _ _ (⟨t203, t204⟩ : S25) )) (Reps.c2 (show Kd.M k25 _ _ _ (⟨t205, t206⟩ : S25) [.int .i64 t205, .int .i64 t206] from (k25_mkM _ _ _ (⟨t205, t206⟩ : S25) )) (Reps.none _ _))))); intro v208 w199 ho200 hb hg_ hnew_; clear hg_ hnew_; (first | rw [← Ny207.out] at ho200 | (simp only [Int.reduceToNat] at ho200; rw [← Ny207.out] at ho200)); have n0_ := Aside0.mk (Kd.R_elder' (by (with_reducible repeat (first | apply Kd.R_alloc | apply Kd.R_drewN | apply Kd.R_drew)); exact HO_1.out) (Kd.R_base ho200) hb); have n1_ := Aside0.mk (Kd.R_elder' (by (with_reducible repeat (first | apply Kd.R_alloc | apply Kd.R_drewN | apply Kd.R_drew)); exact HO_2.out) (Kd.R_base ho200) hb); have n2_ := Aside0.mk (Kd.R_elder' (by (with_reducible repeat (first | apply Kd.R_alloc | apply Kd.R_drewN | apply Kd.R_drew)); exact HO_3.out) (Kd.R_base ho200) hb); have n3_ := Aside0.mk (Kd.R_elder' (by (with_reducible repeat (first | apply Kd.R_alloc | apply Kd.R_drewN | apply Kd.R_drew)); exact HO189.out) (Kd.R_base ho200) hb); have n4_ := Aside0.mk (Kd.R_elder' (by (with_reducible repeat (first | apply Kd.R_alloc | apply Kd.R_drewN | apply Kd.R_drew)); exact HO200.out) (Kd.R_base ho200) hb); have n5_ := Aside0.mk (Kd.R_lower (Kd.R_new' (Kd.R_new' (Kd.R_new' (Kd.R_new' (Kd.R_new' ho200 (Kd.R_lt (by (with_reducible repeat (first | apply Kd.R_alloc | apply Kd.R_drewN | apply Kd.R_drew)); exact HO_1.out))) (Kd.R_lt (by (with_reducible repeat (first | apply Kd.R_alloc | apply Kd.R_drewN | apply Kd.R_drew)); exact HO_2.out))) (Kd.R_lt (by (with_reducible repeat (first | apply Kd.R_alloc | apply Kd.R_drewN | apply Kd.R_drew)); exact HO_3.out))) (Kd.R_lt (by (with_reducible repeat (first | apply Kd.R_alloc | apply Kd.R_drewN | apply Kd.R_drew)); exact HO189.out))) (Kd.R_lt (by (with_reducible repeat (first | apply Kd.R_alloc | apply Kd.R_drewN | apply Kd.R_drew)); exact HO200.out))) (below_size (by repeat (first | (with_reducible first | exact HB.out | apply below_alloc | apply pw_below_drewN | apply below_drew1) | exact HB.out)))); have n6_ := Aside0.mk (below_step (by repeat (first | (with_reducible first | exact HB.out | apply below_alloc | apply pw_below_drewN | apply below_drew1) | exact HB.out)) hb); clear HO_1; clear HO_2; clear HO_3; clear HO189; clear HO200; clear HB; have HO_1 := n0_; have HO_2 := n1_; have HO_3 := n2_; have HO189 := n3_; have HO200 := n4_; have HO209 := n5_; have HB := n6_; clear n0_ n1_ n2_ n3_ n4_ n5_ n6_; clear hb ho200; obtain ⟨Ao201, co201, eo201⟩ := Kd.R_slice HO200.out; subst eo201; obtain ⟨Ao202, co202, eo202⟩ := Kd.R_slice HO209.out; subst eo202) | (go_at_call 21; (with_reducible refine (redpencillaw05_merged.calls kj4 _ _ y138 _ _ y198 _ _ y207 0 true _ ?side1 ?side2 ?side3 ?side4 ?side5 ?side6 A176.out).mono ?_); (case side1 => repeat (first | exact (Kd.R_reads' HO_1.out).2.2 | (with_reducible refine Kd.C_alloc ?_ _) | (with_reducible refine Kd.C_drewN ?_ _) | (with_reducible refine Kd.C_drew ?_))); (case side2 => exact (Kd.R_reads' HO_1.out).2.1); (case side3 => repeat (first | exact (Kd.R_reads' HO200.out).2.2 | (with_reducible refine Kd.C_alloc ?_ _) | (with_reducible refine Kd.C_drewN ?_ _) | (with_reducible refine Kd.C_drew ?_))); (case side4 => exact (Kd.R_reads' HO200.out).2.1); (case side5 => repeat (first | exact (Kd.R_reads' HO209.out).2.2 | (with_reducible refine Kd.C_alloc ?_ _) | (with_reducible refine Kd.C_drewN ?_ _) | (with_reducible refine Kd.C_drew ?_))); (case side6 => exact (Kd.R_reads' HO209.out).2.1); rintro e w203 ⟨rfl, hb⟩; (try clear A176); have n0_ := Aside0.mk (Kd.R_below (by (with_reducible repeat (first | apply Kd.R_alloc | apply Kd.R_drewN | apply Kd.R_drew)); exact HO_1.out) hb); have n1_ := Aside0.mk (Kd.R_below (by (with_reducible repeat (first | apply Kd.R_alloc | apply Kd.R_drewN | apply Kd.R_drew)); exact HO_2.out) hb); have n2_ := Aside0.mk (Kd.R_below (by (with_reducible repeat (first | apply Kd.R_alloc | apply Kd.R_drewN | apply Kd.R_drew)); exact HO_3.out) hb); have n3_ := Aside0.mk (Kd.R_below (by (with_reducible repeat (first | apply Kd.R_alloc | apply Kd.R_drewN | apply Kd.R_drew)); exact HO189.out) hb); have n4_ := Aside0.mk (Kd.R_below (by (with_reducible repeat (first | apply Kd.R_alloc | apply Kd.R_drewN | apply Kd.R_drew)); exact HO200.out) hb); have n5_ := Aside0.mk (Kd.R_below (by (with_reducible repeat (first | apply Kd.R_alloc | apply Kd.R_drewN | apply Kd.R_drew)); exact HO209.out) hb); have n6_ := Aside0.mk (below_step (by repeat (first | (with_reducible first | exact HB.out | apply below_alloc | apply pw_below_drewN | apply below_drew1) | exact HB.out)) hb); clear HO_1; clear HO_2; clear HO_3; clear HO189; clear HO200; clear HO209; clear HB; have HO_1 := n0_; have HO_2 := n1_; have HO_3 := n2_; have HO189 := n3_; have HO200 := n4_; have HO209 := n5_; have HB := n6_; clear n0_ n1_ n2_ n3_ n4_ n5_ n6_; (try clear hb); (try clear hb2); (try clear hk); (try clear hi)) | (go_at_call 33; (with_reducible refine (redpencillaw05_of.calls 3 7 t211 t212 _ A178.out).mono ?_); rintro e w204 ⟨rfl, hb⟩; (try clear A178); have n0_ := Aside0.mk (Kd.R_below (by (with_reducible repeat (first | apply Kd.R_alloc | apply Kd.R_drewN | apply Kd.R_drew)); exact HO_1.out) hb); have n1_ := Aside0.mk (Kd.R_below (by (with_reducible repeat (first | apply Kd.R_alloc | apply Kd.R_drewN | apply Kd.R_drew)); exact HO_2.out) hb); have n2_ := Aside0.mk (Kd.R_below (by (with_reducible repeat (first | apply Kd.R_alloc | apply Kd.R_drewN | apply Kd.R_drew)); exact HO_3.out) hb); have n3_ := Aside0.mk (Kd.R_below (by (with_reducible repeat (first | apply Kd.R_alloc | apply Kd.R_drewN | apply Kd.R_drew)); exact HO189.out) hb); have n4_ := Aside0.mk (Kd.R_below (by (with_reducible repeat (first | apply Kd.R_alloc | apply Kd.R_drewN | apply Kd.R_drew)); exact HO200.out) hb); have n5_ := Aside0.mk (Kd.R_below (by (with_reducible repeat (first | apply Kd.R_alloc | apply Kd.R_drewN | apply Kd.R_drew)); exact HO209.out) hb); have n6_ := Aside0.mk (below_step (by repeat (first | (with_reducible first | exact HB.out | apply below_alloc | apply pw_below_drewN | apply below_drew1) | exact HB.out)) hb); clear HO_1; clear HO_2; clear HO_3; clear HO189; clear HO200; clear HO209; clear HB; have HO_1 := n0_; have HO_2 := n1_; have HO_3 := n2_; have HO189 := n3_; have HO200 := n4_; have HO209 := n5_; have HB := n6_; clear n0_ n1_ n2_ n3_ n4_ n5_ n6_; (try clear hb); (try clear hb2); (try clear hk); (try clear hi)) | (go_at_call 33; (with_reducible refine (redpencillaw05_of.calls 1 2 t213 t214 _ A179.out).mono ?_); rintro e w205 ⟨rfl, hb⟩; (try clear A179); have n0_ := Aside0.mk (Kd.R_below (by (with_reducible repeat (first | apply Kd.R_alloc | apply Kd.R_drewN | apply Kd.R_drew)); exact HO_1.out) hb); have n1_ := Aside0.mk (Kd.R_below (by (with_reducible repeat (first | apply Kd.R_alloc | apply Kd.R_drewN | apply Kd.R_drew)); exact HO_2.out) hb); have n2_ := Aside0.mk (Kd.R_below (by (with_reducible repeat (first | apply Kd.R_alloc | apply Kd.R_drewN | apply Kd.R_drew)); exact HO_3.out) hb); have n3_ := Aside0.mk (Kd.R_below (by (with_reducible repeat (first | apply Kd.R_alloc | apply Kd.R_drewN | apply Kd.R_drew)); exact HO189.out) hb); have n4_ := Aside0.mk (Kd.R_below (by (with_reducible repeat (first | apply Kd.R_alloc | apply Kd.R_drewN | apply Kd.R_drew)); exact HO200.out) hb); have n5_ := Aside0.mk (Kd.R_below (by (with_reducible repeat (first | apply Kd.R_alloc | apply Kd.R_drewN | apply Kd.R_drew)); exact HO209.out) hb); have n6_ := Aside0.mk (below_step (by repeat (first | (with_reducible first | exact HB.out | apply below_alloc | apply pw_below_drewN | apply below_drew1) | exact HB.out)) hb); clear HO_1; clear HO_2; clear HO_3; clear HO189; clear HO200; clear HO209; clear HB; have HO_1 := n0_; have HO_2 := n1_; have HO_3 := n2_; have HO189 := n3_; have HO200 := n4_; have HO209 := n5_; have HB := n6_; clear n0_ n1_ n2_ n3_ n4_ n5_ n6_; (try clear hb); (try clear hb2); (try clear hk); (try clear hi)) | ((with_reducible refine gate_dst (N := 84) rfl ?_); (try (refine gate_guard (by rfl) ?_; dsimp only)); refine Kd.R_lit k25 _ 25 ?hg (N := 84) ?hd (xs := ([(⟨t211, t212⟩ : S25), (⟨t213, t214⟩ : S25)] : List (S25))) (inner := [.int .i64 t211, .int .i64 t212, .int .i64 t213, .int .i64 t214]) (ok := fun _ => True) (okp := fun _ => True) ?hr ?hp (fun _ hk => hk) trivial (Below.refl _ _) (Nat.le_refl _) (by simp) ?_; (case hd => rfl); (case hg => rfl); (case hr => first | (go_simp; done) | (go_simp; rfl)); (case hp => exact (Reps.c2 (show Kd.M k25 _ _ _ (⟨t211, t212⟩ : S25) [.int .i64 t211, .int .i64 t212] from (k25_mkM _ _ _ (⟨t211, t212⟩ : S25) )) (Reps.c2 (show Kd.M k25 _ _ _ (⟨t213, t214⟩ : S25) [.int .i64 t213, .int .i64 t214] from (k25_mkM _ _ _ (⟨t213, t214⟩ : S25) )) (Reps.none _ _)))); intro v216 w206 ho207 hb hg_ hnew_; clear hg_ hnew_; (first | rw [← Ny215.out] at ho207 | (simp only [Int.reduceToNat] at ho207; rw [← Ny215.out] at ho207)); have n0_ := Aside0.mk (Kd.R_elder' (by (with_reducible repeat (first | apply Kd.R_alloc | apply Kd.R_drewN | apply Kd.R_drew)); exact HO_1.out) (Kd.R_base ho207) hb); have n1_ := Aside0.mk (Kd.R_elder' (by (with_reducible repeat (first | apply Kd.R_alloc | apply Kd.R_drewN | apply Kd.R_drew)); exact HO_2.out) (Kd.R_base ho207) hb); have n2_ := Aside0.mk (Kd.R_elder' (by (with_reducible repeat (first | apply Kd.R_alloc | apply Kd.R_drewN | apply Kd.R_drew)); exact HO_3.out) (Kd.R_base ho207) hb); have n3_ := Aside0.mk (Kd.R_elder' (by (with_reducible repeat (first | apply Kd.R_alloc | apply Kd.R_drewN | apply Kd.R_drew)); exact HO189.out) (Kd.R_base ho207) hb); have n4_ := Aside0.mk (Kd.R_elder' (by (with_reducible repeat (first | apply Kd.R_alloc | apply Kd.R_drewN | apply Kd.R_drew)); exact HO200.out) (Kd.R_base ho207) hb); have n5_ := Aside0.mk (Kd.R_elder' (by (with_reducible repeat (first | apply Kd.R_alloc | apply Kd.R_drewN | apply Kd.R_drew)); exact HO209.out) (Kd.R_base ho207) hb); have n6_ := Aside0.mk (Kd.R_lower (Kd.R_new' (Kd.R_new' (Kd.R_new' (Kd.R_new' (Kd.R_new' (Kd.R_new' ho207 (Kd.R_lt (by (with_reducible repeat (first | apply Kd.R_alloc | apply Kd.R_drewN | apply Kd.R_drew)); exact HO_1.out))) (Kd.R_lt (by (with_reducible repeat (first | apply Kd.R_alloc | apply Kd.R_drewN | apply Kd.R_drew)); exact HO_2.out))) (Kd.R_lt (by (with_reducible repeat (first | apply Kd.R_alloc | apply Kd.R_drewN | apply Kd.R_drew)); exact HO_3.out))) (Kd.R_lt (by (with_reducible repeat (first | apply Kd.R_alloc | apply Kd.R_drewN | apply Kd.R_drew)); exact HO189.out))) (Kd.R_lt (by (with_reducible repeat (first | apply Kd.R_alloc | apply Kd.R_drewN | apply Kd.R_drew)); exact HO200.out))) (Kd.R_lt (by (with_reducible repeat (first | apply Kd.R_alloc | apply Kd.R_drewN | apply Kd.R_drew)); exact HO209.out))) (below_size (by repeat (first | (with_reducible first | exact HB.out | apply below_alloc | apply pw_below_drewN | apply below_drew1) | exact HB.out)))); have n7_ := Aside0.mk (below_step (by repeat (first | (with_reducible first | exact HB.out | apply below_alloc | apply pw_below_drewN | apply below_drew1) | exact HB.out)) hb); clear HO_1; clear HO_2; clear HO_3; clear HO189; clear HO200; clear HO209; clear HB; have HO_1 := n0_; have HO_2 := n1_; have HO_3 := n2_; have HO189 := n3_; have HO200 := n4_; have HO209 := n5_; have HO217 := n6_; have HB := n7_; clear n0_ n1_ n2_ n3_ n4_ n5_ n6_ n7_; clear hb ho207; obtain ⟨Ao208, co208, eo208⟩ := Kd.R_slice HO217.out; subst eo208) | (go_at_call 21; (refine (redpencillaw05_merged.calls kj4 _ _ y215 _ _ ([] : List (S25)) _ _ ([] : List (S25)) 2 t218 _ ?side1 ?side2 ?side3 ?side4 ?side5 ?side6 A180.out).mono ?_); (case side1 => repeat (first | exact (Kd.R_reads' HO217.out).2.2 | (with_reducible refine Kd.C_alloc ?_ _) | (with_reducible refine Kd.C_drewN ?_ _) | (with_reducible refine Kd.C_drew ?_))); (case side2 => exact (Kd.R_reads' HO217.out).2.1); (case side3 => exact Kd.C_nil _ _); (case side4 => exact Nat.le_refl _); (case side5 => exact Kd.C_nil _ _); (case side6 => exact Nat.le_refl _); rintro e w209 ⟨rfl, hb⟩; (try clear A180); have n0_ := Aside0.mk (Kd.R_below (by (with_reducible repeat (first | apply Kd.R_alloc | apply Kd.R_drewN | apply Kd.R_drew)); exact HO_1.out) hb); have n1_ := Aside0.mk (Kd.R_below (by (with_reducible repeat (first | apply Kd.R_alloc | apply Kd.R_drewN | apply Kd.R_drew)); exact HO_2.out) hb); have n2_ := Aside0.mk (Kd.R_below (by (with_reducible repeat (first | apply Kd.R_alloc | apply Kd.R_drewN | apply Kd.R_drew)); exact HO_3.out) hb); have n3_ := Aside0.mk (Kd.R_below (by (with_reducible repeat (first | apply Kd.R_alloc | apply Kd.R_drewN | apply Kd.R_drew)); exact HO189.out) hb); have n4_ := Aside0.mk (Kd.R_below (by (with_reducible repeat (first | apply Kd.R_alloc | apply Kd.R_drewN | apply Kd.R_drew)); exact HO200.out) hb); have n5_ := Aside0.mk (Kd.R_below (by (with_reducible repeat (first | apply Kd.R_alloc | apply Kd.R_drewN | apply Kd.R_drew)); exact HO209.out) hb); have n6_ := Aside0.mk (Kd.R_below (by (with_reducible repeat (first | apply Kd.R_alloc | apply Kd.R_drewN | apply Kd.R_drew)); exact HO217.out) hb); have n7_ := Aside0.mk (below_step (by repeat (first | (with_reducible first | exact HB.out | apply below_alloc | apply pw_below_drewN | apply below_drew1) | exact HB.out)) hb); clear HO_1; clear HO_2; clear HO_3; clear HO189; clear HO200; clear HO209; clear HO217; clear HB; have HO_1 := n0_; have HO_2 := n1_; have HO_3 := n2_; have HO189 := n3_; have HO200 := n4_; have HO209 := n5_; have HO217 := n6_; have HB := n7_; clear n0_ n1_ n2_ n3_ n4_ n5_ n6_ n7_; (try clear hb); (try clear hb2); (try clear hk); (try clear hi)))
        go_meet
        case rel => exact ⟨_, (!t218), (by first | rfl | (simp; done) | (simp [*]; done)), H', ⟨by have := HJ4.out; first | omega | exact Nat.le_refl _⟩, ⟨by (with_reducible repeat (first | apply Kd.R_alloc | apply Kd.R_drewN | apply Kd.R_drew)); exact Kd.R_mono HO_1.out (fun _ hk => ⟨hk.1.1.1.1.1, hk.1.1.1.1.2⟩)⟩, ⟨by (with_reducible repeat (first | apply Kd.R_alloc | apply Kd.R_drewN | apply Kd.R_drew)); exact Kd.R_mono HO_2.out (fun _ hk => ⟨hk.1.1.1.1.1, hk.1.1.1.1.2⟩)⟩, ⟨by (with_reducible repeat (first | apply Kd.R_alloc | apply Kd.R_drewN | apply Kd.R_drew)); exact Kd.R_mono HO_3.out (fun _ hk => ⟨hk.1.1.1.1.1, hk.1.1.1.1.2⟩)⟩, ⟨by repeat (first | (with_reducible first | exact HB.out | apply below_alloc | apply pw_below_drewN | apply below_drew1) | exact HB.out)⟩⟩
       ·
        replace c177 := Bool.eq_false_iff.mpr c177
        subst c177
        have H1 : (redpencillaw05_known.j1 kj4 y138 y143 y148 true) = some true := by rw [if_neg (show ¬ (false = true) by decide)] at H; exact H
        exact absurd H1 (redpencillaw05_known.j1_no _ _ _ _)
      ·
       replace c170 := Bool.eq_false_iff.mpr c170
       subst c170
       have H1 : (redpencillaw05_known.j1 kj4 y138 y143 y148 true) = some true := by rw [if_neg (show ¬ (false = true) by decide)] at H; exact H
       exact absurd H1 (redpencillaw05_known.j1_no _ _ _ _)
     ·
      replace c167 := Bool.eq_false_iff.mpr c167
      subst c167
      have H1 : (redpencillaw05_known.j1 kj4 y138 y143 y148 true) = some true := by rw [if_neg (show ¬ (false = true) by decide)] at H; exact H
      exact absurd H1 (redpencillaw05_known.j1_no _ _ _ _)
    case rest =>
     clear HC161
     try clear c1
     try clear c2
     try clear p2
     try clear c3
     try clear c8
     try clear c16
     try clear c17
     try clear c19
     try clear c20
     try clear c22
     try clear c25
     try clear c27
     try clear c27b0
     try clear c27b1
     try clear c29
     try clear c29b0
     try clear c29b1
     try clear c32
     try clear c33
     try clear c35
     try clear c160
     try clear c167
     try clear c170
     try clear c177
     try clear p2
     obtain ⟨kq, x87_160, rfl, HA, HJ160, HO_1, HO_2, HO_3, HB⟩ := hcut
     cases kq with
     | zero => exact absurd HA.out (by simp [redpencillaw05_known.j1])
     | succ kj160 =>
      have H := HA.out
      clear HA
      simp only [redpencillaw05_known.j1] at H
      by_cases c253 : x87_160 = true
      ·
       subst c253
       have H1 : (some false) = some true := by rw [if_pos rfl] at H; exact H
       exact absurd H1 (by simp)
      ·
       replace c253 := Bool.eq_false_iff.mpr c253
       subst c253
       have H1 : ((redpencillaw05_orders.f y143 y138 (-1) 0).bind fun t219 => (if t219 = true then ((redpencillaw05_orders.f y138 y143 1 0).bind fun t220 => (if t220 = true then ((redpencillaw05_orders.f y143 y148 2 0).bind fun t221 => (if t221 = true then ((redpencillaw05_orders.f ([] : List (S25)) ([] : List (S25)) 0 0).bind fun t222 => (if t222 = true then ((redpencillaw05_texts.f ([] : List (S25)) (⟨#[45]⟩ : ByteArray) 0).bind fun t223 => (redpencillaw05_known.j2 kj160 y138 (!t223))) else (redpencillaw05_known.j2 kj160 y138 true))) else (redpencillaw05_known.j2 kj160 y138 true))) else (redpencillaw05_known.j2 kj160 y138 true))) else (redpencillaw05_known.j2 kj160 y138 true))) = some true := by rw [if_neg (show ¬ (false = true) by decide)] at H; exact H
       clear H
       have H := H1
       clear H1
       have HC254 := Aside0.mk H
       clear H
       go_upto_region 7 with (fail)
       go_cut [111] (fun v111 wc => ∃ (kq : Nat) (x111_253 : Bool), v111 = .bool x111_253 ∧ Aside0 (redpencillaw05_known.j2 kq y138 x111_253 = some true) ∧ Aside0 (kq ≤ kj160) ∧ Aside0 (Kd.R k25 25 wc w.heap.size (fun _ => True) v139 y138) ∧ Aside0 (Below w.heap.size w wc))
       case first =>
        have H := HC254.out
        clear HC254
        replace H := Option.bind_eq_some_iff.mp H
        obtain ⟨t219, A2550, H⟩ := H
        replace H : (if t219 = true then ((redpencillaw05_orders.f y138 y143 1 0).bind fun t220 => (if t220 = true then ((redpencillaw05_orders.f y143 y148 2 0).bind fun t221 => (if t221 = true then ((redpencillaw05_orders.f ([] : List (S25)) ([] : List (S25)) 0 0).bind fun t222 => (if t222 = true then ((redpencillaw05_texts.f ([] : List (S25)) (⟨#[45]⟩ : ByteArray) 0).bind fun t223 => (redpencillaw05_known.j2 kj160 y138 (!t223))) else (redpencillaw05_known.j2 kj160 y138 true))) else (redpencillaw05_known.j2 kj160 y138 true))) else (redpencillaw05_known.j2 kj160 y138 true))) else (redpencillaw05_known.j2 kj160 y138 true)) = some true := H
        have A255 := Aside0.mk A2550
        clear A2550
        by_cases c256 : t219 = true
        ·
         subst c256
         have H1 : ((redpencillaw05_orders.f y138 y143 1 0).bind fun t220 => (if t220 = true then ((redpencillaw05_orders.f y143 y148 2 0).bind fun t221 => (if t221 = true then ((redpencillaw05_orders.f ([] : List (S25)) ([] : List (S25)) 0 0).bind fun t222 => (if t222 = true then ((redpencillaw05_texts.f ([] : List (S25)) (⟨#[45]⟩ : ByteArray) 0).bind fun t223 => (redpencillaw05_known.j2 kj160 y138 (!t223))) else (redpencillaw05_known.j2 kj160 y138 true))) else (redpencillaw05_known.j2 kj160 y138 true))) else (redpencillaw05_known.j2 kj160 y138 true))) = some true := by rw [if_pos rfl] at H; exact H
         clear H
         have H := H1
         clear H1
         replace H := Option.bind_eq_some_iff.mp H
         obtain ⟨t220, A2570, H⟩ := H
         replace H : (if t220 = true then ((redpencillaw05_orders.f y143 y148 2 0).bind fun t221 => (if t221 = true then ((redpencillaw05_orders.f ([] : List (S25)) ([] : List (S25)) 0 0).bind fun t222 => (if t222 = true then ((redpencillaw05_texts.f ([] : List (S25)) (⟨#[45]⟩ : ByteArray) 0).bind fun t223 => (redpencillaw05_known.j2 kj160 y138 (!t223))) else (redpencillaw05_known.j2 kj160 y138 true))) else (redpencillaw05_known.j2 kj160 y138 true))) else (redpencillaw05_known.j2 kj160 y138 true)) = some true := H
         have A257 := Aside0.mk A2570
         clear A2570
         by_cases c258 : t220 = true
         ·
          subst c258
          have H1 : ((redpencillaw05_orders.f y143 y148 2 0).bind fun t221 => (if t221 = true then ((redpencillaw05_orders.f ([] : List (S25)) ([] : List (S25)) 0 0).bind fun t222 => (if t222 = true then ((redpencillaw05_texts.f ([] : List (S25)) (⟨#[45]⟩ : ByteArray) 0).bind fun t223 => (redpencillaw05_known.j2 kj160 y138 (!t223))) else (redpencillaw05_known.j2 kj160 y138 true))) else (redpencillaw05_known.j2 kj160 y138 true))) = some true := by rw [if_pos rfl] at H; exact H
          clear H
          have H := H1
          clear H1
          replace H := Option.bind_eq_some_iff.mp H
          obtain ⟨t221, A2590, H⟩ := H
          replace H : (if t221 = true then ((redpencillaw05_orders.f ([] : List (S25)) ([] : List (S25)) 0 0).bind fun t222 => (if t222 = true then ((redpencillaw05_texts.f ([] : List (S25)) (⟨#[45]⟩ : ByteArray) 0).bind fun t223 => (redpencillaw05_known.j2 kj160 y138 (!t223))) else (redpencillaw05_known.j2 kj160 y138 true))) else (redpencillaw05_known.j2 kj160 y138 true)) = some true := H
          have A259 := Aside0.mk A2590
          clear A2590
          by_cases c260 : t221 = true
          ·
           subst c260
           have H1 : ((redpencillaw05_orders.f ([] : List (S25)) ([] : List (S25)) 0 0).bind fun t222 => (if t222 = true then ((redpencillaw05_texts.f ([] : List (S25)) (⟨#[45]⟩ : ByteArray) 0).bind fun t223 => (redpencillaw05_known.j2 kj160 y138 (!t223))) else (redpencillaw05_known.j2 kj160 y138 true))) = some true := by rw [if_pos rfl] at H; exact H
           clear H
           have H := H1
           clear H1
           replace H := Option.bind_eq_some_iff.mp H
           obtain ⟨t222, A2610, H⟩ := H
           replace H : (if t222 = true then ((redpencillaw05_texts.f ([] : List (S25)) (⟨#[45]⟩ : ByteArray) 0).bind fun t223 => (redpencillaw05_known.j2 kj160 y138 (!t223))) else (redpencillaw05_known.j2 kj160 y138 true)) = some true := H
           have A261 := Aside0.mk A2610
           clear A2610
           by_cases c262 : t222 = true
           ·
            subst c262
            have H1 : ((redpencillaw05_texts.f ([] : List (S25)) (⟨#[45]⟩ : ByteArray) 0).bind fun t223 => (redpencillaw05_known.j2 kj160 y138 (!t223))) = some true := by rw [if_pos rfl] at H; exact H
            clear H
            have H := H1
            clear H1
            replace H := Option.bind_eq_some_iff.mp H
            obtain ⟨t223, A2630, H⟩ := H
            replace H : (redpencillaw05_known.j2 kj160 y138 (!t223)) = some true := H
            have A263 := Aside0.mk A2630
            clear A2630
            have H' := Aside0.mk H
            clear H
            obtain ⟨Ao264, co264, eo264⟩ := Kd.R_slice HO_2.out
            subst eo264
            obtain ⟨Ao265, co265, eo265⟩ := Kd.R_slice HO_1.out
            subst eo265
            go_wp2_with (first | ((with_reducible refine gate_callee (f := 22) rfl ?_); refine goesL_ (some 90) rfl rfl Tryz.func22 (by kernel_rfl) rfl #[.slice Ao264 y143.length co264, .slice Ao265 y138.length co265, .int .i64 (-1), .int .i64 0] rfl (by (try simp only [List.map_toArray, List.map_cons, List.map_nil]); first | done | rfl | (simp only [List.length_drop, List.length_take]; rfl)) ?_; (with_reducible refine (redpencillaw05_orders.calls _ _ y143 _ _ y138 (-1) 0 true _ ?side1 ?side2 ?side3 ?side4 A255.out).mono ?_); (case side1 => repeat (first | exact (Kd.R_reads' HO_2.out).2.2 | (with_reducible refine Kd.C_alloc ?_ _) | (with_reducible refine Kd.C_drewN ?_ _) | (with_reducible refine Kd.C_drew ?_))); (case side2 => exact (Kd.R_reads' HO_2.out).2.1); (case side3 => repeat (first | exact (Kd.R_reads' HO_1.out).2.2 | (with_reducible refine Kd.C_alloc ?_ _) | (with_reducible refine Kd.C_drewN ?_ _) | (with_reducible refine Kd.C_drew ?_))); (case side4 => exact (Kd.R_reads' HO_1.out).2.1); rintro e w266 ⟨rfl, hb⟩; (try clear A255); refine ⟨_, rfl, ?_⟩; have n0_ := Aside0.mk (Kd.R_below (by (with_reducible repeat (first | apply Kd.R_alloc | apply Kd.R_drewN | apply Kd.R_drew)); exact HO_1.out) hb); have n1_ := Aside0.mk (Kd.R_below (by (with_reducible repeat (first | apply Kd.R_alloc | apply Kd.R_drewN | apply Kd.R_drew)); exact HO_2.out) hb); have n2_ := Aside0.mk (Kd.R_below (by (with_reducible repeat (first | apply Kd.R_alloc | apply Kd.R_drewN | apply Kd.R_drew)); exact HO_3.out) hb); have n3_ := Aside0.mk (below_step (by repeat (first | (with_reducible first | exact HB.out | apply below_alloc | apply pw_below_drewN | apply below_drew1) | exact HB.out)) hb); clear HO_1; clear HO_2; clear HO_3; clear HB; have HO_1 := n0_; have HO_2 := n1_; have HO_3 := n2_; have HB := n3_; clear n0_ n1_ n2_ n3_; (try clear hb); (try clear hb2); (try clear hk); (try clear hi)) | (go_at_call 22; (with_reducible refine (redpencillaw05_orders.calls _ _ y138 _ _ y143 1 0 true _ ?side1 ?side2 ?side3 ?side4 A257.out).mono ?_); (case side1 => repeat (first | exact (Kd.R_reads' HO_1.out).2.2 | (with_reducible refine Kd.C_alloc ?_ _) | (with_reducible refine Kd.C_drewN ?_ _) | (with_reducible refine Kd.C_drew ?_))); (case side2 => exact (Kd.R_reads' HO_1.out).2.1); (case side3 => repeat (first | exact (Kd.R_reads' HO_2.out).2.2 | (with_reducible refine Kd.C_alloc ?_ _) | (with_reducible refine Kd.C_drewN ?_ _) | (with_reducible refine Kd.C_drew ?_))); (case side4 => exact (Kd.R_reads' HO_2.out).2.1); rintro e w267 ⟨rfl, hb⟩; (try clear A257); have n0_ := Aside0.mk (Kd.R_below (by (with_reducible repeat (first | apply Kd.R_alloc | apply Kd.R_drewN | apply Kd.R_drew)); exact HO_1.out) hb); have n1_ := Aside0.mk (Kd.R_below (by (with_reducible repeat (first | apply Kd.R_alloc | apply Kd.R_drewN | apply Kd.R_drew)); exact HO_2.out) hb); have n2_ := Aside0.mk (Kd.R_below (by (with_reducible repeat (first | apply Kd.R_alloc | apply Kd.R_drewN | apply Kd.R_drew)); exact HO_3.out) hb); have n3_ := Aside0.mk (below_step (by repeat (first | (with_reducible first | exact HB.out | apply below_alloc | apply pw_below_drewN | apply below_drew1) | exact HB.out)) hb); clear HO_1; clear HO_2; clear HO_3; clear HB; have HO_1 := n0_; have HO_2 := n1_; have HO_3 := n2_; have HB := n3_; clear n0_ n1_ n2_ n3_; (try clear hb); (try clear hb2); (try clear hk); (try clear hi); obtain ⟨Ao268, co268, eo268⟩ := Kd.R_slice HO_3.out; subst eo268) | (go_at_call 22; (with_reducible refine (redpencillaw05_orders.calls _ _ y143 _ _ y148 2 0 true _ ?side1 ?side2 ?side3 ?side4 A259.out).mono ?_); (case side1 => repeat (first | exact (Kd.R_reads' HO_2.out).2.2 | (with_reducible refine Kd.C_alloc ?_ _) | (with_reducible refine Kd.C_drewN ?_ _) | (with_reducible refine Kd.C_drew ?_))); (case side2 => exact (Kd.R_reads' HO_2.out).2.1); (case side3 => repeat (first | exact (Kd.R_reads' HO_3.out).2.2 | (with_reducible refine Kd.C_alloc ?_ _) | (with_reducible refine Kd.C_drewN ?_ _) | (with_reducible refine Kd.C_drew ?_))); (case side4 => exact (Kd.R_reads' HO_3.out).2.1); rintro e w269 ⟨rfl, hb⟩; (try clear A259); have n0_ := Aside0.mk (Kd.R_below (by (with_reducible repeat (first | apply Kd.R_alloc | apply Kd.R_drewN | apply Kd.R_drew)); exact HO_1.out) hb); have n1_ := Aside0.mk (Kd.R_below (by (with_reducible repeat (first | apply Kd.R_alloc | apply Kd.R_drewN | apply Kd.R_drew)); exact HO_2.out) hb); have n2_ := Aside0.mk (Kd.R_below (by (with_reducible repeat (first | apply Kd.R_alloc | apply Kd.R_drewN | apply Kd.R_drew)); exact HO_3.out) hb); have n3_ := Aside0.mk (below_step (by repeat (first | (with_reducible first | exact HB.out | apply below_alloc | apply pw_below_drewN | apply below_drew1) | exact HB.out)) hb); clear HO_1; clear HO_2; clear HO_3; clear HB; have HO_1 := n0_; have HO_2 := n1_; have HO_3 := n2_; have HB := n3_; clear n0_ n1_ n2_ n3_; (try clear hb); (try clear hb2); (try clear hk); (try clear hi)) | (go_at_call 22; (refine (redpencillaw05_orders.calls _ _ ([] : List (S25)) _ _ ([] : List (S25)) 0 0 true _ ?side1 ?side2 ?side3 ?side4 A261.out).mono ?_); (case side1 => exact Kd.C_nil _ _); (case side2 => exact Nat.le_refl _); (case side3 => exact Kd.C_nil _ _); (case side4 => exact Nat.le_refl _); rintro e w270 ⟨rfl, hb⟩; (try clear A261); have n0_ := Aside0.mk (Kd.R_below (by (with_reducible repeat (first | apply Kd.R_alloc | apply Kd.R_drewN | apply Kd.R_drew)); exact HO_1.out) hb); have n1_ := Aside0.mk (Kd.R_below (by (with_reducible repeat (first | apply Kd.R_alloc | apply Kd.R_drewN | apply Kd.R_drew)); exact HO_2.out) hb); have n2_ := Aside0.mk (Kd.R_below (by (with_reducible repeat (first | apply Kd.R_alloc | apply Kd.R_drewN | apply Kd.R_drew)); exact HO_3.out) hb); have n3_ := Aside0.mk (below_step (by repeat (first | (with_reducible first | exact HB.out | apply below_alloc | apply pw_below_drewN | apply below_drew1) | exact HB.out)) hb); clear HO_1; clear HO_2; clear HO_3; clear HB; have HO_1 := n0_; have HO_2 := n1_; have HO_3 := n2_; have HB := n3_; clear n0_ n1_ n2_ n3_; (try clear hb); (try clear hb2); (try clear hk); (try clear hi)) | (go_at_call 27; (refine (redpencillaw05_texts.calls _ _ ([] : List (S25)) (⟨#[45]⟩ : ByteArray) 0 t223 _ ?side1 ?side2 ?side3 A263.out).mono ?_); (case side1 => exact GOK_below HG.out (by repeat (first | (with_reducible first | exact HB.out | apply below_alloc | apply pw_below_drewN | apply below_drew1) | exact HB.out))); (case side2 => exact Kd.C_nil _ _); (case side3 => exact Nat.le_refl _); rintro e w271 ⟨rfl, hb⟩; (try clear A263); have n0_ := Aside0.mk (Kd.R_below (by (with_reducible repeat (first | apply Kd.R_alloc | apply Kd.R_drewN | apply Kd.R_drew)); exact HO_1.out) hb); have n1_ := Aside0.mk (Kd.R_below (by (with_reducible repeat (first | apply Kd.R_alloc | apply Kd.R_drewN | apply Kd.R_drew)); exact HO_2.out) hb); have n2_ := Aside0.mk (Kd.R_below (by (with_reducible repeat (first | apply Kd.R_alloc | apply Kd.R_drewN | apply Kd.R_drew)); exact HO_3.out) hb); have n3_ := Aside0.mk (below_step (by repeat (first | (with_reducible first | exact HB.out | apply below_alloc | apply pw_below_drewN | apply below_drew1) | exact HB.out)) hb); clear HO_1; clear HO_2; clear HO_3; clear HB; have HO_1 := n0_; have HO_2 := n1_; have HO_3 := n2_; have HB := n3_; clear n0_ n1_ n2_ n3_; (try clear hb); (try clear hb2); (try clear hk); (try clear hi)))
            go_meet
            case rel => exact ⟨_, (!t223), (by first | rfl | (simp; done) | (simp [*]; done)), H', ⟨by have := HJ4.out; have := HJ160.out; first | omega | exact Nat.le_refl _⟩, ⟨by (with_reducible repeat (first | apply Kd.R_alloc | apply Kd.R_drewN | apply Kd.R_drew)); exact Kd.R_mono HO_1.out (fun _ hk => trivial)⟩, ⟨by repeat (first | (with_reducible first | exact HB.out | apply below_alloc | apply pw_below_drewN | apply below_drew1) | exact HB.out)⟩⟩
           ·
            replace c262 := Bool.eq_false_iff.mpr c262
            subst c262
            have H1 : (redpencillaw05_known.j2 kj160 y138 true) = some true := by rw [if_neg (show ¬ (false = true) by decide)] at H; exact H
            exact absurd H1 (redpencillaw05_known.j2_no _ _)
          ·
           replace c260 := Bool.eq_false_iff.mpr c260
           subst c260
           have H1 : (redpencillaw05_known.j2 kj160 y138 true) = some true := by rw [if_neg (show ¬ (false = true) by decide)] at H; exact H
           exact absurd H1 (redpencillaw05_known.j2_no _ _)
         ·
          replace c258 := Bool.eq_false_iff.mpr c258
          subst c258
          have H1 : (redpencillaw05_known.j2 kj160 y138 true) = some true := by rw [if_neg (show ¬ (false = true) by decide)] at H; exact H
          exact absurd H1 (redpencillaw05_known.j2_no _ _)
        ·
         replace c256 := Bool.eq_false_iff.mpr c256
         subst c256
         have H1 : (redpencillaw05_known.j2 kj160 y138 true) = some true := by rw [if_neg (show ¬ (false = true) by decide)] at H; exact H
         exact absurd H1 (redpencillaw05_known.j2_no _ _)
       case rest =>
        clear HC254
        try clear c1
        try clear c2
        try clear p2
        try clear c3
        try clear c8
        try clear c16
        try clear c17
        try clear c19
        try clear c20
        try clear c22
        try clear c25
        try clear c26
        try clear c27
        try clear c27b0
        try clear c27b1
        try clear c29
        try clear c29b0
        try clear c29b1
        try clear c32
        try clear c33
        try clear c35
        try clear c160
        try clear c167
        try clear c170
        try clear c177
        try clear c253
        try clear c256
        try clear c258
        try clear c260
        try clear c262
        try clear p2
        obtain ⟨kq, x111_253, rfl, HA, HJ253, HO_1, HB⟩ := hcut
        cases kq with
        | zero => exact absurd HA.out (by simp [redpencillaw05_known.j2])
        | succ kj253 =>
         have H := HA.out
         clear HA
         simp only [redpencillaw05_known.j2] at H
         by_cases c292 : x111_253 = true
         ·
          subst c292
          have H1 : (some false) = some true := by rw [if_pos rfl] at H; exact H
          exact absurd H1 (by simp)
         ·
          replace c292 := Bool.eq_false_iff.mpr c292
          subst c292
          have H1 : ((redpencillaw05_parses.f kj253 (⟨#[49, 46, 50, 32, 51, 46, 55]⟩ : ByteArray) y138 0).bind fun t224 => (if t224 = true then ((redpencillaw05_parses.f kj253 (⟨#[51, 46, 55, 32, 49, 46, 50]⟩ : ByteArray) ([] : List (S25)) 6).bind fun t225 => (if t225 = true then ((redpencillaw05_parses.f kj253 (⟨#[]⟩ : ByteArray) ([] : List (S25)) 6).bind fun t226 => (some t226)) else (some false))) else (some false))) = some true := by rw [if_neg (show ¬ (false = true) by decide)] at H; exact H
          clear H
          have H := H1
          clear H1
          replace H := Option.bind_eq_some_iff.mp H
          obtain ⟨t224, A2930, H⟩ := H
          replace H : (if t224 = true then ((redpencillaw05_parses.f kj253 (⟨#[51, 46, 55, 32, 49, 46, 50]⟩ : ByteArray) ([] : List (S25)) 6).bind fun t225 => (if t225 = true then ((redpencillaw05_parses.f kj253 (⟨#[]⟩ : ByteArray) ([] : List (S25)) 6).bind fun t226 => (some t226)) else (some false))) else (some false)) = some true := H
          have A293 := Aside0.mk A2930
          clear A2930
          by_cases c294 : t224 = true
          ·
           subst c294
           have H1 : ((redpencillaw05_parses.f kj253 (⟨#[51, 46, 55, 32, 49, 46, 50]⟩ : ByteArray) ([] : List (S25)) 6).bind fun t225 => (if t225 = true then ((redpencillaw05_parses.f kj253 (⟨#[]⟩ : ByteArray) ([] : List (S25)) 6).bind fun t226 => (some t226)) else (some false))) = some true := by rw [if_pos rfl] at H; exact H
           clear H
           have H := H1
           clear H1
           replace H := Option.bind_eq_some_iff.mp H
           obtain ⟨t225, A2950, H⟩ := H
           replace H : (if t225 = true then ((redpencillaw05_parses.f kj253 (⟨#[]⟩ : ByteArray) ([] : List (S25)) 6).bind fun t226 => (some t226)) else (some false)) = some true := H
           have A295 := Aside0.mk A2950
           clear A2950
           by_cases c296 : t225 = true
           ·
            subst c296
            have H1 : ((redpencillaw05_parses.f kj253 (⟨#[]⟩ : ByteArray) ([] : List (S25)) 6).bind fun t226 => (some t226)) = some true := by rw [if_pos rfl] at H; exact H
            clear H
            have H := H1
            clear H1
            replace H := Option.bind_eq_some_iff.mp H
            obtain ⟨t226, A2970, H⟩ := H
            replace H : (some t226) = some true := H
            have A297 := Aside0.mk A2970
            clear A2970
            obtain rfl := Option.some.inj H
            obtain ⟨Ao298, co298, eo298⟩ := Kd.R_slice HO_1.out
            subst eo298
            go_wp2_with (first | ((with_reducible refine gate_callee (f := 30) rfl ?_); refine goesL_ (some 113) rfl rfl Tryz.func30 (by kernel_rfl) rfl #[.string (⟨#[49, 46, 50, 32, 51, 46, 55]⟩ : ByteArray), .slice Ao298 y138.length co298, .int .i64 0] rfl (by (try simp only [List.map_toArray, List.map_cons, List.map_nil]); first | done | rfl | (simp only [List.length_drop, List.length_take]; rfl)) ?_; (with_reducible refine (redpencillaw05_parses.calls kj253 (⟨#[49, 46, 50, 32, 51, 46, 55]⟩ : ByteArray) _ _ y138 0 true _ ?side1 ?side2 ?side3 A293.out).mono ?_); (case side1 => exact GOK_below HG.out (by repeat (first | (with_reducible first | exact HB.out | apply below_alloc | apply pw_below_drewN | apply below_drew1) | exact HB.out))); (case side2 => repeat (first | exact (Kd.R_reads' HO_1.out).2.2 | (with_reducible refine Kd.C_alloc ?_ _) | (with_reducible refine Kd.C_drewN ?_ _) | (with_reducible refine Kd.C_drew ?_))); (case side3 => exact (Kd.R_reads' HO_1.out).2.1); rintro e w299 ⟨rfl, hb⟩; (try clear A293); refine ⟨_, rfl, ?_⟩; have n0_ := Aside0.mk (Kd.R_below (by (with_reducible repeat (first | apply Kd.R_alloc | apply Kd.R_drewN | apply Kd.R_drew)); exact HO_1.out) hb); have n1_ := Aside0.mk (below_step (by repeat (first | (with_reducible first | exact HB.out | apply below_alloc | apply pw_below_drewN | apply below_drew1) | exact HB.out)) hb); clear HO_1; clear HB; have HO_1 := n0_; have HB := n1_; clear n0_ n1_; (try clear hb); (try clear hb2); (try clear hk); (try clear hi)) | (go_at_call 30; (refine (redpencillaw05_parses.calls kj253 (⟨#[51, 46, 55, 32, 49, 46, 50]⟩ : ByteArray) _ _ ([] : List (S25)) 6 true _ ?side1 ?side2 ?side3 A295.out).mono ?_); (case side1 => exact GOK_below HG.out (by repeat (first | (with_reducible first | exact HB.out | apply below_alloc | apply pw_below_drewN | apply below_drew1) | exact HB.out))); (case side2 => exact Kd.C_nil _ _); (case side3 => exact Nat.le_refl _); rintro e w300 ⟨rfl, hb⟩; (try clear A295); have n0_ := Aside0.mk (Kd.R_below (by (with_reducible repeat (first | apply Kd.R_alloc | apply Kd.R_drewN | apply Kd.R_drew)); exact HO_1.out) hb); have n1_ := Aside0.mk (below_step (by repeat (first | (with_reducible first | exact HB.out | apply below_alloc | apply pw_below_drewN | apply below_drew1) | exact HB.out)) hb); clear HO_1; clear HB; have HO_1 := n0_; have HB := n1_; clear n0_ n1_; (try clear hb); (try clear hb2); (try clear hk); (try clear hi)) | (go_at_call 30; (refine (redpencillaw05_parses.calls kj253 (⟨#[]⟩ : ByteArray) _ _ ([] : List (S25)) 6 true _ ?side1 ?side2 ?side3 A297.out).mono ?_); (case side1 => exact GOK_below HG.out (by repeat (first | (with_reducible first | exact HB.out | apply below_alloc | apply pw_below_drewN | apply below_drew1) | exact HB.out))); (case side2 => exact Kd.C_nil _ _); (case side3 => exact Nat.le_refl _); rintro e w301 ⟨rfl, hb⟩; (try clear A297); have n0_ := Aside0.mk (Kd.R_below (by (with_reducible repeat (first | apply Kd.R_alloc | apply Kd.R_drewN | apply Kd.R_drew)); exact HO_1.out) hb); have n1_ := Aside0.mk (below_step (by repeat (first | (with_reducible first | exact HB.out | apply below_alloc | apply pw_below_drewN | apply below_drew1) | exact HB.out)) hb); clear HO_1; clear HB; have HO_1 := n0_; have HB := n1_; clear n0_ n1_; (try clear hb); (try clear hb2); (try clear hk); (try clear hi)))
            go_ret
            exact ⟨by first | rfl | (simp [errW_none, errW_some] <;> rfl) | (simp [*, errW_none, errW_some] <;> rfl), by repeat (first | (with_reducible first | exact HB.out | apply below_alloc | apply pw_below_drewN | apply below_drew1) | exact HB.out)⟩
           ·
            replace c296 := Bool.eq_false_iff.mpr c296
            subst c296
            have H1 : (some false) = some true := by rw [if_neg (show ¬ (false = true) by decide)] at H; exact H
            exact absurd H1 (by simp)
          ·
           replace c294 := Bool.eq_false_iff.mpr c294
           subst c294
           have H1 : (some false) = some true := by rw [if_neg (show ¬ (false = true) by decide)] at H; exact H
           exact absurd H1 (by simp)
/-! ### redpencilref05_Parse: function 29 -/
mutual
def redpencilref05_Parse.l0 : Nat → ByteArray → List (S25) → Int → Int → Option ((List (S25)) × Bool)
 | 0, _, _, _, _ => none
 | k + 1, x0, x4, x5, x6 => if x6 ≤ (x0.size : Int) then (if x6 < (x0.size : Int) then (if 0 ≤ x6 then (redpencilref05_Parse.j1 k x0 x4 x5 x6 ((bt x0 x6) != 32)) else (none)) else (redpencilref05_Parse.j1 k x0 x4 x5 x6 false)) else ((redpencilref05_Valid.f k x4).bind fun t312 => (if t312 = true then (some (x4, true)) else (some (([] : List (S25)), false))))
def redpencilref05_Parse.j1 : Nat → ByteArray → List (S25) → Int → Int → Bool → Option ((List (S25)) × Bool)
 | 0, _, _, _, _, _ => none
 | k + 1, x0, x4, x5, x6, x26 => if x26 = true then (redpencilref05_Parse.l0 k x0 x4 x5 (wrap64 (x6 + 1))) else (if 0 ≤ x5 then (if x5 ≤ x6 then (if x6 ≤ (x0.size : Int) then ((redpencilref04_Parse.f (x0.extract (x5 : Int).toNat (x6 : Int).toNat)).bind fun bt313 => (if bt313.2.2 = true then (if x4.length < 8796093022208 then (redpencilref05_Parse.l0 k x0 (x4 ++ [(⟨bt313.1, bt313.2.1⟩ : S25)]) (wrap64 (x6 + 1)) (wrap64 (x6 + 1))) else (none)) else (some (([] : List (S25)), false)))) else (none)) else (none)) else (none))
end
def redpencilref05_Parse.f (k : Nat) (a0 : ByteArray) : Option ((List (S25)) × Bool) := if a0.toList = ([45] : List UInt8) then (some (([] : List (S25)), true)) else (redpencilref05_Parse.l0 k a0 ([] : List (S25)) 0 0)
theorem redpencillaw05_known.at_ : redpencillaw05_known.f 60 = some true := by decide +kernel
theorem redpencillaw05_known.up_ : ∀ n, redpencillaw05_known.f (60 + n) = some true
  | 0 => redpencillaw05_known.at_
  | n + 1 => redpencillaw05_known.mono (60 + n) _ (redpencillaw05_known.up_ n)
theorem redpencillaw05_known.calls (k : Nat)  (r : Bool) (w : World) (hG : GOK w) (h : redpencillaw05_known.f k  = some r) :
  Calls Tryz.prog 8 #[] w fun e w' => e = .returned (.bool r) ∧ Below w.heap.size w w' := by
  have hr : r = true := by
    have hm : ∀ n, redpencillaw05_known.f (k + n) = some r := by
      intro n
      induction n with
      | zero => exact h
      | succ n ih => exact redpencillaw05_known.mono (k + n) _ ih
    have h1 := hm 60
    have h2 := redpencillaw05_known.up_ k
    rw [Nat.add_comm] at h1
    rw [h1] at h2
    exact Option.some.inj h2
  subst hr
  exact redpencillaw05_known.callsT k w hG h
set_option maxHeartbeats 8000000 in
set_option maxRecDepth 100000 in
theorem redpencilref05_Parse.calls (k : Nat) (a0 : ByteArray) (r1 : List (S25)) (r2 : Bool) (w : World) (h : redpencilref05_Parse.f k a0 = some (r1, r2)) :
  Calls Tryz.prog 29 #[.string a0] w fun e w' => ∃ v0_ : Value, e = .returned (.tuple #[v0_, .bool r2]) ∧ Kd.R k25 25 w' w.heap.size (fun _ => True) v0_ r1 ∧ Below w.heap.size w w' := by
 have hu25 := Tryz.underlying25
 have HB := Aside0.mk (Below.refl w.heap.size w)
 have H : (if a0.toList = ([45] : List UInt8) then (some (([] : List (S25)), true)) else (redpencilref05_Parse.l0 k a0 ([] : List (S25)) 0 0)) = some (r1, r2) := h
 clear h
 by_cases c2 : a0.toList = ([45] : List UInt8)
 ·
  rw [if_pos c2] at H
  have c2b0 : (a0.toList == ([45] : List UInt8)) = true := beq_iff_eq.mpr c2
  have c2b1 : (a0.toList != ([45] : List UInt8)) = false := bne_eq_false_iff_eq.mpr c2
  clear c2
  simp only [Option.some.injEq, Prod.mk.injEq] at H
  obtain ⟨rfl, rfl⟩ := H
  go_enter Tryz.func29, Tryz.ntmps29
  go_wp2
  go_ret2
  exact ⟨_, by first | rfl | (simp [errW_none, errW_some] <;> rfl) | (simp [*, errW_none, errW_some] <;> rfl), by first | exact Kd.R_nil _ _ _ _ _ | exact Kd.N_nil _ _ _ _ _ | exact Kd.V_nil _ _ _ _ _ | exact Kd.Q_nil _ _ _ _ _ | exact Kd.S_nil _ _ _ _ _, by repeat (first | (with_reducible first | exact HB.out | apply below_alloc | apply pw_below_drewN | apply below_drew1) | exact HB.out)⟩
 ·
  rw [if_neg c2] at H
  have c2b0 : (a0.toList == ([45] : List UInt8)) = false := beq_eq_false_iff_ne.mpr c2
  have c2b1 : (a0.toList != ([45] : List UInt8)) = true := bne_iff_ne.mpr c2
  have H' := Aside0.mk H
  clear H
  go_enter Tryz.func29, Tryz.ntmps29
  go_wp2
  go_loopg [4, 5, 6] k (fun kq v4 v5 v6 w' => ∃ (x4_1 : List (S25)) (x5_1 : Int) (x6_1 : Int), v5 = .int .i64 x5_1 ∧ v6 = .int .i64 x6_1 ∧ Aside0 (redpencilref05_Parse.l0 kq a0 x4_1 x5_1 x6_1 = some (r1, r2)) ∧ Aside0 (kq ≤ k) ∧ Aside0 (Kd.R k25 25 w' w.heap.size (fun _ => True) v4 x4_1) ∧ Aside0 (Below w.heap.size w w'))
  case atStart => exact ⟨(([] : List (S25))), (0), (0), (by first | rfl | (simp; done) | (simp [*]; done)), (by first | rfl | (simp; done) | (simp [*]; done)), H', ⟨Nat.le_refl _⟩, ⟨by first | exact Kd.R_nil _ _ _ _ _ | exact Kd.N_nil _ _ _ _ _ | exact Kd.V_nil _ _ _ _ _ | exact Kd.Q_nil _ _ _ _ _ | exact Kd.S_nil _ _ _ _ _⟩, ⟨by repeat (first | (with_reducible first | exact HB.out | apply below_alloc | apply pw_below_drewN | apply below_drew1) | exact HB.out)⟩⟩
  case round =>
   clear H'
   try clear c2
   try clear c2b0
   try clear c2b1
   try clear p2
   obtain ⟨x4_1, x5_1, x6_1, rfl, rfl, HA, HK1, HO_4, HB⟩ := hrel
   cases gk with
   | zero => exact absurd HA.out (by simp [redpencilref05_Parse.l0])
   | succ k1 =>
    have H := HA.out
    clear HA
    simp only [redpencilref05_Parse.l0] at H
    by_cases c3 : x6_1 ≤ (a0.size : Int)
    ·
     rw [if_pos c3] at H
     have c3b0 : decide (x6_1 ≤ (a0.size : Int)) = true := decide_eq_true c3
     clear c3
     have HC4 := Aside0.mk H
     clear H
     go_upto_region 8 with (fail)
     go_cut [26] (fun v26 wc => ∃ (kq : Nat) (x26_3 : Bool), v26 = .bool x26_3 ∧ Aside0 (redpencilref05_Parse.j1 kq a0 x4_1 x5_1 x6_1 x26_3 = some (r1, r2)) ∧ Aside0 (kq ≤ k1) ∧ Aside0 (Kd.R k25 25 wc w.heap.size (fun _ => True) u4 x4_1) ∧ Aside0 (Below w.heap.size w wc))
     case first =>
      have H := HC4.out
      clear HC4
      by_cases c5 : x6_1 < (a0.size : Int)
      ·
       rw [if_pos c5] at H
       have c5b0 : decide (x6_1 < (a0.size : Int)) = true := decide_eq_true c5
       clear c5
       (first | rw [c5b0] | (simp only [i64_w, i32_w]; rw [c5b0]) | skip)
       by_cases c6 : 0 ≤ x6_1
       ·
        rw [if_pos c6] at H
        have c6b0 : decide (0 ≤ x6_1) = true := decide_eq_true c6
        clear c6
        have H' := Aside0.mk H
        clear H
        have p7 : 0 ≤ (x6_1 : Int) := of_decide_eq_true (by first | (with_reducible assumption) | assumption)
        have q7 : x6_1 < (a0.size : Int) := of_decide_eq_true (by first | (with_reducible assumption) | assumption)
        have hx7 := bt_at a0 x6_1
        replace p7 := eq_true p7
        replace q7 := eq_true q7
        go_wp2
        go_meet
        case rel => exact ⟨_, (((bt a0 x6_1) != 32)), (by first | rfl | (simp; done) | (simp [*]; done)), H', ⟨by have := HK1.out; first | omega | exact Nat.le_refl _⟩, ⟨by (with_reducible repeat (first | apply Kd.R_alloc | apply Kd.R_drewN | apply Kd.R_drew)); exact HO_4.out⟩, ⟨by repeat (first | (with_reducible first | exact HB.out | apply below_alloc | apply pw_below_drewN | apply below_drew1) | exact HB.out)⟩⟩
       ·
        rw [if_neg c6] at H
        exact absurd H (by simp)
      ·
       rw [if_neg c5] at H
       have c5b0 : decide (x6_1 < (a0.size : Int)) = false := decide_eq_false c5
       clear c5
       (first | rw [c5b0] | (simp only [i64_w, i32_w]; rw [c5b0]) | skip)
       have H' := Aside0.mk H
       clear H
       go_wp2
       go_meet
       case rel => exact ⟨_, (false), (by first | rfl | (simp; done) | (simp [*]; done)), H', ⟨by have := HK1.out; first | omega | exact Nat.le_refl _⟩, ⟨by (with_reducible repeat (first | apply Kd.R_alloc | apply Kd.R_drewN | apply Kd.R_drew)); exact HO_4.out⟩, ⟨by repeat (first | (with_reducible first | exact HB.out | apply below_alloc | apply pw_below_drewN | apply below_drew1) | exact HB.out)⟩⟩
     case rest =>
      clear HC4
      try clear c2
      try clear c2b0
      try clear c2b1
      try clear p2
      try clear c3
      try clear c3b0
      try clear c5
      try clear c5b0
      try clear c6
      try clear c6b0
      try clear p7
      try clear q7
      try clear hx7
      try clear p2
      try clear p7
      try clear q7
      obtain ⟨kq, x26_3, rfl, HA, HJ3, HO_4, HB⟩ := hcut
      cases kq with
      | zero => exact absurd HA.out (by simp [redpencilref05_Parse.j1])
      | succ kj3 =>
       have H := HA.out
       clear HA
       simp only [redpencilref05_Parse.j1] at H
       by_cases c8 : x26_3 = true
       ·
        subst c8
        have H1 : (redpencilref05_Parse.l0 kj3 a0 x4_1 x5_1 (wrap64 (x6_1 + 1))) = some (r1, r2) := by rw [if_pos rfl] at H; exact H
        clear H
        have H := H1
        clear H1
        have H' := Aside0.mk H
        clear H
        go_wp2
        go_roundg kj3
        case measure => have := HK1.out; have := HJ3.out; omega
        case rel => exact ⟨(x4_1), (x5_1), (wrap64 (x6_1 + 1)), (by first | rfl | (simp; done) | (simp [*]; done)), (by first | rfl | (simp; done) | (simp [*]; done)), H', ⟨by have := HK1.out; have := HJ3.out; omega⟩, ⟨by (with_reducible repeat (first | apply Kd.R_alloc | apply Kd.R_drewN | apply Kd.R_drew)); exact HO_4.out⟩, ⟨by repeat (first | (with_reducible first | exact HB.out | apply below_alloc | apply pw_below_drewN | apply below_drew1) | exact HB.out)⟩⟩
       ·
        replace c8 := Bool.eq_false_iff.mpr c8
        subst c8
        have H1 : (if 0 ≤ x5_1 then (if x5_1 ≤ x6_1 then (if x6_1 ≤ (a0.size : Int) then ((redpencilref04_Parse.f (a0.extract (x5_1 : Int).toNat (x6_1 : Int).toNat)).bind fun bt313 => (if bt313.2.2 = true then (if x4_1.length < 8796093022208 then (redpencilref05_Parse.l0 kj3 a0 (x4_1 ++ [(⟨bt313.1, bt313.2.1⟩ : S25)]) (wrap64 (x6_1 + 1)) (wrap64 (x6_1 + 1))) else (none)) else (some (([] : List (S25)), false)))) else (none)) else (none)) else (none)) = some (r1, r2) := by rw [if_neg (show ¬ (false = true) by decide)] at H; exact H
        clear H
        have H := H1
        clear H1
        by_cases c9 : 0 ≤ x5_1
        ·
         rw [if_pos c9] at H
         have c9b0 := eq_true c9
         have c9b1 : decide (0 ≤ x5_1) = true := decide_eq_true c9
         clear c9
         by_cases c10 : x5_1 ≤ x6_1
         ·
          rw [if_pos c10] at H
          have c10b0 := eq_true c10
          have c10b1 : decide (x5_1 ≤ x6_1) = true := decide_eq_true c10
          clear c10
          by_cases c11 : x6_1 ≤ (a0.size : Int)
          ·
           rw [if_pos c11] at H
           have c11b0 := eq_true c11
           have c11b1 : decide (x6_1 ≤ (a0.size : Int)) = true := decide_eq_true c11
           clear c11
           replace H := Option.bind_eq_some_iff.mp H
           obtain ⟨⟨t313, t314, t315⟩, A120, H⟩ := H
           replace H : (if t315 = true then (if x4_1.length < 8796093022208 then (redpencilref05_Parse.l0 kj3 a0 (x4_1 ++ [(⟨t313, t314⟩ : S25)]) (wrap64 (x6_1 + 1)) (wrap64 (x6_1 + 1))) else (none)) else (some (([] : List (S25)), false))) = some (r1, r2) := H
           have A12 := Aside0.mk A120
           clear A120
           by_cases c13 : t315 = true
           ·
            subst c13
            have H1 : (if x4_1.length < 8796093022208 then (redpencilref05_Parse.l0 kj3 a0 (x4_1 ++ [(⟨t313, t314⟩ : S25)]) (wrap64 (x6_1 + 1)) (wrap64 (x6_1 + 1))) else (none)) = some (r1, r2) := by rw [if_pos rfl] at H; exact H
            clear H
            have H := H1
            clear H1
            by_cases c14 : x4_1.length < 8796093022208
            ·
             rw [if_pos c14] at H
             have LMc14 := Aside0.mk c14
             clear c14
             obtain ⟨y317, hy317⟩ : ∃ y_ : List (S25), y_ = (x4_1 ++ [(⟨t313, t314⟩ : S25)]) := ⟨_, rfl⟩
             replace H : (redpencilref05_Parse.l0 kj3 a0 y317 (wrap64 (x6_1 + 1)) (wrap64 (x6_1 + 1))) = some (r1, r2) := by first | (rw [hy317]; with_reducible exact H) | (have H2_ := (Option.bind_some _ _).symm.trans H; rw [hy317]; with_reducible exact H2_) | (have H2_ := (Option.bind_some _ _).symm.trans H; with_reducible exact H2_) | with_reducible exact H | (rw [hy317]; exact H) | exact H
             have Ny317 := Aside0.mk hy317
             clear hy317
             have H' := Aside0.mk H
             clear H
             go_wp2_with (first | ((with_reducible refine gate_callee (f := 45) rfl ?_); refine goesL_ (some 32) rfl rfl Tryz.func45 (by kernel_rfl) rfl #[.string (a0.extract (x5_1 : Int).toNat (x6_1 : Int).toNat)] rfl (by (try simp only [List.map_toArray, List.map_cons, List.map_nil]); first | done | rfl | (simp only [List.length_drop, List.length_take]; rfl)) ?_; (with_reducible refine (redpencilref04_Parse.calls (a0.extract (x5_1 : Int).toNat (x6_1 : Int).toNat) t313 t314 true _ A12.out).mono ?_); rintro e w15 ⟨rfl, hb⟩; (try clear A12); refine ⟨_, rfl, ?_⟩; have n0_ := Aside0.mk (Kd.R_below (by (with_reducible repeat (first | apply Kd.R_alloc | apply Kd.R_drewN | apply Kd.R_drew)); exact HO_4.out) hb); have n1_ := Aside0.mk (below_step (by repeat (first | (with_reducible first | exact HB.out | apply below_alloc | apply pw_below_drewN | apply below_drew1) | exact HB.out)) hb); clear HO_4; clear HB; have HO_4 := n0_; have HB := n1_; clear n0_ n1_; (try clear hb); (try clear hb2); (try clear hk); (try clear hi)) | ((with_reducible refine gate_dst (N := 7) rfl ?_); refine box_event ?hg (N := 7) ?hd (cs := #[.int .i64 0, .int .i64 0]) (t := 25) ?hr ?_; (case hd => rfl); (case hg => rfl); (case hr => first | (go_simp; done) | (go_simp; rfl)); intro gb316 hg w16 hbox hb; have n0_ := Aside0.mk (Kd.R_below (Kd.R_elderB (by (with_reducible repeat (first | apply Kd.R_alloc | apply Kd.R_drewN | apply Kd.R_drew)); exact HO_4.out) gb316 (Nat.le_of_eq hg.symm)) hb); have n1_ := Aside0.mk (below_step (by repeat (first | (with_reducible first | exact HB.out | apply below_alloc | apply pw_below_drewN | apply below_drew1) | exact HB.out)) hb); have n2_ := Aside0.mk (hbox); have n3_ := Aside0.mk ((by rw [hg]; exact (below_size (by repeat (first | (with_reducible first | exact HB.out | apply below_alloc | apply pw_below_drewN | apply below_drew1) | exact HB.out))) : w.heap.size ≤ gb316)); have n4_ := Aside0.mk ((by rw [hg]; exact (below_size (by repeat (first | (with_reducible first | exact HB.out | apply below_alloc | apply pw_below_drewN | apply below_drew1) | exact HB.out))) : w.heap.size ≤ gb316)); clear HO_4; clear HB; have HO_4 := n0_; have HB := n1_; have BK316 := n2_; have GW316 := n3_; have GE316 := n4_; clear n0_ n1_ n2_ n3_ n4_; clear hb hbox hg; have hcz17_0 : w16.cell? ⟨gb316, 0, none⟩ = some (.int .i64 0) := (blk_cell BK316.out 0).trans rfl; have hcz17_1 : w16.cell? ⟨gb316, 1, none⟩ = some (.int .i64 0) := (blk_cell BK316.out 1).trans rfl; have hfz17_0 := blk_frozen BK316.out 0; have hfz17_1 := blk_frozen BK316.out 1) | ((with_reducible refine gate_builtin (b := .append) (xs := #[.tmp 37, .tmp 39]) rfl ?_); at_builtin; refine Kd.R_append k25 (w0 := w) w.heap.size rfl (.tmp 37) (.tmp 39) 23 25 (.agg #[(.int .i64 0), (.int .i64 0)]) 16 rfl Tryz.underlying23 info25 rfl (by decide) (by omega) u4 x4_1 (⟨t313, t314⟩ : S25) [.int .i64 t313, .int .i64 t314] (fun k_ => k_ ≠ gb316) (fun _ => False) rfl (by first | (go_simp; done) | (go_simp; rfl)) ?aP (fun _ hk => hk.elim) ?aF ?aO ?aB ?aS ?aL ?_; (case aP => exact k25_mkM _ _ _ (⟨t313, t314⟩ : S25)); (case aB => exact (by repeat (first | (with_reducible first | exact HB.out | apply below_alloc | apply pw_below_drewN | apply below_drew1 | refine below_set ?_ GE316.out) | exact HB.out))); (case aF => exact (fun k_ hk => Kd.freshB (g := gb316) (o := .cells #[.int .i64 t313, .int .i64 t314] 25 (0, 0)) (by (with_reducible repeat (first | refine blk_drewN ?_ _ | refine blk_drew ?_ | refine blk_alloc ?_ _)); refine blk_put (cs := #[.int .i64 t313, .int .i64 0]) ?_ 1 _ rfl; (with_reducible repeat (first | refine blk_drewN ?_ _ | refine blk_drew ?_ | refine blk_alloc ?_ _)); refine blk_put (cs := #[.int .i64 0, .int .i64 0]) ?_ 0 _ rfl; (with_reducible repeat (first | refine blk_drewN ?_ _ | refine blk_drew ?_ | refine blk_alloc ?_ _)); exact BK316.out) k_ hk)); (case aO => exact (by (with_reducible repeat (first | apply Kd.R_alloc | apply Kd.R_drewN | apply Kd.R_drew)); exact Kd.R_mono (Kd.R_far (p := ⟨gb316, 1, none⟩) (Kd.R_far (p := ⟨gb316, 0, none⟩) (Kd.R_mono HO_4.out (fun k_ hk => (⟨hk, hk.2⟩ : _ ∧ k_ ≠ gb316))) (fun _ hk => hk.2) (.int .i64 t313)) (fun _ hk => hk.2) (.int .i64 t314)) (fun _ hk => hk.1.2))); (case aS => exact (below_size (by repeat (first | (with_reducible first | exact HB.out | apply below_alloc | apply pw_below_drewN | apply below_drew1 | refine below_set ?_ GE316.out) | exact HB.out)))); (case aL => have := LMc14.out; omega); intro v318 w18 ho hb hg hat; rw [← Ny317.out] at ho; have n0_ := Aside0.mk (blk_grown (g := gb316) (o := .cells #[.int .i64 t313, .int .i64 t314] 25 (0, 0)) (by (with_reducible repeat (first | refine blk_drewN ?_ _ | refine blk_drew ?_ | refine blk_alloc ?_ _)); refine blk_put (cs := #[.int .i64 t313, .int .i64 0]) ?_ 1 _ rfl; (with_reducible repeat (first | refine blk_drewN ?_ _ | refine blk_drew ?_ | refine blk_alloc ?_ _)); refine blk_put (cs := #[.int .i64 0, .int .i64 0]) ?_ 0 _ rfl; (with_reducible repeat (first | refine blk_drewN ?_ _ | refine blk_drew ?_ | refine blk_alloc ?_ _)); exact BK316.out) hg (Kd.R_away HO_4.out (fun _ hk => hk.2))); have n1_ := Aside0.mk (hb); have n2_ := Aside0.mk (ho); clear BK316; clear HB; clear HO_4; have BK316 := n0_; have HB := n1_; have HO319 := n2_; clear n0_ n1_ n2_; clear ho hb hg hat))
             go_roundg kj3
             case measure => have := HK1.out; have := HJ3.out; omega
             case rel => exact ⟨(y317), (wrap64 (x6_1 + 1)), (wrap64 (x6_1 + 1)), (by first | rfl | (simp; done) | (simp [*]; done)), (by first | rfl | (simp; done) | (simp [*]; done)), H', ⟨by have := HK1.out; have := HJ3.out; omega⟩, ⟨by (with_reducible repeat (first | apply Kd.R_alloc | apply Kd.R_drewN | apply Kd.R_drew)); exact Kd.R_mono HO319.out (fun _ hk => trivial)⟩, ⟨by repeat (first | (with_reducible first | exact HB.out | apply below_alloc | apply pw_below_drewN | apply below_drew1 | refine below_set ?_ GE316.out) | exact HB.out)⟩⟩
            ·
             rw [if_neg c14] at H
             exact absurd H (by simp)
           ·
            replace c13 := Bool.eq_false_iff.mpr c13
            subst c13
            have H1 : (some (([] : List (S25)), false)) = some (r1, r2) := by rw [if_neg (show ¬ (false = true) by decide)] at H; exact H
            clear H
            have H := H1
            clear H1
            simp only [Option.some.injEq, Prod.mk.injEq] at H
            obtain ⟨rfl, rfl⟩ := H
            go_wp2_with (first | ((with_reducible refine gate_callee (f := 45) rfl ?_); refine goesL_ (some 32) rfl rfl Tryz.func45 (by kernel_rfl) rfl #[.string (a0.extract (x5_1 : Int).toNat (x6_1 : Int).toNat)] rfl (by (try simp only [List.map_toArray, List.map_cons, List.map_nil]); first | done | rfl | (simp only [List.length_drop, List.length_take]; rfl)) ?_; (with_reducible refine (redpencilref04_Parse.calls (a0.extract (x5_1 : Int).toNat (x6_1 : Int).toNat) t313 t314 false _ A12.out).mono ?_); rintro e w19 ⟨rfl, hb⟩; (try clear A12); refine ⟨_, rfl, ?_⟩; have n0_ := Aside0.mk (Kd.R_below (by (with_reducible repeat (first | apply Kd.R_alloc | apply Kd.R_drewN | apply Kd.R_drew)); exact HO_4.out) hb); have n1_ := Aside0.mk (below_step (by repeat (first | (with_reducible first | exact HB.out | apply below_alloc | apply pw_below_drewN | apply below_drew1) | exact HB.out)) hb); clear HO_4; clear HB; have HO_4 := n0_; have HB := n1_; clear n0_ n1_; (try clear hb); (try clear hb2); (try clear hk); (try clear hi)) | ((with_reducible refine gate_dst (N := 7) rfl ?_); refine box_event ?hg (N := 7) ?hd (cs := #[.int .i64 0, .int .i64 0]) (t := 25) ?hr ?_; (case hd => rfl); (case hg => rfl); (case hr => first | (go_simp; done) | (go_simp; rfl)); intro gb316 hg w20 hbox hb; have n0_ := Aside0.mk (Kd.R_below (Kd.R_elderB (by (with_reducible repeat (first | apply Kd.R_alloc | apply Kd.R_drewN | apply Kd.R_drew)); exact HO_4.out) gb316 (Nat.le_of_eq hg.symm)) hb); have n1_ := Aside0.mk (below_step (by repeat (first | (with_reducible first | exact HB.out | apply below_alloc | apply pw_below_drewN | apply below_drew1) | exact HB.out)) hb); have n2_ := Aside0.mk (hbox); have n3_ := Aside0.mk ((by rw [hg]; exact (below_size (by repeat (first | (with_reducible first | exact HB.out | apply below_alloc | apply pw_below_drewN | apply below_drew1) | exact HB.out))) : w.heap.size ≤ gb316)); have n4_ := Aside0.mk ((by rw [hg]; exact (below_size (by repeat (first | (with_reducible first | exact HB.out | apply below_alloc | apply pw_below_drewN | apply below_drew1) | exact HB.out))) : w.heap.size ≤ gb316)); clear HO_4; clear HB; have HO_4 := n0_; have HB := n1_; have BK316 := n2_; have GW316 := n3_; have GE316 := n4_; clear n0_ n1_ n2_ n3_ n4_; clear hb hbox hg; have hcz21_0 : w20.cell? ⟨gb316, 0, none⟩ = some (.int .i64 0) := (blk_cell BK316.out 0).trans rfl; have hcz21_1 : w20.cell? ⟨gb316, 1, none⟩ = some (.int .i64 0) := (blk_cell BK316.out 1).trans rfl; have hfz21_0 := blk_frozen BK316.out 0; have hfz21_1 := blk_frozen BK316.out 1))
            go_ret2
            exact ⟨_, by first | rfl | (simp [errW_none, errW_some] <;> rfl) | (simp [*, errW_none, errW_some] <;> rfl), by first | exact Kd.R_nil _ _ _ _ _ | exact Kd.N_nil _ _ _ _ _ | exact Kd.V_nil _ _ _ _ _ | exact Kd.Q_nil _ _ _ _ _ | exact Kd.S_nil _ _ _ _ _, by repeat (first | (with_reducible first | exact HB.out | apply below_alloc | apply pw_below_drewN | apply below_drew1 | refine below_set ?_ GE316.out) | exact HB.out)⟩
          ·
           rw [if_neg c11] at H
           exact absurd H (by simp)
         ·
          rw [if_neg c10] at H
          exact absurd H (by simp)
        ·
         rw [if_neg c9] at H
         exact absurd H (by simp)
    ·
     rw [if_neg c3] at H
     have c3b0 : decide (x6_1 ≤ (a0.size : Int)) = false := decide_eq_false c3
     clear c3
     replace H := Option.bind_eq_some_iff.mp H
     obtain ⟨t312, A220, H⟩ := H
     replace H : (if t312 = true then (some (x4_1, true)) else (some (([] : List (S25)), false))) = some (r1, r2) := H
     have A22 := Aside0.mk A220
     clear A220
     by_cases c23 : t312 = true
     ·
      subst c23
      have H1 : (some (x4_1, true)) = some (r1, r2) := by rw [if_pos rfl] at H; exact H
      clear H
      have H := H1
      clear H1
      simp only [Option.some.injEq, Prod.mk.injEq] at H
      obtain ⟨rfl, rfl⟩ := H
      obtain ⟨Ao24, co24, eo24⟩ := Kd.R_slice HO_4.out
      subst eo24
      go_wp2_with (first | ((with_reducible refine gate_callee (f := 10) rfl ?_); refine goesL_ (some 44) rfl rfl Tryz.func10 (by kernel_rfl) rfl #[.slice Ao24 x4_1.length co24] rfl (by (try simp only [List.map_toArray, List.map_cons, List.map_nil]); first | done | rfl | (simp only [List.length_drop, List.length_take]; rfl)) ?_; (with_reducible refine (redpencilref05_Valid.calls k1 _ _ x4_1 true _ ?side1 ?side2 A22.out).mono ?_); (case side1 => repeat (first | exact (Kd.R_reads' HO_4.out).2.2 | (with_reducible refine Kd.C_alloc ?_ _) | (with_reducible refine Kd.C_drewN ?_ _) | (with_reducible refine Kd.C_drew ?_))); (case side2 => exact (Kd.R_reads' HO_4.out).2.1); rintro e w25 ⟨rfl, hb⟩; (try clear A22); refine ⟨_, rfl, ?_⟩; have n0_ := Aside0.mk (Kd.R_below (by (with_reducible repeat (first | apply Kd.R_alloc | apply Kd.R_drewN | apply Kd.R_drew)); exact HO_4.out) hb); have n1_ := Aside0.mk (below_step (by repeat (first | (with_reducible first | exact HB.out | apply below_alloc | apply pw_below_drewN | apply below_drew1) | exact HB.out)) hb); clear HO_4; clear HB; have HO_4 := n0_; have HB := n1_; clear n0_ n1_; (try clear hb); (try clear hb2); (try clear hk); (try clear hi)))
      go_ret2
      exact ⟨_, by first | rfl | (simp [errW_none, errW_some] <;> rfl) | (simp [*, errW_none, errW_some] <;> rfl), by (with_reducible repeat (first | apply Kd.R_alloc | apply Kd.R_drewN | apply Kd.R_drew)); exact HO_4.out, by repeat (first | (with_reducible first | exact HB.out | apply below_alloc | apply pw_below_drewN | apply below_drew1) | exact HB.out)⟩
     ·
      replace c23 := Bool.eq_false_iff.mpr c23
      subst c23
      have H1 : (some (([] : List (S25)), false)) = some (r1, r2) := by rw [if_neg (show ¬ (false = true) by decide)] at H; exact H
      clear H
      have H := H1
      clear H1
      simp only [Option.some.injEq, Prod.mk.injEq] at H
      obtain ⟨rfl, rfl⟩ := H
      obtain ⟨Ao26, co26, eo26⟩ := Kd.R_slice HO_4.out
      subst eo26
      go_wp2_with (first | ((with_reducible refine gate_callee (f := 10) rfl ?_); refine goesL_ (some 44) rfl rfl Tryz.func10 (by kernel_rfl) rfl #[.slice Ao26 x4_1.length co26] rfl (by (try simp only [List.map_toArray, List.map_cons, List.map_nil]); first | done | rfl | (simp only [List.length_drop, List.length_take]; rfl)) ?_; (with_reducible refine (redpencilref05_Valid.calls k1 _ _ x4_1 false _ ?side1 ?side2 A22.out).mono ?_); (case side1 => repeat (first | exact (Kd.R_reads' HO_4.out).2.2 | (with_reducible refine Kd.C_alloc ?_ _) | (with_reducible refine Kd.C_drewN ?_ _) | (with_reducible refine Kd.C_drew ?_))); (case side2 => exact (Kd.R_reads' HO_4.out).2.1); rintro e w27 ⟨rfl, hb⟩; (try clear A22); refine ⟨_, rfl, ?_⟩; have n0_ := Aside0.mk (Kd.R_below (by (with_reducible repeat (first | apply Kd.R_alloc | apply Kd.R_drewN | apply Kd.R_drew)); exact HO_4.out) hb); have n1_ := Aside0.mk (below_step (by repeat (first | (with_reducible first | exact HB.out | apply below_alloc | apply pw_below_drewN | apply below_drew1) | exact HB.out)) hb); clear HO_4; clear HB; have HO_4 := n0_; have HB := n1_; clear n0_ n1_; (try clear hb); (try clear hb2); (try clear hk); (try clear hi)))
      go_ret2
      exact ⟨_, by first | rfl | (simp [errW_none, errW_some] <;> rfl) | (simp [*, errW_none, errW_some] <;> rfl), by first | exact Kd.R_nil _ _ _ _ _ | exact Kd.N_nil _ _ _ _ _ | exact Kd.V_nil _ _ _ _ _ | exact Kd.Q_nil _ _ _ _ _ | exact Kd.S_nil _ _ _ _ _, by repeat (first | (with_reducible first | exact HB.out | apply below_alloc | apply pw_below_drewN | apply below_drew1) | exact HB.out)⟩

end Go.Proofs.YtnbjkpfpcggopaaGreatDoor.PAll
