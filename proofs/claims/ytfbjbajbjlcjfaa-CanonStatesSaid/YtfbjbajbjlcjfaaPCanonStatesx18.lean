-- Printed by a program of this session (wip/tools/mkprint2.py) out of the translation; Lean checks it. -- narrowed
import Derived.Test.YtfbjbajbjlcjfaaPCanonStatesx0
import Derived.Test.YtfbjbajbjlcjfaaPCanonStatesx3
import Derived.Test.YtfbjbajbjlcjfaaPCanonStatesx17
namespace Go.Proofs.Ytfbjbajbjlcjfaa.PCanonStates
open Go.RowKit Go.Proofs.YtfbjbajbjlcjfaaW.PrintWords Go.Proofs.YtfbjbajbjlcjfaaW.PrintLast Go.Proofs.YtfbjbajbjlcjfaaW.PrintMore
attribute [local go_sem] max2_int min2_int max_two min_two max_three min_three max_four min_four   -- for this text's walks alone
set_option linter.unusedVariables false
set_option linter.unusedSimpArgs false

/-! ### redpencillaw17_known: function 8 -/
def redpencillaw17_known.j0 : Nat → List (S38) → Bool → Option (Bool)
 | 0, _, _ => none
 | k + 1, x2, x32 => if x32 = true then (some false) else ((redpencillaw17_appends.f (([9] : List Int)) ([] : List (S38)) (([9, 0, 0] : List Int)) 0).bind fun t153 => (if t153 = true then ((redpencillaw17_dot.f 1 2).bind fun bt154 => ((redpencillaw17_dot.f 3 300).bind fun bt159 => ((redpencillaw17_contexts.f (([(⟨bt154.1, bt154.2⟩ : S36)] : List (S36))) (([(⟨bt159.1, bt159.2⟩ : S36)] : List (S36))) (([1, 1, 2, 1, 3, 172, 2] : List Int)) 0).bind fun t167 => (if t167 = true then ((redpencillaw17_contexts.f ([] : List (S36)) ([] : List (S36)) (([0, 0] : List Int)) 0).bind fun t171 => (if t171 = true then (if 1 < (x2.length : Int) then (if 0 < (x2.length : Int) then ((redpencillaw17_encodes.f (([(⟨(⟨(rd_T38 x2 1).f0.f0, (rd_T38 x2 1).f0.f1⟩ : S36), (⟨(rd_T38 x2 1).f1.f0, (rd_T38 x2 1).f1.f1⟩ : S36), (rd_T38 x2 1).f2, (rd_T38 x2 1).f3⟩ : S38), (⟨(⟨(rd_T38 x2 0).f0.f0, (rd_T38 x2 0).f0.f1⟩ : S36), (⟨(rd_T38 x2 0).f1.f0, (rd_T38 x2 0).f1.f1⟩ : S36), (rd_T38 x2 0).f2, (rd_T38 x2 0).f3⟩ : S38)] : List (S38))) ([] : List Int) 2).bind fun t177 => (some t177)) else (none)) else (none)) else (some false))) else (some false))))) else (some false)))
def redpencillaw17_known.f (k : Nat)  : Option (Bool) := (redpencillaw17_dot.f 1 1).bind fun bt117 => ((redpencillaw17_dot.f 2 3).bind fun bt120 => ((redpencillaw17_dot.f 1 2).bind fun bt122 => ((redpencillaw17_dot.f 1 200).bind fun bt124 => ((redpencillaw17_dot.f 2 3).bind fun bt126 => ((some (([(⟨(⟨bt120.1, bt120.2⟩ : S36), (⟨bt122.1, bt122.2⟩ : S36), 70, 0⟩ : S38), (⟨(⟨bt124.1, bt124.2⟩ : S36), (⟨bt126.1, bt126.2⟩ : S36), 71, 233⟩ : S38)] : List (S38)) : List (S38))).bind fun y128 => ((redpencillaw17_encodes.f ([] : List (S38)) (([0, 0] : List Int)) 0).bind fun t134 => (if t134 = true then ((redpencillaw17_encodes.f (([(⟨(⟨bt117.1, bt117.2⟩ : S36), (⟨0, 0⟩ : S36), 1, 97⟩ : S38)] : List (S38))) (([1, 1, 1, 0, 2, 1, 97] : List Int)) 0).bind fun t141 => (if t141 = true then ((redpencillaw17_encodes.f y128 (([2, 2, 3, 1, 2, 141, 1, 1, 197, 1, 2, 3, 142, 1, 2, 195, 169] : List Int)) 0).bind fun t145 => (if t145 = true then ((redpencillaw17_sizes.f y128 17 0).bind fun t146 => (redpencillaw17_known.j0 k y128 (!t146))) else (redpencillaw17_known.j0 k y128 true))) else (redpencillaw17_known.j0 k y128 true))) else (redpencillaw17_known.j0 k y128 true))))))))
theorem redpencillaw17_known.mono_l : ∀ k, (∀ y0 y1, LeO (redpencillaw17_known.j0 k y0 y1) (redpencillaw17_known.j0 (k + 1) y0 y1))
 | 0 => fun _ _ r h => by simp [redpencillaw17_known.j0] at h
 | k + 1 => by
  have ih0 := redpencillaw17_known.mono_l k
  ·
   intro y0 y1
   unfold redpencillaw17_known.j0
   repeat' first
   | (with_reducible exact ih0 _ _)
   | (with_reducible exact LeO.refl _)
   | (with_reducible exact LeO.none _)
   | (with_reducible refine LeO.ite ?_ ?_)
   | (with_reducible refine LeO.bind ?_ (fun _ => ?_))
   | exact ih0 _ _
   | exact LeO.none _
   | refine LeO.ite ?_ ?_
   | refine LeO.bind ?_ (fun _ => ?_)
theorem redpencillaw17_known.mono : ∀ k, LeO (redpencillaw17_known.f k ) (redpencillaw17_known.f (k + 1) ) := by
 intro  k
 have ih0 := redpencillaw17_known.mono_l k
 unfold redpencillaw17_known.f
 repeat' first
   | (with_reducible exact ih0 _ _)
   | (with_reducible exact LeO.refl _)
   | (with_reducible exact LeO.none _)
   | (with_reducible refine LeO.ite ?_ ?_)
   | (with_reducible refine LeO.bind ?_ (fun _ => ?_))
   | exact ih0 _ _
   | exact LeO.none _
   | refine LeO.ite ?_ ?_
   | refine LeO.bind ?_ (fun _ => ?_)
def redpencillaw17_known.T5 : Bool × List (List Nat × List Nat) := (true, [([], []), ([], []), ([0, 1], [0, 1]), ([2, 2], [2]), ([3, 3], [3]), ([4, 3], [3, 4]), ([4, 3], [3]), ([6, 3], [3, 6]), ([5, 7, 3], [3, 5, 7]), ([3], [3]), ([8, 9, 6, 3], [3, 8, 9]), ([3, 10], [3, 10]), ([11, 10], [11]), ([12], [12]), ([12], [12]), ([13, 14, 12, 12], [12, 13, 14]), ([12, 15], [12, 15]), ([16, 15], [16]), ([17], [17]), ([18, 17], [17, 18]), ([19, 17], [17, 19]), ([17], [17]), ([21, 17], [17, 21]), ([22, 17], [17, 22]), ([20, 23, 17], [17, 20, 23]), ([24, 17, 17], [17, 24]), ([17, 25], [17, 25]), ([26, 25, 0, 1, 2, 3, 4, 5, 6, 7, 8, 9, 10, 11, 12, 13, 14, 15, 16, 17, 18, 19, 20, 21, 22, 23, 24, 25, 26], [26])])
def redpencillaw17_known.B5 : List Nat := [0, 0, 3, 7, 15, 31, 31, 95, 255, 15, 1023, 2047, 4095, 8191, 8191, 32767, 65535, 131071, 262143, 524287, 1048575, 262143, 2359295, 6553599, 16777215, 33554431, 67108863, 134217727]
theorem redpencillaw17_known.tab5 : rtab .any (opsOf Try.f8 5) = redpencillaw17_known.T5 := by kernel_rfl
theorem redpencillaw17_known.bits5 : waitsOk redpencillaw17_known.T5.2 redpencillaw17_known.B5 = true := by kernel_rfl
set_option maxHeartbeats 8000000 in
set_option maxRecDepth 100000 in
theorem redpencillaw17_known.callsT (k : Nat)  (w : World) (h : redpencillaw17_known.f k  = some true) :
  Calls Try.prog 8 #[] w fun e w' => e = .returned (.bool true) ∧ Below w.heap.size w w' := by
 have hu38 := Try.underlying38
 have hu43 := Try.underlying43
 have HB := Aside0.mk (Below.refl w.heap.size w)
 have H : ((redpencillaw17_dot.f 1 1).bind fun bt117 => ((redpencillaw17_dot.f 2 3).bind fun bt120 => ((redpencillaw17_dot.f 1 2).bind fun bt122 => ((redpencillaw17_dot.f 1 200).bind fun bt124 => ((redpencillaw17_dot.f 2 3).bind fun bt126 => ((some (([(⟨(⟨bt120.1, bt120.2⟩ : S36), (⟨bt122.1, bt122.2⟩ : S36), 70, 0⟩ : S38), (⟨(⟨bt124.1, bt124.2⟩ : S36), (⟨bt126.1, bt126.2⟩ : S36), 71, 233⟩ : S38)] : List (S38)) : List (S38))).bind fun y128 => ((redpencillaw17_encodes.f ([] : List (S38)) (([0, 0] : List Int)) 0).bind fun t134 => (if t134 = true then ((redpencillaw17_encodes.f (([(⟨(⟨bt117.1, bt117.2⟩ : S36), (⟨0, 0⟩ : S36), 1, 97⟩ : S38)] : List (S38))) (([1, 1, 1, 0, 2, 1, 97] : List Int)) 0).bind fun t141 => (if t141 = true then ((redpencillaw17_encodes.f y128 (([2, 2, 3, 1, 2, 141, 1, 1, 197, 1, 2, 3, 142, 1, 2, 195, 169] : List Int)) 0).bind fun t145 => (if t145 = true then ((redpencillaw17_sizes.f y128 17 0).bind fun t146 => (redpencillaw17_known.j0 k y128 (!t146))) else (redpencillaw17_known.j0 k y128 true))) else (redpencillaw17_known.j0 k y128 true))) else (redpencillaw17_known.j0 k y128 true))))))))) = some true := h
 clear h
 replace H := Option.bind_eq_some_iff.mp H
 obtain ⟨⟨t117, t118⟩, A10, H⟩ := H
 replace H : ((redpencillaw17_dot.f 2 3).bind fun bt120 => ((redpencillaw17_dot.f 1 2).bind fun bt122 => ((redpencillaw17_dot.f 1 200).bind fun bt124 => ((redpencillaw17_dot.f 2 3).bind fun bt126 => ((some (([(⟨(⟨bt120.1, bt120.2⟩ : S36), (⟨bt122.1, bt122.2⟩ : S36), 70, 0⟩ : S38), (⟨(⟨bt124.1, bt124.2⟩ : S36), (⟨bt126.1, bt126.2⟩ : S36), 71, 233⟩ : S38)] : List (S38)) : List (S38))).bind fun y128 => ((redpencillaw17_encodes.f ([] : List (S38)) (([0, 0] : List Int)) 0).bind fun t134 => (if t134 = true then ((redpencillaw17_encodes.f (([(⟨(⟨t117, t118⟩ : S36), (⟨0, 0⟩ : S36), 1, 97⟩ : S38)] : List (S38))) (([1, 1, 1, 0, 2, 1, 97] : List Int)) 0).bind fun t141 => (if t141 = true then ((redpencillaw17_encodes.f y128 (([2, 2, 3, 1, 2, 141, 1, 1, 197, 1, 2, 3, 142, 1, 2, 195, 169] : List Int)) 0).bind fun t145 => (if t145 = true then ((redpencillaw17_sizes.f y128 17 0).bind fun t146 => (redpencillaw17_known.j0 k y128 (!t146))) else (redpencillaw17_known.j0 k y128 true))) else (redpencillaw17_known.j0 k y128 true))) else (redpencillaw17_known.j0 k y128 true)))))))) = some true := H
 have A1 := Aside0.mk A10
 clear A10
 replace H := Option.bind_eq_some_iff.mp H
 obtain ⟨⟨t120, t121⟩, A20, H⟩ := H
 replace H : ((redpencillaw17_dot.f 1 2).bind fun bt122 => ((redpencillaw17_dot.f 1 200).bind fun bt124 => ((redpencillaw17_dot.f 2 3).bind fun bt126 => ((some (([(⟨(⟨t120, t121⟩ : S36), (⟨bt122.1, bt122.2⟩ : S36), 70, 0⟩ : S38), (⟨(⟨bt124.1, bt124.2⟩ : S36), (⟨bt126.1, bt126.2⟩ : S36), 71, 233⟩ : S38)] : List (S38)) : List (S38))).bind fun y128 => ((redpencillaw17_encodes.f ([] : List (S38)) (([0, 0] : List Int)) 0).bind fun t134 => (if t134 = true then ((redpencillaw17_encodes.f (([(⟨(⟨t117, t118⟩ : S36), (⟨0, 0⟩ : S36), 1, 97⟩ : S38)] : List (S38))) (([1, 1, 1, 0, 2, 1, 97] : List Int)) 0).bind fun t141 => (if t141 = true then ((redpencillaw17_encodes.f y128 (([2, 2, 3, 1, 2, 141, 1, 1, 197, 1, 2, 3, 142, 1, 2, 195, 169] : List Int)) 0).bind fun t145 => (if t145 = true then ((redpencillaw17_sizes.f y128 17 0).bind fun t146 => (redpencillaw17_known.j0 k y128 (!t146))) else (redpencillaw17_known.j0 k y128 true))) else (redpencillaw17_known.j0 k y128 true))) else (redpencillaw17_known.j0 k y128 true))))))) = some true := H
 have A2 := Aside0.mk A20
 clear A20
 replace H := Option.bind_eq_some_iff.mp H
 obtain ⟨⟨t122, t123⟩, A30, H⟩ := H
 replace H : ((redpencillaw17_dot.f 1 200).bind fun bt124 => ((redpencillaw17_dot.f 2 3).bind fun bt126 => ((some (([(⟨(⟨t120, t121⟩ : S36), (⟨t122, t123⟩ : S36), 70, 0⟩ : S38), (⟨(⟨bt124.1, bt124.2⟩ : S36), (⟨bt126.1, bt126.2⟩ : S36), 71, 233⟩ : S38)] : List (S38)) : List (S38))).bind fun y128 => ((redpencillaw17_encodes.f ([] : List (S38)) (([0, 0] : List Int)) 0).bind fun t134 => (if t134 = true then ((redpencillaw17_encodes.f (([(⟨(⟨t117, t118⟩ : S36), (⟨0, 0⟩ : S36), 1, 97⟩ : S38)] : List (S38))) (([1, 1, 1, 0, 2, 1, 97] : List Int)) 0).bind fun t141 => (if t141 = true then ((redpencillaw17_encodes.f y128 (([2, 2, 3, 1, 2, 141, 1, 1, 197, 1, 2, 3, 142, 1, 2, 195, 169] : List Int)) 0).bind fun t145 => (if t145 = true then ((redpencillaw17_sizes.f y128 17 0).bind fun t146 => (redpencillaw17_known.j0 k y128 (!t146))) else (redpencillaw17_known.j0 k y128 true))) else (redpencillaw17_known.j0 k y128 true))) else (redpencillaw17_known.j0 k y128 true)))))) = some true := H
 have A3 := Aside0.mk A30
 clear A30
 replace H := Option.bind_eq_some_iff.mp H
 obtain ⟨⟨t124, t125⟩, A40, H⟩ := H
 replace H : ((redpencillaw17_dot.f 2 3).bind fun bt126 => ((some (([(⟨(⟨t120, t121⟩ : S36), (⟨t122, t123⟩ : S36), 70, 0⟩ : S38), (⟨(⟨t124, t125⟩ : S36), (⟨bt126.1, bt126.2⟩ : S36), 71, 233⟩ : S38)] : List (S38)) : List (S38))).bind fun y128 => ((redpencillaw17_encodes.f ([] : List (S38)) (([0, 0] : List Int)) 0).bind fun t134 => (if t134 = true then ((redpencillaw17_encodes.f (([(⟨(⟨t117, t118⟩ : S36), (⟨0, 0⟩ : S36), 1, 97⟩ : S38)] : List (S38))) (([1, 1, 1, 0, 2, 1, 97] : List Int)) 0).bind fun t141 => (if t141 = true then ((redpencillaw17_encodes.f y128 (([2, 2, 3, 1, 2, 141, 1, 1, 197, 1, 2, 3, 142, 1, 2, 195, 169] : List Int)) 0).bind fun t145 => (if t145 = true then ((redpencillaw17_sizes.f y128 17 0).bind fun t146 => (redpencillaw17_known.j0 k y128 (!t146))) else (redpencillaw17_known.j0 k y128 true))) else (redpencillaw17_known.j0 k y128 true))) else (redpencillaw17_known.j0 k y128 true))))) = some true := H
 have A4 := Aside0.mk A40
 clear A40
 replace H := Option.bind_eq_some_iff.mp H
 obtain ⟨⟨t126, t127⟩, A50, H⟩ := H
 replace H : ((some (([(⟨(⟨t120, t121⟩ : S36), (⟨t122, t123⟩ : S36), 70, 0⟩ : S38), (⟨(⟨t124, t125⟩ : S36), (⟨t126, t127⟩ : S36), 71, 233⟩ : S38)] : List (S38)) : List (S38))).bind fun y128 => ((redpencillaw17_encodes.f ([] : List (S38)) (([0, 0] : List Int)) 0).bind fun t134 => (if t134 = true then ((redpencillaw17_encodes.f (([(⟨(⟨t117, t118⟩ : S36), (⟨0, 0⟩ : S36), 1, 97⟩ : S38)] : List (S38))) (([1, 1, 1, 0, 2, 1, 97] : List Int)) 0).bind fun t141 => (if t141 = true then ((redpencillaw17_encodes.f y128 (([2, 2, 3, 1, 2, 141, 1, 1, 197, 1, 2, 3, 142, 1, 2, 195, 169] : List Int)) 0).bind fun t145 => (if t145 = true then ((redpencillaw17_sizes.f y128 17 0).bind fun t146 => (redpencillaw17_known.j0 k y128 (!t146))) else (redpencillaw17_known.j0 k y128 true))) else (redpencillaw17_known.j0 k y128 true))) else (redpencillaw17_known.j0 k y128 true)))) = some true := H
 have A5 := Aside0.mk A50
 clear A50
 obtain ⟨y128, hy128⟩ : ∃ y_ : List (S38), y_ = (([(⟨(⟨t120, t121⟩ : S36), (⟨t122, t123⟩ : S36), 70, 0⟩ : S38), (⟨(⟨t124, t125⟩ : S36), (⟨t126, t127⟩ : S36), 71, 233⟩ : S38)] : List (S38))) := ⟨_, rfl⟩
 replace H : ((redpencillaw17_encodes.f ([] : List (S38)) (([0, 0] : List Int)) 0).bind fun t134 => (if t134 = true then ((redpencillaw17_encodes.f (([(⟨(⟨t117, t118⟩ : S36), (⟨0, 0⟩ : S36), 1, 97⟩ : S38)] : List (S38))) (([1, 1, 1, 0, 2, 1, 97] : List Int)) 0).bind fun t141 => (if t141 = true then ((redpencillaw17_encodes.f y128 (([2, 2, 3, 1, 2, 141, 1, 1, 197, 1, 2, 3, 142, 1, 2, 195, 169] : List Int)) 0).bind fun t145 => (if t145 = true then ((redpencillaw17_sizes.f y128 17 0).bind fun t146 => (redpencillaw17_known.j0 k y128 (!t146))) else (redpencillaw17_known.j0 k y128 true))) else (redpencillaw17_known.j0 k y128 true))) else (redpencillaw17_known.j0 k y128 true))) = some true := by first | (rw [hy128]; with_reducible exact H) | (have H2_ := (Option.bind_some _ _).symm.trans H; rw [hy128]; with_reducible exact H2_) | (have H2_ := (Option.bind_some _ _).symm.trans H; with_reducible exact H2_) | with_reducible exact H | (rw [hy128]; exact H) | exact H
 have Ny128 := Aside0.mk hy128
 clear hy128
 have HC6 := Aside0.mk H
 clear H
 go_enter Try.func8, Try.ntmps8
 go_upto_region 3 with (first | ((with_reducible refine gate_callee (f := 21) rfl ?_); refine goesL_ (some 3) rfl rfl Try.func21 (by kernel_rfl) rfl #[.int .i64 1, .int .i64 1] rfl (by (try simp only [List.map_toArray, List.map_cons, List.map_nil]); first | done | rfl | (simp only [List.length_drop, List.length_take]; rfl)) ?_; (with_reducible refine (redpencillaw17_dot.calls 1 1 t117 t118 _ A1.out).mono ?_); rintro e w7 ⟨rfl, hb⟩; refine ⟨_, rfl, ?_⟩; have n0_ := Aside0.mk (below_step (by repeat (first | (with_reducible first | exact HB.out | apply below_alloc | apply pw_below_drewN | apply below_drew1) | exact HB.out)) hb); clear HB; have HB := n0_; clear n0_; (try clear hb); (try clear hb2); (try clear hk); (try clear hi)) | ((with_reducible refine gate_dst (N := 1) rfl ?_); (try (refine gate_guard (by rfl) ?_; dsimp only)); refine box_event ?hg (N := 1) ?hd (cs := #[.int .i64 0, .int .i64 0, .int .i64 0, .int .i64 0, .int .i64 0, .int .i32 0]) (t := 38) ?hr ?_; (case hd => rfl); (case hg => rfl); (case hr => first | (go_simp; done) | (go_simp; rfl)); intro gb119 hg w8 hbox hb; have n0_ := Aside0.mk (below_step (by repeat (first | (with_reducible first | exact HB.out | apply below_alloc | apply pw_below_drewN | apply below_drew1) | exact HB.out)) hb); have n1_ := Aside0.mk (hbox); have n2_ := Aside0.mk ((by rw [hg]; exact (below_size (by repeat (first | (with_reducible first | exact HB.out | apply below_alloc | apply pw_below_drewN | apply below_drew1) | exact HB.out))) : w.heap.size ≤ gb119)); have n3_ := Aside0.mk ((by rw [hg]; exact (below_size (by repeat (first | (with_reducible first | exact HB.out | apply below_alloc | apply pw_below_drewN | apply below_drew1) | exact HB.out))) : w.heap.size ≤ gb119)); clear HB; have HB := n0_; have BK119 := n1_; have GW119 := n2_; have GE119 := n3_; clear n0_ n1_ n2_ n3_; clear hb hbox hg; have hcz9_0 : w8.cell? ⟨gb119, 0, none⟩ = some (.int .i64 0) := (blk_cell BK119.out 0).trans rfl; have hcz9_1 : w8.cell? ⟨gb119, 1, none⟩ = some (.int .i64 0) := (blk_cell BK119.out 1).trans rfl; have hcz9_2 : w8.cell? ⟨gb119, 2, none⟩ = some (.int .i64 0) := (blk_cell BK119.out 2).trans rfl; have hcz9_3 : w8.cell? ⟨gb119, 3, none⟩ = some (.int .i64 0) := (blk_cell BK119.out 3).trans rfl; have hcz9_4 : w8.cell? ⟨gb119, 4, none⟩ = some (.int .i64 0) := (blk_cell BK119.out 4).trans rfl; have hcz9_5 : w8.cell? ⟨gb119, 5, none⟩ = some (.int .i32 0) := (blk_cell BK119.out 5).trans rfl; have hfz9_0 := blk_frozen BK119.out 0; have hfz9_1 := blk_frozen BK119.out 1; have hfz9_2 := blk_frozen BK119.out 2; have hfz9_3 := blk_frozen BK119.out 3; have hfz9_4 := blk_frozen BK119.out 4; have hfz9_5 := blk_frozen BK119.out 5) | ((with_reducible refine gate_callee (f := 21) rfl ?_); refine goesL_ (some 5) rfl rfl Try.func21 (by kernel_rfl) rfl #[.int .i64 2, .int .i64 3] rfl (by (try simp only [List.map_toArray, List.map_cons, List.map_nil]); first | done | rfl | (simp only [List.length_drop, List.length_take]; rfl)) ?_; (with_reducible refine (redpencillaw17_dot.calls 2 3 t120 t121 _ A2.out).mono ?_); rintro e w10 ⟨rfl, hb⟩; refine ⟨_, rfl, ?_⟩; have n0_ := Aside0.mk (blk_below (g := gb119) (o := .cells #[.int .i64 t117, .int .i64 t118, .int .i64 0, .int .i64 0, .int .i64 1, .int .i32 97] 38 (0, 0)) (by (with_reducible repeat (first | refine blk_drewN ?_ _ | refine blk_drew ?_ | refine blk_alloc ?_ _)); refine blk_put (cs := #[.int .i64 t117, .int .i64 t118, .int .i64 0, .int .i64 0, .int .i64 1, .int .i32 0]) ?_ 5 _ rfl; (with_reducible repeat (first | refine blk_drewN ?_ _ | refine blk_drew ?_ | refine blk_alloc ?_ _)); refine blk_put (cs := #[.int .i64 t117, .int .i64 t118, .int .i64 0, .int .i64 0, .int .i64 0, .int .i32 0]) ?_ 4 _ rfl; (with_reducible repeat (first | refine blk_drewN ?_ _ | refine blk_drew ?_ | refine blk_alloc ?_ _)); refine blk_put (cs := #[.int .i64 t117, .int .i64 t118, .int .i64 0, .int .i64 0, .int .i64 0, .int .i32 0]) ?_ 3 _ rfl; (with_reducible repeat (first | refine blk_drewN ?_ _ | refine blk_drew ?_ | refine blk_alloc ?_ _)); refine blk_put (cs := #[.int .i64 t117, .int .i64 t118, .int .i64 0, .int .i64 0, .int .i64 0, .int .i32 0]) ?_ 2 _ rfl; (with_reducible repeat (first | refine blk_drewN ?_ _ | refine blk_drew ?_ | refine blk_alloc ?_ _)); refine blk_put (cs := #[.int .i64 t117, .int .i64 0, .int .i64 0, .int .i64 0, .int .i64 0, .int .i32 0]) ?_ 1 _ rfl; (with_reducible repeat (first | refine blk_drewN ?_ _ | refine blk_drew ?_ | refine blk_alloc ?_ _)); refine blk_put (cs := #[.int .i64 0, .int .i64 0, .int .i64 0, .int .i64 0, .int .i64 0, .int .i32 0]) ?_ 0 _ rfl; (with_reducible repeat (first | refine blk_drewN ?_ _ | refine blk_drew ?_ | refine blk_alloc ?_ _)); exact BK119.out) hb); have n1_ := Aside0.mk (below_step (by repeat (first | (with_reducible first | exact HB.out | apply below_alloc | apply pw_below_drewN | apply below_drew1 | refine below_set ?_ GE119.out) | exact HB.out)) hb); clear BK119; clear HB; have BK119 := n0_; have HB := n1_; clear n0_ n1_; (try clear hb); (try clear hb2); (try clear hk); (try clear hi)) | ((with_reducible refine gate_callee (f := 21) rfl ?_); refine goesL_ (some 6) rfl rfl Try.func21 (by kernel_rfl) rfl #[.int .i64 1, .int .i64 2] rfl (by (try simp only [List.map_toArray, List.map_cons, List.map_nil]); first | done | rfl | (simp only [List.length_drop, List.length_take]; rfl)) ?_; (with_reducible refine (redpencillaw17_dot.calls 1 2 t122 t123 _ A3.out).mono ?_); rintro e w11 ⟨rfl, hb⟩; refine ⟨_, rfl, ?_⟩; have n0_ := Aside0.mk (blk_below (g := gb119) (o := .cells #[.int .i64 t117, .int .i64 t118, .int .i64 0, .int .i64 0, .int .i64 1, .int .i32 97] 38 (0, 0)) (by (with_reducible repeat (first | refine blk_drewN ?_ _ | refine blk_drew ?_ | refine blk_alloc ?_ _)); exact BK119.out) hb); have n1_ := Aside0.mk (below_step (by repeat (first | (with_reducible first | exact HB.out | apply below_alloc | apply pw_below_drewN | apply below_drew1 | refine below_set ?_ GE119.out) | exact HB.out)) hb); clear BK119; clear HB; have BK119 := n0_; have HB := n1_; clear n0_ n1_; (try clear hb); (try clear hb2); (try clear hk); (try clear hi)) | ((with_reducible refine gate_callee (f := 21) rfl ?_); refine goesL_ (some 8) rfl rfl Try.func21 (by kernel_rfl) rfl #[.int .i64 1, .int .i64 200] rfl (by (try simp only [List.map_toArray, List.map_cons, List.map_nil]); first | done | rfl | (simp only [List.length_drop, List.length_take]; rfl)) ?_; (with_reducible refine (redpencillaw17_dot.calls 1 200 t124 t125 _ A4.out).mono ?_); rintro e w12 ⟨rfl, hb⟩; refine ⟨_, rfl, ?_⟩; have n0_ := Aside0.mk (blk_below (g := gb119) (o := .cells #[.int .i64 t117, .int .i64 t118, .int .i64 0, .int .i64 0, .int .i64 1, .int .i32 97] 38 (0, 0)) (by (with_reducible repeat (first | refine blk_drewN ?_ _ | refine blk_drew ?_ | refine blk_alloc ?_ _)); exact BK119.out) hb); have n1_ := Aside0.mk (below_step (by repeat (first | (with_reducible first | exact HB.out | apply below_alloc | apply pw_below_drewN | apply below_drew1 | refine below_set ?_ GE119.out) | exact HB.out)) hb); clear BK119; clear HB; have BK119 := n0_; have HB := n1_; clear n0_ n1_; (try clear hb); (try clear hb2); (try clear hk); (try clear hi)) | ((with_reducible refine gate_callee (f := 21) rfl ?_); refine goesL_ (some 9) rfl rfl Try.func21 (by kernel_rfl) rfl #[.int .i64 2, .int .i64 3] rfl (by (try simp only [List.map_toArray, List.map_cons, List.map_nil]); first | done | rfl | (simp only [List.length_drop, List.length_take]; rfl)) ?_; (with_reducible refine (redpencillaw17_dot.calls 2 3 t126 t127 _ A5.out).mono ?_); rintro e w13 ⟨rfl, hb⟩; refine ⟨_, rfl, ?_⟩; have n0_ := Aside0.mk (blk_below (g := gb119) (o := .cells #[.int .i64 t117, .int .i64 t118, .int .i64 0, .int .i64 0, .int .i64 1, .int .i32 97] 38 (0, 0)) (by (with_reducible repeat (first | refine blk_drewN ?_ _ | refine blk_drew ?_ | refine blk_alloc ?_ _)); exact BK119.out) hb); have n1_ := Aside0.mk (below_step (by repeat (first | (with_reducible first | exact HB.out | apply below_alloc | apply pw_below_drewN | apply below_drew1 | refine below_set ?_ GE119.out) | exact HB.out)) hb); clear BK119; clear HB; have BK119 := n0_; have HB := n1_; clear n0_ n1_; (try clear hb); (try clear hb2); (try clear hk); (try clear hi)) | ((with_reducible refine gate_dst (N := 11) rfl ?_); (try (refine gate_guard (by rfl) ?_; dsimp only)); refine Kd.R_lit k38 _ 38 ?hg (N := 11) ?hd (xs := ([(⟨(⟨t120, t121⟩ : S36), (⟨t122, t123⟩ : S36), 70, 0⟩ : S38), (⟨(⟨t124, t125⟩ : S36), (⟨t126, t127⟩ : S36), 71, 233⟩ : S38)] : List (S38))) (inner := [.int .i64 t120, .int .i64 t121, .int .i64 t122, .int .i64 t123, .int .i64 70, .int .i32 0, .int .i64 t124, .int .i64 t125, .int .i64 t126, .int .i64 t127, .int .i64 71, .int .i32 233]) (ok := fun _ => True) (okp := fun _ => True) ?hr ?hp (fun _ hk => hk) trivial (Below.refl _ _) (Nat.le_refl _) (by simp) ?_; (case hd => rfl); (case hg => rfl); (case hr => first | (go_simp; done) | (go_simp; rfl)); (case hp => exact (Reps.c6 (show Kd.M k38 _ _ _ (⟨(⟨t120, t121⟩ : S36), (⟨t122, t123⟩ : S36), 70, 0⟩ : S38) [.int .i64 t120, .int .i64 t121, .int .i64 t122, .int .i64 t123, .int .i64 70, .int .i32 0] from (k38_mkM _ _ _ (⟨(⟨t120, t121⟩ : S36), (⟨t122, t123⟩ : S36), 70, 0⟩ : S38) )) (Reps.c6 (show Kd.M k38 _ _ _ (⟨(⟨t124, t125⟩ : S36), (⟨t126, t127⟩ : S36), 71, 233⟩ : S38) [.int .i64 t124, .int .i64 t125, .int .i64 t126, .int .i64 t127, .int .i64 71, .int .i32 233] from (k38_mkM _ _ _ (⟨(⟨t124, t125⟩ : S36), (⟨t126, t127⟩ : S36), 71, 233⟩ : S38) )) (Reps.none _ _)))); intro v129 w14 ho15 hb hg_ hnew_; clear hg_ hnew_; (first | rw [← Ny128.out] at ho15 | (simp only [Int.reduceToNat] at ho15; rw [← Ny128.out] at ho15)); have n0_ := Aside0.mk (Kd.R_lower (Kd.R_newB ho15 (g := gb119) (o := .cells #[.int .i64 t117, .int .i64 t118, .int .i64 0, .int .i64 0, .int .i64 1, .int .i32 97] 38 (0, 0)) (by (with_reducible repeat (first | refine blk_drewN ?_ _ | refine blk_drew ?_ | refine blk_alloc ?_ _)); exact BK119.out)) (below_size (by repeat (first | (with_reducible first | exact HB.out | apply below_alloc | apply pw_below_drewN | apply below_drew1 | refine below_set ?_ GE119.out) | exact HB.out)))); have n1_ := Aside0.mk (blk_below (g := gb119) (o := .cells #[.int .i64 t117, .int .i64 t118, .int .i64 0, .int .i64 0, .int .i64 1, .int .i32 97] 38 (0, 0)) (by (with_reducible repeat (first | refine blk_drewN ?_ _ | refine blk_drew ?_ | refine blk_alloc ?_ _)); exact BK119.out) hb); have n2_ := Aside0.mk (below_step (by repeat (first | (with_reducible first | exact HB.out | apply below_alloc | apply pw_below_drewN | apply below_drew1 | refine below_set ?_ GE119.out) | exact HB.out)) hb); clear BK119; clear HB; have HO130 := n0_; have BK119 := n1_; have HB := n2_; clear n0_ n1_ n2_; clear hb ho15))
 (try simp only [Act.put, List.setIfInBounds_toArray, List.set_cons_zero, List.set_cons_succ])
 go_cut [32] (fun v32 wc => ∃ (kq : Nat) (x32_5 : Bool), v32 = .bool x32_5 ∧ Aside0 (redpencillaw17_known.j0 kq y128 x32_5 = some true) ∧ Aside0 (kq ≤ k) ∧ Aside0 (Kd.R k38 38 wc w.heap.size (fun k_ => k_ ≠ gb119) v129 y128) ∧ Aside0 (wc.heap[gb119]? = some (.cells #[.int .i64 t117, .int .i64 t118, .int .i64 0, .int .i64 0, .int .i64 1, .int .i32 97] 38 (0, 0))) ∧ Aside0 (Below w.heap.size w wc))
 case first =>
  have H := HC6.out
  clear HC6
  obtain ⟨y131, hy131⟩ : ∃ y_ : List Int, y_ = (([0, 0] : List Int)) := ⟨_, rfl⟩
  replace H : ((redpencillaw17_encodes.f ([] : List (S38)) y131 0).bind fun t134 => (if t134 = true then ((redpencillaw17_encodes.f (([(⟨(⟨t117, t118⟩ : S36), (⟨0, 0⟩ : S36), 1, 97⟩ : S38)] : List (S38))) (([1, 1, 1, 0, 2, 1, 97] : List Int)) 0).bind fun t141 => (if t141 = true then ((redpencillaw17_encodes.f y128 (([2, 2, 3, 1, 2, 141, 1, 1, 197, 1, 2, 3, 142, 1, 2, 195, 169] : List Int)) 0).bind fun t145 => (if t145 = true then ((redpencillaw17_sizes.f y128 17 0).bind fun t146 => (redpencillaw17_known.j0 k y128 (!t146))) else (redpencillaw17_known.j0 k y128 true))) else (redpencillaw17_known.j0 k y128 true))) else (redpencillaw17_known.j0 k y128 true))) = some true := by first | (rw [hy131]; with_reducible exact H) | (have H2_ := (Option.bind_some _ _).symm.trans H; rw [hy131]; with_reducible exact H2_) | (have H2_ := (Option.bind_some _ _).symm.trans H; with_reducible exact H2_) | with_reducible exact H | (rw [hy131]; exact H) | exact H
  have Ny131 := Aside0.mk hy131
  clear hy131
  replace H := Option.bind_eq_some_iff.mp H
  obtain ⟨t134, A160, H⟩ := H
  replace H : (if t134 = true then ((redpencillaw17_encodes.f (([(⟨(⟨t117, t118⟩ : S36), (⟨0, 0⟩ : S36), 1, 97⟩ : S38)] : List (S38))) (([1, 1, 1, 0, 2, 1, 97] : List Int)) 0).bind fun t141 => (if t141 = true then ((redpencillaw17_encodes.f y128 (([2, 2, 3, 1, 2, 141, 1, 1, 197, 1, 2, 3, 142, 1, 2, 195, 169] : List Int)) 0).bind fun t145 => (if t145 = true then ((redpencillaw17_sizes.f y128 17 0).bind fun t146 => (redpencillaw17_known.j0 k y128 (!t146))) else (redpencillaw17_known.j0 k y128 true))) else (redpencillaw17_known.j0 k y128 true))) else (redpencillaw17_known.j0 k y128 true)) = some true := H
  have A16 := Aside0.mk A160
  clear A160
  by_cases c17 : t134 = true
  ·
   subst c17
   have H1 : ((redpencillaw17_encodes.f (([(⟨(⟨t117, t118⟩ : S36), (⟨0, 0⟩ : S36), 1, 97⟩ : S38)] : List (S38))) (([1, 1, 1, 0, 2, 1, 97] : List Int)) 0).bind fun t141 => (if t141 = true then ((redpencillaw17_encodes.f y128 (([2, 2, 3, 1, 2, 141, 1, 1, 197, 1, 2, 3, 142, 1, 2, 195, 169] : List Int)) 0).bind fun t145 => (if t145 = true then ((redpencillaw17_sizes.f y128 17 0).bind fun t146 => (redpencillaw17_known.j0 k y128 (!t146))) else (redpencillaw17_known.j0 k y128 true))) else (redpencillaw17_known.j0 k y128 true))) = some true := by rw [if_pos rfl] at H; exact H
   clear H
   have H := H1
   clear H1
   obtain ⟨y135, hy135⟩ : ∃ y_ : List (S38), y_ = (([(⟨(⟨t117, t118⟩ : S36), (⟨0, 0⟩ : S36), 1, 97⟩ : S38)] : List (S38))) := ⟨_, rfl⟩
   replace H : ((redpencillaw17_encodes.f y135 (([1, 1, 1, 0, 2, 1, 97] : List Int)) 0).bind fun t141 => (if t141 = true then ((redpencillaw17_encodes.f y128 (([2, 2, 3, 1, 2, 141, 1, 1, 197, 1, 2, 3, 142, 1, 2, 195, 169] : List Int)) 0).bind fun t145 => (if t145 = true then ((redpencillaw17_sizes.f y128 17 0).bind fun t146 => (redpencillaw17_known.j0 k y128 (!t146))) else (redpencillaw17_known.j0 k y128 true))) else (redpencillaw17_known.j0 k y128 true))) = some true := by first | (rw [hy135]; with_reducible exact H) | (have H2_ := (Option.bind_some _ _).symm.trans H; rw [hy135]; with_reducible exact H2_) | (have H2_ := (Option.bind_some _ _).symm.trans H; with_reducible exact H2_) | with_reducible exact H | (rw [hy135]; exact H) | exact H
   have Ny135 := Aside0.mk hy135
   clear hy135
   obtain ⟨y138, hy138⟩ : ∃ y_ : List Int, y_ = (([1, 1, 1, 0, 2, 1, 97] : List Int)) := ⟨_, rfl⟩
   replace H : ((redpencillaw17_encodes.f y135 y138 0).bind fun t141 => (if t141 = true then ((redpencillaw17_encodes.f y128 (([2, 2, 3, 1, 2, 141, 1, 1, 197, 1, 2, 3, 142, 1, 2, 195, 169] : List Int)) 0).bind fun t145 => (if t145 = true then ((redpencillaw17_sizes.f y128 17 0).bind fun t146 => (redpencillaw17_known.j0 k y128 (!t146))) else (redpencillaw17_known.j0 k y128 true))) else (redpencillaw17_known.j0 k y128 true))) = some true := by first | (rw [hy138]; with_reducible exact H) | (have H2_ := (Option.bind_some _ _).symm.trans H; rw [hy138]; with_reducible exact H2_) | (have H2_ := (Option.bind_some _ _).symm.trans H; with_reducible exact H2_) | with_reducible exact H | (rw [hy138]; exact H) | exact H
   have Ny138 := Aside0.mk hy138
   clear hy138
   replace H := Option.bind_eq_some_iff.mp H
   obtain ⟨t141, A180, H⟩ := H
   replace H : (if t141 = true then ((redpencillaw17_encodes.f y128 (([2, 2, 3, 1, 2, 141, 1, 1, 197, 1, 2, 3, 142, 1, 2, 195, 169] : List Int)) 0).bind fun t145 => (if t145 = true then ((redpencillaw17_sizes.f y128 17 0).bind fun t146 => (redpencillaw17_known.j0 k y128 (!t146))) else (redpencillaw17_known.j0 k y128 true))) else (redpencillaw17_known.j0 k y128 true)) = some true := H
   have A18 := Aside0.mk A180
   clear A180
   by_cases c19 : t141 = true
   ·
    subst c19
    have H1 : ((redpencillaw17_encodes.f y128 (([2, 2, 3, 1, 2, 141, 1, 1, 197, 1, 2, 3, 142, 1, 2, 195, 169] : List Int)) 0).bind fun t145 => (if t145 = true then ((redpencillaw17_sizes.f y128 17 0).bind fun t146 => (redpencillaw17_known.j0 k y128 (!t146))) else (redpencillaw17_known.j0 k y128 true))) = some true := by rw [if_pos rfl] at H; exact H
    clear H
    have H := H1
    clear H1
    obtain ⟨y142, hy142⟩ : ∃ y_ : List Int, y_ = (([2, 2, 3, 1, 2, 141, 1, 1, 197, 1, 2, 3, 142, 1, 2, 195, 169] : List Int)) := ⟨_, rfl⟩
    replace H : ((redpencillaw17_encodes.f y128 y142 0).bind fun t145 => (if t145 = true then ((redpencillaw17_sizes.f y128 17 0).bind fun t146 => (redpencillaw17_known.j0 k y128 (!t146))) else (redpencillaw17_known.j0 k y128 true))) = some true := by first | (rw [hy142]; with_reducible exact H) | (have H2_ := (Option.bind_some _ _).symm.trans H; rw [hy142]; with_reducible exact H2_) | (have H2_ := (Option.bind_some _ _).symm.trans H; with_reducible exact H2_) | with_reducible exact H | (rw [hy142]; exact H) | exact H
    have Ny142 := Aside0.mk hy142
    clear hy142
    replace H := Option.bind_eq_some_iff.mp H
    obtain ⟨t145, A200, H⟩ := H
    replace H : (if t145 = true then ((redpencillaw17_sizes.f y128 17 0).bind fun t146 => (redpencillaw17_known.j0 k y128 (!t146))) else (redpencillaw17_known.j0 k y128 true)) = some true := H
    have A20 := Aside0.mk A200
    clear A200
    by_cases c21 : t145 = true
    ·
     subst c21
     have H1 : ((redpencillaw17_sizes.f y128 17 0).bind fun t146 => (redpencillaw17_known.j0 k y128 (!t146))) = some true := by rw [if_pos rfl] at H; exact H
     clear H
     have H := H1
     clear H1
     replace H := Option.bind_eq_some_iff.mp H
     obtain ⟨t146, A220, H⟩ := H
     replace H : (redpencillaw17_known.j0 k y128 (!t146)) = some true := H
     have A22 := Aside0.mk A220
     clear A220
     have H' := Aside0.mk H
     clear H
     go_wp2_with (first | ((with_reducible refine gate_dst (N := 12) rfl ?_); (try (refine gate_guard (by rfl) ?_; dsimp only)); refine Kd.R_lit (Kd.int .u8) _ 5 ?hg (N := 12) ?hd (xs := ([0, 0] : List Int)) (inner := [.int .u8 0, .int .u8 0]) (ok := fun _ => True) (okp := fun _ => True) ?hr ?hp (fun _ hk => hk) trivial (Below.refl _ _) (Nat.le_refl _) (by simp) ?_; (case hd => rfl); (case hg => rfl); (case hr => first | (go_simp; done) | (go_simp; rfl)); (case hp => exact (Reps.one (show Kd.M (Kd.int .u8) _ _ _ 0 [.int .u8 0] from rfl) (Reps.one (show Kd.M (Kd.int .u8) _ _ _ 0 [.int .u8 0] from rfl) (Reps.none _ _)))); intro v132 w23 ho24 hb hg_ hnew_; clear hg_ hnew_; (first | rw [← Ny131.out] at ho24 | (simp only [Int.reduceToNat] at ho24; rw [← Ny131.out] at ho24)); have n0_ := Aside0.mk (Kd.R_below (by (with_reducible repeat (first | apply Kd.R_alloc | apply Kd.R_drewN | apply Kd.R_drew)); exact HO130.out) hb); have n1_ := Aside0.mk (Kd.R_lower ho24 (below_size (by repeat (first | (with_reducible first | exact HB.out | apply below_alloc | apply pw_below_drewN | apply below_drew1 | refine below_set ?_ GE119.out) | exact HB.out)))); have n2_ := Aside0.mk (blk_below (g := gb119) (o := .cells #[.int .i64 t117, .int .i64 t118, .int .i64 0, .int .i64 0, .int .i64 1, .int .i32 97] 38 (0, 0)) (by (with_reducible repeat (first | refine blk_drewN ?_ _ | refine blk_drew ?_ | refine blk_alloc ?_ _)); exact BK119.out) hb); have n3_ := Aside0.mk (below_step (by repeat (first | (with_reducible first | exact HB.out | apply below_alloc | apply pw_below_drewN | apply below_drew1 | refine below_set ?_ GE119.out) | exact HB.out)) hb); clear HO130; clear BK119; clear HB; have HO130 := n0_; have HO133 := n1_; have BK119 := n2_; have HB := n3_; clear n0_ n1_ n2_ n3_; clear hb ho24; obtain ⟨Ao25, co25, eo25⟩ := Kd.R_slice HO133.out; subst eo25) | ((with_reducible refine gate_callee (f := 10) rfl ?_); refine goesL_ (some 13) rfl rfl Try.func10 (by kernel_rfl) rfl #[.slice none 0 0, .slice Ao25 y131.length co25, .int .i64 0] rfl (by (try simp only [List.map_toArray, List.map_cons, List.map_nil]); first | done | rfl | (simp only [List.length_drop, List.length_take]; rfl)) ?_; (refine (redpencillaw17_encodes.calls _ _ ([] : List (S38)) _ _ y131 0 true _ ?side1 ?side2 ?side3 ?side4 A16.out).mono ?_); (case side1 => exact Kd.C_nil _ _); (case side2 => exact Nat.le_refl _); (case side3 => repeat (first | exact (Kd.R_reads' HO133.out).2.2 | (with_reducible refine Kd.C_alloc ?_ _) | (with_reducible refine Kd.C_drewN ?_ _) | (with_reducible refine Kd.C_drew ?_))); (case side4 => exact (Kd.R_reads' HO133.out).2.1); rintro e w26 ⟨rfl, hb⟩; refine ⟨_, rfl, ?_⟩; have n0_ := Aside0.mk (Kd.R_below (by (with_reducible repeat (first | apply Kd.R_alloc | apply Kd.R_drewN | apply Kd.R_drew)); exact HO130.out) hb); have n1_ := Aside0.mk (Kd.R_below (by (with_reducible repeat (first | apply Kd.R_alloc | apply Kd.R_drewN | apply Kd.R_drew)); exact HO133.out) hb); have n2_ := Aside0.mk (blk_below (g := gb119) (o := .cells #[.int .i64 t117, .int .i64 t118, .int .i64 0, .int .i64 0, .int .i64 1, .int .i32 97] 38 (0, 0)) (by (with_reducible repeat (first | refine blk_drewN ?_ _ | refine blk_drew ?_ | refine blk_alloc ?_ _)); exact BK119.out) hb); have n3_ := Aside0.mk (below_step (by repeat (first | (with_reducible first | exact HB.out | apply below_alloc | apply pw_below_drewN | apply below_drew1 | refine below_set ?_ GE119.out) | exact HB.out)) hb); clear HO130; clear HO133; clear BK119; clear HB; have HO130 := n0_; have HO133 := n1_; have BK119 := n2_; have HB := n3_; clear n0_ n1_ n2_ n3_; (try clear hb); (try clear hb2); (try clear hk); (try clear hi); have hcz27_0 : w26.cell? ⟨gb119, 0, none⟩ = some (.int .i64 t117) := (blk_cell BK119.out 0).trans rfl; have hcz27_1 : w26.cell? ⟨gb119, 1, none⟩ = some (.int .i64 t118) := (blk_cell BK119.out 1).trans rfl; have hcz27_2 : w26.cell? ⟨gb119, 2, none⟩ = some (.int .i64 0) := (blk_cell BK119.out 2).trans rfl; have hcz27_3 : w26.cell? ⟨gb119, 3, none⟩ = some (.int .i64 0) := (blk_cell BK119.out 3).trans rfl; have hcz27_4 : w26.cell? ⟨gb119, 4, none⟩ = some (.int .i64 1) := (blk_cell BK119.out 4).trans rfl; have hcz27_5 : w26.cell? ⟨gb119, 5, none⟩ = some (.int .i32 97) := (blk_cell BK119.out 5).trans rfl; have hfz27_0 := blk_frozen BK119.out 0; have hfz27_1 := blk_frozen BK119.out 1; have hfz27_2 := blk_frozen BK119.out 2; have hfz27_3 := blk_frozen BK119.out 3; have hfz27_4 := blk_frozen BK119.out 4; have hfz27_5 := blk_frozen BK119.out 5) | ((with_reducible refine gate_dst (N := 17) rfl ?_); (try (refine gate_guard (by rfl) ?_; dsimp only)); refine Kd.R_lit k38 _ 38 ?hg (N := 17) ?hd (xs := ([(⟨(⟨t117, t118⟩ : S36), (⟨0, 0⟩ : S36), 1, 97⟩ : S38)] : List (S38))) (inner := [.int .i64 t117, .int .i64 t118, .int .i64 0, .int .i64 0, .int .i64 1, .int .i32 97]) (ok := fun _ => True) (okp := fun _ => True) ?hr ?hp (fun _ hk => hk) trivial (Below.refl _ _) (Nat.le_refl _) (by simp) ?_; (case hd => rfl); (case hg => rfl); (case hr => first | (go_simp; done) | (go_simp; rfl)); (case hp => exact (Reps.c6 (show Kd.M k38 _ _ _ (⟨(⟨t117, t118⟩ : S36), (⟨0, 0⟩ : S36), 1, 97⟩ : S38) [.int .i64 t117, .int .i64 t118, .int .i64 0, .int .i64 0, .int .i64 1, .int .i32 97] from (k38_mkM _ _ _ (⟨(⟨t117, t118⟩ : S36), (⟨0, 0⟩ : S36), 1, 97⟩ : S38) )) (Reps.none _ _))); intro v136 w28 ho29 hb hg_ hnew_; clear hg_ hnew_; (first | rw [← Ny135.out] at ho29 | (simp only [Int.reduceToNat] at ho29; rw [← Ny135.out] at ho29)); have n0_ := Aside0.mk (Kd.R_elder' (by (with_reducible repeat (first | apply Kd.R_alloc | apply Kd.R_drewN | apply Kd.R_drew)); exact HO130.out) (Kd.R_base ho29) hb); have n1_ := Aside0.mk (Kd.R_below (by (with_reducible repeat (first | apply Kd.R_alloc | apply Kd.R_drewN | apply Kd.R_drew)); exact HO133.out) hb); have n2_ := Aside0.mk (Kd.R_lower (Kd.R_newB (Kd.R_new' ho29 (Kd.R_lt (by (with_reducible repeat (first | apply Kd.R_alloc | apply Kd.R_drewN | apply Kd.R_drew)); exact HO130.out))) (g := gb119) (o := .cells #[.int .i64 t117, .int .i64 t118, .int .i64 0, .int .i64 0, .int .i64 1, .int .i32 97] 38 (0, 0)) (by (with_reducible repeat (first | refine blk_drewN ?_ _ | refine blk_drew ?_ | refine blk_alloc ?_ _)); exact BK119.out)) (below_size (by repeat (first | (with_reducible first | exact HB.out | apply below_alloc | apply pw_below_drewN | apply below_drew1 | refine below_set ?_ GE119.out) | exact HB.out)))); have n3_ := Aside0.mk (blk_below (g := gb119) (o := .cells #[.int .i64 t117, .int .i64 t118, .int .i64 0, .int .i64 0, .int .i64 1, .int .i32 97] 38 (0, 0)) (by (with_reducible repeat (first | refine blk_drewN ?_ _ | refine blk_drew ?_ | refine blk_alloc ?_ _)); exact BK119.out) hb); have n4_ := Aside0.mk (below_step (by repeat (first | (with_reducible first | exact HB.out | apply below_alloc | apply pw_below_drewN | apply below_drew1 | refine below_set ?_ GE119.out) | exact HB.out)) hb); clear HO130; clear HO133; clear BK119; clear HB; have HO130 := n0_; have HO133 := n1_; have HO137 := n2_; have BK119 := n3_; have HB := n4_; clear n0_ n1_ n2_ n3_ n4_; clear hb ho29) | ((with_reducible refine gate_dst (N := 18) rfl ?_); (try (refine gate_guard (by rfl) ?_; dsimp only)); refine Kd.R_lit (Kd.int .u8) _ 5 ?hg (N := 18) ?hd (xs := ([1, 1, 1, 0, 2, 1, 97] : List Int)) (inner := [.int .u8 1, .int .u8 1, .int .u8 1, .int .u8 0, .int .u8 2, .int .u8 1, .int .u8 97]) (ok := fun _ => True) (okp := fun _ => True) ?hr ?hp (fun _ hk => hk) trivial (Below.refl _ _) (Nat.le_refl _) (by simp) ?_; (case hd => rfl); (case hg => rfl); (case hr => first | (go_simp; done) | (go_simp; rfl)); (case hp => exact (Reps.one (show Kd.M (Kd.int .u8) _ _ _ 1 [.int .u8 1] from rfl) (Reps.one (show Kd.M (Kd.int .u8) _ _ _ 1 [.int .u8 1] from rfl) (Reps.one (show Kd.M (Kd.int .u8) _ _ _ 1 [.int .u8 1] from rfl) (Reps.one (show Kd.M (Kd.int .u8) _ _ _ 0 [.int .u8 0] from rfl) (Reps.one (show Kd.M (Kd.int .u8) _ _ _ 2 [.int .u8 2] from rfl) (Reps.one (show Kd.M (Kd.int .u8) _ _ _ 1 [.int .u8 1] from rfl) (Reps.one (show Kd.M (Kd.int .u8) _ _ _ 97 [.int .u8 97] from rfl) (Reps.none _ _))))))))); intro v139 w30 ho31 hb hg_ hnew_; clear hg_ hnew_; (first | rw [← Ny138.out] at ho31 | (simp only [Int.reduceToNat] at ho31; rw [← Ny138.out] at ho31)); have n0_ := Aside0.mk (Kd.R_below (by (with_reducible repeat (first | apply Kd.R_alloc | apply Kd.R_drewN | apply Kd.R_drew)); exact HO130.out) hb); have n1_ := Aside0.mk (Kd.R_elder' (by (with_reducible repeat (first | apply Kd.R_alloc | apply Kd.R_drewN | apply Kd.R_drew)); exact HO133.out) (Kd.R_base ho31) hb); have n2_ := Aside0.mk (Kd.R_below (by (with_reducible repeat (first | apply Kd.R_alloc | apply Kd.R_drewN | apply Kd.R_drew)); exact HO137.out) hb); have n3_ := Aside0.mk (Kd.R_lower (Kd.R_new' ho31 (Kd.R_lt (by (with_reducible repeat (first | apply Kd.R_alloc | apply Kd.R_drewN | apply Kd.R_drew)); exact HO133.out))) (below_size (by repeat (first | (with_reducible first | exact HB.out | apply below_alloc | apply pw_below_drewN | apply below_drew1 | refine below_set ?_ GE119.out) | exact HB.out)))); have n4_ := Aside0.mk (blk_below (g := gb119) (o := .cells #[.int .i64 t117, .int .i64 t118, .int .i64 0, .int .i64 0, .int .i64 1, .int .i32 97] 38 (0, 0)) (by (with_reducible repeat (first | refine blk_drewN ?_ _ | refine blk_drew ?_ | refine blk_alloc ?_ _)); exact BK119.out) hb); have n5_ := Aside0.mk (below_step (by repeat (first | (with_reducible first | exact HB.out | apply below_alloc | apply pw_below_drewN | apply below_drew1 | refine below_set ?_ GE119.out) | exact HB.out)) hb); clear HO130; clear HO133; clear HO137; clear BK119; clear HB; have HO130 := n0_; have HO133 := n1_; have HO137 := n2_; have HO140 := n3_; have BK119 := n4_; have HB := n5_; clear n0_ n1_ n2_ n3_ n4_ n5_; clear hb ho31; obtain ⟨Ao32, co32, eo32⟩ := Kd.R_slice HO137.out; subst eo32; obtain ⟨Ao33, co33, eo33⟩ := Kd.R_slice HO140.out; subst eo33) | (go_at_call 10; (with_reducible refine (redpencillaw17_encodes.calls _ _ y135 _ _ y138 0 true _ ?side1 ?side2 ?side3 ?side4 A18.out).mono ?_); (case side1 => repeat (first | exact (Kd.R_reads' HO137.out).2.2 | (with_reducible refine Kd.C_alloc ?_ _) | (with_reducible refine Kd.C_drewN ?_ _) | (with_reducible refine Kd.C_drew ?_))); (case side2 => exact (Kd.R_reads' HO137.out).2.1); (case side3 => repeat (first | exact (Kd.R_reads' HO140.out).2.2 | (with_reducible refine Kd.C_alloc ?_ _) | (with_reducible refine Kd.C_drewN ?_ _) | (with_reducible refine Kd.C_drew ?_))); (case side4 => exact (Kd.R_reads' HO140.out).2.1); rintro e w34 ⟨rfl, hb⟩; have n0_ := Aside0.mk (Kd.R_below (by (with_reducible repeat (first | apply Kd.R_alloc | apply Kd.R_drewN | apply Kd.R_drew)); exact HO130.out) hb); have n1_ := Aside0.mk (Kd.R_below (by (with_reducible repeat (first | apply Kd.R_alloc | apply Kd.R_drewN | apply Kd.R_drew)); exact HO133.out) hb); have n2_ := Aside0.mk (Kd.R_below (by (with_reducible repeat (first | apply Kd.R_alloc | apply Kd.R_drewN | apply Kd.R_drew)); exact HO137.out) hb); have n3_ := Aside0.mk (Kd.R_below (by (with_reducible repeat (first | apply Kd.R_alloc | apply Kd.R_drewN | apply Kd.R_drew)); exact HO140.out) hb); have n4_ := Aside0.mk (blk_below (g := gb119) (o := .cells #[.int .i64 t117, .int .i64 t118, .int .i64 0, .int .i64 0, .int .i64 1, .int .i32 97] 38 (0, 0)) (by (with_reducible repeat (first | refine blk_drewN ?_ _ | refine blk_drew ?_ | refine blk_alloc ?_ _)); exact BK119.out) hb); have n5_ := Aside0.mk (below_step (by repeat (first | (with_reducible first | exact HB.out | apply below_alloc | apply pw_below_drewN | apply below_drew1 | refine below_set ?_ GE119.out) | exact HB.out)) hb); clear HO130; clear HO133; clear HO137; clear HO140; clear BK119; clear HB; have HO130 := n0_; have HO133 := n1_; have HO137 := n2_; have HO140 := n3_; have BK119 := n4_; have HB := n5_; clear n0_ n1_ n2_ n3_ n4_ n5_; (try clear hb); (try clear hb2); (try clear hk); (try clear hi)) | ((with_reducible refine gate_dst (N := 24) rfl ?_); (try (refine gate_guard (by rfl) ?_; dsimp only)); refine Kd.R_lit (Kd.int .u8) _ 5 ?hg (N := 24) ?hd (xs := ([2, 2, 3, 1, 2, 141, 1, 1, 197, 1, 2, 3, 142, 1, 2, 195, 169] : List Int)) (inner := [.int .u8 2, .int .u8 2, .int .u8 3, .int .u8 1, .int .u8 2, .int .u8 141, .int .u8 1, .int .u8 1, .int .u8 197, .int .u8 1, .int .u8 2, .int .u8 3, .int .u8 142, .int .u8 1, .int .u8 2, .int .u8 195, .int .u8 169]) (ok := fun _ => True) (okp := fun _ => True) ?hr ?hp (fun _ hk => hk) trivial (Below.refl _ _) (Nat.le_refl _) (by simp) ?_; (case hd => rfl); (case hg => rfl); (case hr => first | (go_simp; done) | (go_simp; rfl)); (case hp => exact (Reps.one (show Kd.M (Kd.int .u8) _ _ _ 2 [.int .u8 2] from rfl) (Reps.one (show Kd.M (Kd.int .u8) _ _ _ 2 [.int .u8 2] from rfl) (Reps.one (show Kd.M (Kd.int .u8) _ _ _ 3 [.int .u8 3] from rfl) (Reps.one (show Kd.M (Kd.int .u8) _ _ _ 1 [.int .u8 1] from rfl) (Reps.one (show Kd.M (Kd.int .u8) _ _ _ 2 [.int .u8 2] from rfl) (Reps.one (show Kd.M (Kd.int .u8) _ _ _ 141 [.int .u8 141] from rfl) (Reps.one (show Kd.M (Kd.int .u8) _ _ _ 1 [.int .u8 1] from rfl) (Reps.one (show Kd.M (Kd.int .u8) _ _ _ 1 [.int .u8 1] from rfl) (Reps.one (show Kd.M (Kd.int .u8) _ _ _ 197 [.int .u8 197] from rfl) (Reps.one (show Kd.M (Kd.int .u8) _ _ _ 1 [.int .u8 1] from rfl) (Reps.one (show Kd.M (Kd.int .u8) _ _ _ 2 [.int .u8 2] from rfl) (Reps.one (show Kd.M (Kd.int .u8) _ _ _ 3 [.int .u8 3] from rfl) (Reps.one (show Kd.M (Kd.int .u8) _ _ _ 142 [.int .u8 142] from rfl) (Reps.one (show Kd.M (Kd.int .u8) _ _ _ 1 [.int .u8 1] from rfl) (Reps.one (show Kd.M (Kd.int .u8) _ _ _ 2 [.int .u8 2] from rfl) (Reps.one (show Kd.M (Kd.int .u8) _ _ _ 195 [.int .u8 195] from rfl) (Reps.one (show Kd.M (Kd.int .u8) _ _ _ 169 [.int .u8 169] from rfl) (Reps.none _ _))))))))))))))))))); intro v143 w35 ho36 hb hg_ hnew_; clear hg_ hnew_; (first | rw [← Ny142.out] at ho36 | (simp only [Int.reduceToNat] at ho36; rw [← Ny142.out] at ho36)); have n0_ := Aside0.mk (Kd.R_below (by (with_reducible repeat (first | apply Kd.R_alloc | apply Kd.R_drewN | apply Kd.R_drew)); exact HO130.out) hb); have n1_ := Aside0.mk (Kd.R_elder' (by (with_reducible repeat (first | apply Kd.R_alloc | apply Kd.R_drewN | apply Kd.R_drew)); exact HO133.out) (Kd.R_base ho36) hb); have n2_ := Aside0.mk (Kd.R_below (by (with_reducible repeat (first | apply Kd.R_alloc | apply Kd.R_drewN | apply Kd.R_drew)); exact HO137.out) hb); have n3_ := Aside0.mk (Kd.R_elder' (by (with_reducible repeat (first | apply Kd.R_alloc | apply Kd.R_drewN | apply Kd.R_drew)); exact HO140.out) (Kd.R_base ho36) hb); have n4_ := Aside0.mk (Kd.R_lower (Kd.R_new' (Kd.R_new' ho36 (Kd.R_lt (by (with_reducible repeat (first | apply Kd.R_alloc | apply Kd.R_drewN | apply Kd.R_drew)); exact HO133.out))) (Kd.R_lt (by (with_reducible repeat (first | apply Kd.R_alloc | apply Kd.R_drewN | apply Kd.R_drew)); exact HO140.out))) (below_size (by repeat (first | (with_reducible first | exact HB.out | apply below_alloc | apply pw_below_drewN | apply below_drew1 | refine below_set ?_ GE119.out) | exact HB.out)))); have n5_ := Aside0.mk (blk_below (g := gb119) (o := .cells #[.int .i64 t117, .int .i64 t118, .int .i64 0, .int .i64 0, .int .i64 1, .int .i32 97] 38 (0, 0)) (by (with_reducible repeat (first | refine blk_drewN ?_ _ | refine blk_drew ?_ | refine blk_alloc ?_ _)); exact BK119.out) hb); have n6_ := Aside0.mk (below_step (by repeat (first | (with_reducible first | exact HB.out | apply below_alloc | apply pw_below_drewN | apply below_drew1 | refine below_set ?_ GE119.out) | exact HB.out)) hb); clear HO130; clear HO133; clear HO137; clear HO140; clear BK119; clear HB; have HO130 := n0_; have HO133 := n1_; have HO137 := n2_; have HO140 := n3_; have HO144 := n4_; have BK119 := n5_; have HB := n6_; clear n0_ n1_ n2_ n3_ n4_ n5_ n6_; clear hb ho36; obtain ⟨Ao37, co37, eo37⟩ := Kd.R_slice HO130.out; subst eo37; obtain ⟨Ao38, co38, eo38⟩ := Kd.R_slice HO144.out; subst eo38) | (go_at_call 10; (with_reducible refine (redpencillaw17_encodes.calls _ _ y128 _ _ y142 0 true _ ?side1 ?side2 ?side3 ?side4 A20.out).mono ?_); (case side1 => repeat (first | exact (Kd.R_reads' HO130.out).2.2 | (with_reducible refine Kd.C_alloc ?_ _) | (with_reducible refine Kd.C_drewN ?_ _) | (with_reducible refine Kd.C_drew ?_))); (case side2 => exact (Kd.R_reads' HO130.out).2.1); (case side3 => repeat (first | exact (Kd.R_reads' HO144.out).2.2 | (with_reducible refine Kd.C_alloc ?_ _) | (with_reducible refine Kd.C_drewN ?_ _) | (with_reducible refine Kd.C_drew ?_))); (case side4 => exact (Kd.R_reads' HO144.out).2.1); rintro e w39 ⟨rfl, hb⟩; have n0_ := Aside0.mk (Kd.R_below (by (with_reducible repeat (first | apply Kd.R_alloc | apply Kd.R_drewN | apply Kd.R_drew)); exact HO130.out) hb); have n1_ := Aside0.mk (Kd.R_below (by (with_reducible repeat (first | apply Kd.R_alloc | apply Kd.R_drewN | apply Kd.R_drew)); exact HO133.out) hb); have n2_ := Aside0.mk (Kd.R_below (by (with_reducible repeat (first | apply Kd.R_alloc | apply Kd.R_drewN | apply Kd.R_drew)); exact HO137.out) hb); have n3_ := Aside0.mk (Kd.R_below (by (with_reducible repeat (first | apply Kd.R_alloc | apply Kd.R_drewN | apply Kd.R_drew)); exact HO140.out) hb); have n4_ := Aside0.mk (Kd.R_below (by (with_reducible repeat (first | apply Kd.R_alloc | apply Kd.R_drewN | apply Kd.R_drew)); exact HO144.out) hb); have n5_ := Aside0.mk (blk_below (g := gb119) (o := .cells #[.int .i64 t117, .int .i64 t118, .int .i64 0, .int .i64 0, .int .i64 1, .int .i32 97] 38 (0, 0)) (by (with_reducible repeat (first | refine blk_drewN ?_ _ | refine blk_drew ?_ | refine blk_alloc ?_ _)); exact BK119.out) hb); have n6_ := Aside0.mk (below_step (by repeat (first | (with_reducible first | exact HB.out | apply below_alloc | apply pw_below_drewN | apply below_drew1 | refine below_set ?_ GE119.out) | exact HB.out)) hb); clear HO130; clear HO133; clear HO137; clear HO140; clear HO144; clear BK119; clear HB; have HO130 := n0_; have HO133 := n1_; have HO137 := n2_; have HO140 := n3_; have HO144 := n4_; have BK119 := n5_; have HB := n6_; clear n0_ n1_ n2_ n3_ n4_ n5_ n6_; (try clear hb); (try clear hb2); (try clear hk); (try clear hi)) | (go_at_call 12; (with_reducible refine (redpencillaw17_sizes.calls _ _ y128 17 0 t146 _ ?side1 ?side2 A22.out).mono ?_); (case side1 => repeat (first | exact (Kd.R_reads' HO130.out).2.2 | (with_reducible refine Kd.C_alloc ?_ _) | (with_reducible refine Kd.C_drewN ?_ _) | (with_reducible refine Kd.C_drew ?_))); (case side2 => exact (Kd.R_reads' HO130.out).2.1); rintro e w40 ⟨rfl, hb⟩; have n0_ := Aside0.mk (Kd.R_below (by (with_reducible repeat (first | apply Kd.R_alloc | apply Kd.R_drewN | apply Kd.R_drew)); exact HO130.out) hb); have n1_ := Aside0.mk (Kd.R_below (by (with_reducible repeat (first | apply Kd.R_alloc | apply Kd.R_drewN | apply Kd.R_drew)); exact HO133.out) hb); have n2_ := Aside0.mk (Kd.R_below (by (with_reducible repeat (first | apply Kd.R_alloc | apply Kd.R_drewN | apply Kd.R_drew)); exact HO137.out) hb); have n3_ := Aside0.mk (Kd.R_below (by (with_reducible repeat (first | apply Kd.R_alloc | apply Kd.R_drewN | apply Kd.R_drew)); exact HO140.out) hb); have n4_ := Aside0.mk (Kd.R_below (by (with_reducible repeat (first | apply Kd.R_alloc | apply Kd.R_drewN | apply Kd.R_drew)); exact HO144.out) hb); have n5_ := Aside0.mk (blk_below (g := gb119) (o := .cells #[.int .i64 t117, .int .i64 t118, .int .i64 0, .int .i64 0, .int .i64 1, .int .i32 97] 38 (0, 0)) (by (with_reducible repeat (first | refine blk_drewN ?_ _ | refine blk_drew ?_ | refine blk_alloc ?_ _)); exact BK119.out) hb); have n6_ := Aside0.mk (below_step (by repeat (first | (with_reducible first | exact HB.out | apply below_alloc | apply pw_below_drewN | apply below_drew1 | refine below_set ?_ GE119.out) | exact HB.out)) hb); clear HO130; clear HO133; clear HO137; clear HO140; clear HO144; clear BK119; clear HB; have HO130 := n0_; have HO133 := n1_; have HO137 := n2_; have HO140 := n3_; have HO144 := n4_; have BK119 := n5_; have HB := n6_; clear n0_ n1_ n2_ n3_ n4_ n5_ n6_; (try clear hb); (try clear hb2); (try clear hk); (try clear hi)))
     go_meet
     case rel => exact ⟨_, (!t146), (by first | rfl | (simp; done) | (simp [*]; done)), H', ⟨by first | omega | exact Nat.le_refl _⟩, ⟨by (with_reducible repeat (first | apply Kd.R_alloc | apply Kd.R_drewN | apply Kd.R_drew)); exact Kd.R_mono HO130.out (fun _ hk => hk.1.2)⟩, ⟨by (with_reducible repeat (first | refine blk_drewN ?_ _ | refine blk_drew ?_ | refine blk_alloc ?_ _)); exact BK119.out⟩, ⟨by repeat (first | (with_reducible first | exact HB.out | apply below_alloc | apply pw_below_drewN | apply below_drew1 | refine below_set ?_ GE119.out) | exact HB.out)⟩⟩
    ·
     replace c21 := Bool.eq_false_iff.mpr c21
     subst c21
     have H1 : (redpencillaw17_known.j0 k y128 true) = some true := by rw [if_neg (show ¬ (false = true) by decide)] at H; exact H
     clear H
     have H := H1
     clear H1
     have H' := Aside0.mk H
     clear H
     go_wp2_with (first | ((with_reducible refine gate_dst (N := 12) rfl ?_); (try (refine gate_guard (by rfl) ?_; dsimp only)); refine Kd.R_lit (Kd.int .u8) _ 5 ?hg (N := 12) ?hd (xs := ([0, 0] : List Int)) (inner := [.int .u8 0, .int .u8 0]) (ok := fun _ => True) (okp := fun _ => True) ?hr ?hp (fun _ hk => hk) trivial (Below.refl _ _) (Nat.le_refl _) (by simp) ?_; (case hd => rfl); (case hg => rfl); (case hr => first | (go_simp; done) | (go_simp; rfl)); (case hp => exact (Reps.one (show Kd.M (Kd.int .u8) _ _ _ 0 [.int .u8 0] from rfl) (Reps.one (show Kd.M (Kd.int .u8) _ _ _ 0 [.int .u8 0] from rfl) (Reps.none _ _)))); intro v132 w41 ho42 hb hg_ hnew_; clear hg_ hnew_; (first | rw [← Ny131.out] at ho42 | (simp only [Int.reduceToNat] at ho42; rw [← Ny131.out] at ho42)); have n0_ := Aside0.mk (Kd.R_below (by (with_reducible repeat (first | apply Kd.R_alloc | apply Kd.R_drewN | apply Kd.R_drew)); exact HO130.out) hb); have n1_ := Aside0.mk (Kd.R_lower ho42 (below_size (by repeat (first | (with_reducible first | exact HB.out | apply below_alloc | apply pw_below_drewN | apply below_drew1 | refine below_set ?_ GE119.out) | exact HB.out)))); have n2_ := Aside0.mk (blk_below (g := gb119) (o := .cells #[.int .i64 t117, .int .i64 t118, .int .i64 0, .int .i64 0, .int .i64 1, .int .i32 97] 38 (0, 0)) (by (with_reducible repeat (first | refine blk_drewN ?_ _ | refine blk_drew ?_ | refine blk_alloc ?_ _)); exact BK119.out) hb); have n3_ := Aside0.mk (below_step (by repeat (first | (with_reducible first | exact HB.out | apply below_alloc | apply pw_below_drewN | apply below_drew1 | refine below_set ?_ GE119.out) | exact HB.out)) hb); clear HO130; clear BK119; clear HB; have HO130 := n0_; have HO133 := n1_; have BK119 := n2_; have HB := n3_; clear n0_ n1_ n2_ n3_; clear hb ho42; obtain ⟨Ao43, co43, eo43⟩ := Kd.R_slice HO133.out; subst eo43) | ((with_reducible refine gate_callee (f := 10) rfl ?_); refine goesL_ (some 13) rfl rfl Try.func10 (by kernel_rfl) rfl #[.slice none 0 0, .slice Ao43 y131.length co43, .int .i64 0] rfl (by (try simp only [List.map_toArray, List.map_cons, List.map_nil]); first | done | rfl | (simp only [List.length_drop, List.length_take]; rfl)) ?_; (refine (redpencillaw17_encodes.calls _ _ ([] : List (S38)) _ _ y131 0 true _ ?side1 ?side2 ?side3 ?side4 A16.out).mono ?_); (case side1 => exact Kd.C_nil _ _); (case side2 => exact Nat.le_refl _); (case side3 => repeat (first | exact (Kd.R_reads' HO133.out).2.2 | (with_reducible refine Kd.C_alloc ?_ _) | (with_reducible refine Kd.C_drewN ?_ _) | (with_reducible refine Kd.C_drew ?_))); (case side4 => exact (Kd.R_reads' HO133.out).2.1); rintro e w44 ⟨rfl, hb⟩; refine ⟨_, rfl, ?_⟩; have n0_ := Aside0.mk (Kd.R_below (by (with_reducible repeat (first | apply Kd.R_alloc | apply Kd.R_drewN | apply Kd.R_drew)); exact HO130.out) hb); have n1_ := Aside0.mk (Kd.R_below (by (with_reducible repeat (first | apply Kd.R_alloc | apply Kd.R_drewN | apply Kd.R_drew)); exact HO133.out) hb); have n2_ := Aside0.mk (blk_below (g := gb119) (o := .cells #[.int .i64 t117, .int .i64 t118, .int .i64 0, .int .i64 0, .int .i64 1, .int .i32 97] 38 (0, 0)) (by (with_reducible repeat (first | refine blk_drewN ?_ _ | refine blk_drew ?_ | refine blk_alloc ?_ _)); exact BK119.out) hb); have n3_ := Aside0.mk (below_step (by repeat (first | (with_reducible first | exact HB.out | apply below_alloc | apply pw_below_drewN | apply below_drew1 | refine below_set ?_ GE119.out) | exact HB.out)) hb); clear HO130; clear HO133; clear BK119; clear HB; have HO130 := n0_; have HO133 := n1_; have BK119 := n2_; have HB := n3_; clear n0_ n1_ n2_ n3_; (try clear hb); (try clear hb2); (try clear hk); (try clear hi); have hcz45_0 : w44.cell? ⟨gb119, 0, none⟩ = some (.int .i64 t117) := (blk_cell BK119.out 0).trans rfl; have hcz45_1 : w44.cell? ⟨gb119, 1, none⟩ = some (.int .i64 t118) := (blk_cell BK119.out 1).trans rfl; have hcz45_2 : w44.cell? ⟨gb119, 2, none⟩ = some (.int .i64 0) := (blk_cell BK119.out 2).trans rfl; have hcz45_3 : w44.cell? ⟨gb119, 3, none⟩ = some (.int .i64 0) := (blk_cell BK119.out 3).trans rfl; have hcz45_4 : w44.cell? ⟨gb119, 4, none⟩ = some (.int .i64 1) := (blk_cell BK119.out 4).trans rfl; have hcz45_5 : w44.cell? ⟨gb119, 5, none⟩ = some (.int .i32 97) := (blk_cell BK119.out 5).trans rfl; have hfz45_0 := blk_frozen BK119.out 0; have hfz45_1 := blk_frozen BK119.out 1; have hfz45_2 := blk_frozen BK119.out 2; have hfz45_3 := blk_frozen BK119.out 3; have hfz45_4 := blk_frozen BK119.out 4; have hfz45_5 := blk_frozen BK119.out 5) | ((with_reducible refine gate_dst (N := 17) rfl ?_); (try (refine gate_guard (by rfl) ?_; dsimp only)); refine Kd.R_lit k38 _ 38 ?hg (N := 17) ?hd (xs := ([(⟨(⟨t117, t118⟩ : S36), (⟨0, 0⟩ : S36), 1, 97⟩ : S38)] : List (S38))) (inner := [.int .i64 t117, .int .i64 t118, .int .i64 0, .int .i64 0, .int .i64 1, .int .i32 97]) (ok := fun _ => True) (okp := fun _ => True) ?hr ?hp (fun _ hk => hk) trivial (Below.refl _ _) (Nat.le_refl _) (by simp) ?_; (case hd => rfl); (case hg => rfl); (case hr => first | (go_simp; done) | (go_simp; rfl)); (case hp => exact (Reps.c6 (show Kd.M k38 _ _ _ (⟨(⟨t117, t118⟩ : S36), (⟨0, 0⟩ : S36), 1, 97⟩ : S38) [.int .i64 t117, .int .i64 t118, .int .i64 0, .int .i64 0, .int .i64 1, .int .i32 97] from (k38_mkM _ _ _ (⟨(⟨t117, t118⟩ : S36), (⟨0, 0⟩ : S36), 1, 97⟩ : S38) )) (Reps.none _ _))); intro v136 w46 ho47 hb hg_ hnew_; clear hg_ hnew_; (first | rw [← Ny135.out] at ho47 | (simp only [Int.reduceToNat] at ho47; rw [← Ny135.out] at ho47)); have n0_ := Aside0.mk (Kd.R_elder' (by (with_reducible repeat (first | apply Kd.R_alloc | apply Kd.R_drewN | apply Kd.R_drew)); exact HO130.out) (Kd.R_base ho47) hb); have n1_ := Aside0.mk (Kd.R_below (by (with_reducible repeat (first | apply Kd.R_alloc | apply Kd.R_drewN | apply Kd.R_drew)); exact HO133.out) hb); have n2_ := Aside0.mk (Kd.R_lower (Kd.R_newB (Kd.R_new' ho47 (Kd.R_lt (by (with_reducible repeat (first | apply Kd.R_alloc | apply Kd.R_drewN | apply Kd.R_drew)); exact HO130.out))) (g := gb119) (o := .cells #[.int .i64 t117, .int .i64 t118, .int .i64 0, .int .i64 0, .int .i64 1, .int .i32 97] 38 (0, 0)) (by (with_reducible repeat (first | refine blk_drewN ?_ _ | refine blk_drew ?_ | refine blk_alloc ?_ _)); exact BK119.out)) (below_size (by repeat (first | (with_reducible first | exact HB.out | apply below_alloc | apply pw_below_drewN | apply below_drew1 | refine below_set ?_ GE119.out) | exact HB.out)))); have n3_ := Aside0.mk (blk_below (g := gb119) (o := .cells #[.int .i64 t117, .int .i64 t118, .int .i64 0, .int .i64 0, .int .i64 1, .int .i32 97] 38 (0, 0)) (by (with_reducible repeat (first | refine blk_drewN ?_ _ | refine blk_drew ?_ | refine blk_alloc ?_ _)); exact BK119.out) hb); have n4_ := Aside0.mk (below_step (by repeat (first | (with_reducible first | exact HB.out | apply below_alloc | apply pw_below_drewN | apply below_drew1 | refine below_set ?_ GE119.out) | exact HB.out)) hb); clear HO130; clear HO133; clear BK119; clear HB; have HO130 := n0_; have HO133 := n1_; have HO137 := n2_; have BK119 := n3_; have HB := n4_; clear n0_ n1_ n2_ n3_ n4_; clear hb ho47) | ((with_reducible refine gate_dst (N := 18) rfl ?_); (try (refine gate_guard (by rfl) ?_; dsimp only)); refine Kd.R_lit (Kd.int .u8) _ 5 ?hg (N := 18) ?hd (xs := ([1, 1, 1, 0, 2, 1, 97] : List Int)) (inner := [.int .u8 1, .int .u8 1, .int .u8 1, .int .u8 0, .int .u8 2, .int .u8 1, .int .u8 97]) (ok := fun _ => True) (okp := fun _ => True) ?hr ?hp (fun _ hk => hk) trivial (Below.refl _ _) (Nat.le_refl _) (by simp) ?_; (case hd => rfl); (case hg => rfl); (case hr => first | (go_simp; done) | (go_simp; rfl)); (case hp => exact (Reps.one (show Kd.M (Kd.int .u8) _ _ _ 1 [.int .u8 1] from rfl) (Reps.one (show Kd.M (Kd.int .u8) _ _ _ 1 [.int .u8 1] from rfl) (Reps.one (show Kd.M (Kd.int .u8) _ _ _ 1 [.int .u8 1] from rfl) (Reps.one (show Kd.M (Kd.int .u8) _ _ _ 0 [.int .u8 0] from rfl) (Reps.one (show Kd.M (Kd.int .u8) _ _ _ 2 [.int .u8 2] from rfl) (Reps.one (show Kd.M (Kd.int .u8) _ _ _ 1 [.int .u8 1] from rfl) (Reps.one (show Kd.M (Kd.int .u8) _ _ _ 97 [.int .u8 97] from rfl) (Reps.none _ _))))))))); intro v139 w48 ho49 hb hg_ hnew_; clear hg_ hnew_; (first | rw [← Ny138.out] at ho49 | (simp only [Int.reduceToNat] at ho49; rw [← Ny138.out] at ho49)); have n0_ := Aside0.mk (Kd.R_below (by (with_reducible repeat (first | apply Kd.R_alloc | apply Kd.R_drewN | apply Kd.R_drew)); exact HO130.out) hb); have n1_ := Aside0.mk (Kd.R_elder' (by (with_reducible repeat (first | apply Kd.R_alloc | apply Kd.R_drewN | apply Kd.R_drew)); exact HO133.out) (Kd.R_base ho49) hb); have n2_ := Aside0.mk (Kd.R_below (by (with_reducible repeat (first | apply Kd.R_alloc | apply Kd.R_drewN | apply Kd.R_drew)); exact HO137.out) hb); have n3_ := Aside0.mk (Kd.R_lower (Kd.R_new' ho49 (Kd.R_lt (by (with_reducible repeat (first | apply Kd.R_alloc | apply Kd.R_drewN | apply Kd.R_drew)); exact HO133.out))) (below_size (by repeat (first | (with_reducible first | exact HB.out | apply below_alloc | apply pw_below_drewN | apply below_drew1 | refine below_set ?_ GE119.out) | exact HB.out)))); have n4_ := Aside0.mk (blk_below (g := gb119) (o := .cells #[.int .i64 t117, .int .i64 t118, .int .i64 0, .int .i64 0, .int .i64 1, .int .i32 97] 38 (0, 0)) (by (with_reducible repeat (first | refine blk_drewN ?_ _ | refine blk_drew ?_ | refine blk_alloc ?_ _)); exact BK119.out) hb); have n5_ := Aside0.mk (below_step (by repeat (first | (with_reducible first | exact HB.out | apply below_alloc | apply pw_below_drewN | apply below_drew1 | refine below_set ?_ GE119.out) | exact HB.out)) hb); clear HO130; clear HO133; clear HO137; clear BK119; clear HB; have HO130 := n0_; have HO133 := n1_; have HO137 := n2_; have HO140 := n3_; have BK119 := n4_; have HB := n5_; clear n0_ n1_ n2_ n3_ n4_ n5_; clear hb ho49; obtain ⟨Ao50, co50, eo50⟩ := Kd.R_slice HO137.out; subst eo50; obtain ⟨Ao51, co51, eo51⟩ := Kd.R_slice HO140.out; subst eo51) | (go_at_call 10; (with_reducible refine (redpencillaw17_encodes.calls _ _ y135 _ _ y138 0 true _ ?side1 ?side2 ?side3 ?side4 A18.out).mono ?_); (case side1 => repeat (first | exact (Kd.R_reads' HO137.out).2.2 | (with_reducible refine Kd.C_alloc ?_ _) | (with_reducible refine Kd.C_drewN ?_ _) | (with_reducible refine Kd.C_drew ?_))); (case side2 => exact (Kd.R_reads' HO137.out).2.1); (case side3 => repeat (first | exact (Kd.R_reads' HO140.out).2.2 | (with_reducible refine Kd.C_alloc ?_ _) | (with_reducible refine Kd.C_drewN ?_ _) | (with_reducible refine Kd.C_drew ?_))); (case side4 => exact (Kd.R_reads' HO140.out).2.1); rintro e w52 ⟨rfl, hb⟩; have n0_ := Aside0.mk (Kd.R_below (by (with_reducible repeat (first | apply Kd.R_alloc | apply Kd.R_drewN | apply Kd.R_drew)); exact HO130.out) hb); have n1_ := Aside0.mk (Kd.R_below (by (with_reducible repeat (first | apply Kd.R_alloc | apply Kd.R_drewN | apply Kd.R_drew)); exact HO133.out) hb); have n2_ := Aside0.mk (Kd.R_below (by (with_reducible repeat (first | apply Kd.R_alloc | apply Kd.R_drewN | apply Kd.R_drew)); exact HO137.out) hb); have n3_ := Aside0.mk (Kd.R_below (by (with_reducible repeat (first | apply Kd.R_alloc | apply Kd.R_drewN | apply Kd.R_drew)); exact HO140.out) hb); have n4_ := Aside0.mk (blk_below (g := gb119) (o := .cells #[.int .i64 t117, .int .i64 t118, .int .i64 0, .int .i64 0, .int .i64 1, .int .i32 97] 38 (0, 0)) (by (with_reducible repeat (first | refine blk_drewN ?_ _ | refine blk_drew ?_ | refine blk_alloc ?_ _)); exact BK119.out) hb); have n5_ := Aside0.mk (below_step (by repeat (first | (with_reducible first | exact HB.out | apply below_alloc | apply pw_below_drewN | apply below_drew1 | refine below_set ?_ GE119.out) | exact HB.out)) hb); clear HO130; clear HO133; clear HO137; clear HO140; clear BK119; clear HB; have HO130 := n0_; have HO133 := n1_; have HO137 := n2_; have HO140 := n3_; have BK119 := n4_; have HB := n5_; clear n0_ n1_ n2_ n3_ n4_ n5_; (try clear hb); (try clear hb2); (try clear hk); (try clear hi)) | ((with_reducible refine gate_dst (N := 24) rfl ?_); (try (refine gate_guard (by rfl) ?_; dsimp only)); refine Kd.R_lit (Kd.int .u8) _ 5 ?hg (N := 24) ?hd (xs := ([2, 2, 3, 1, 2, 141, 1, 1, 197, 1, 2, 3, 142, 1, 2, 195, 169] : List Int)) (inner := [.int .u8 2, .int .u8 2, .int .u8 3, .int .u8 1, .int .u8 2, .int .u8 141, .int .u8 1, .int .u8 1, .int .u8 197, .int .u8 1, .int .u8 2, .int .u8 3, .int .u8 142, .int .u8 1, .int .u8 2, .int .u8 195, .int .u8 169]) (ok := fun _ => True) (okp := fun _ => True) ?hr ?hp (fun _ hk => hk) trivial (Below.refl _ _) (Nat.le_refl _) (by simp) ?_; (case hd => rfl); (case hg => rfl); (case hr => first | (go_simp; done) | (go_simp; rfl)); (case hp => exact (Reps.one (show Kd.M (Kd.int .u8) _ _ _ 2 [.int .u8 2] from rfl) (Reps.one (show Kd.M (Kd.int .u8) _ _ _ 2 [.int .u8 2] from rfl) (Reps.one (show Kd.M (Kd.int .u8) _ _ _ 3 [.int .u8 3] from rfl) (Reps.one (show Kd.M (Kd.int .u8) _ _ _ 1 [.int .u8 1] from rfl) (Reps.one (show Kd.M (Kd.int .u8) _ _ _ 2 [.int .u8 2] from rfl) (Reps.one (show Kd.M (Kd.int .u8) _ _ _ 141 [.int .u8 141] from rfl) (Reps.one (show Kd.M (Kd.int .u8) _ _ _ 1 [.int .u8 1] from rfl) (Reps.one (show Kd.M (Kd.int .u8) _ _ _ 1 [.int .u8 1] from rfl) (Reps.one (show Kd.M (Kd.int .u8) _ _ _ 197 [.int .u8 197] from rfl) (Reps.one (show Kd.M (Kd.int .u8) _ _ _ 1 [.int .u8 1] from rfl) (Reps.one (show Kd.M (Kd.int .u8) _ _ _ 2 [.int .u8 2] from rfl) (Reps.one (show Kd.M (Kd.int .u8) _ _ _ 3 [.int .u8 3] from rfl) (Reps.one (show Kd.M (Kd.int .u8) _ _ _ 142 [.int .u8 142] from rfl) (Reps.one (show Kd.M (Kd.int .u8) _ _ _ 1 [.int .u8 1] from rfl) (Reps.one (show Kd.M (Kd.int .u8) _ _ _ 2 [.int .u8 2] from rfl) (Reps.one (show Kd.M (Kd.int .u8) _ _ _ 195 [.int .u8 195] from rfl) (Reps.one (show Kd.M (Kd.int .u8) _ _ _ 169 [.int .u8 169] from rfl) (Reps.none _ _))))))))))))))))))); intro v143 w53 ho54 hb hg_ hnew_; clear hg_ hnew_; (first | rw [← Ny142.out] at ho54 | (simp only [Int.reduceToNat] at ho54; rw [← Ny142.out] at ho54)); have n0_ := Aside0.mk (Kd.R_below (by (with_reducible repeat (first | apply Kd.R_alloc | apply Kd.R_drewN | apply Kd.R_drew)); exact HO130.out) hb); have n1_ := Aside0.mk (Kd.R_elder' (by (with_reducible repeat (first | apply Kd.R_alloc | apply Kd.R_drewN | apply Kd.R_drew)); exact HO133.out) (Kd.R_base ho54) hb); have n2_ := Aside0.mk (Kd.R_below (by (with_reducible repeat (first | apply Kd.R_alloc | apply Kd.R_drewN | apply Kd.R_drew)); exact HO137.out) hb); have n3_ := Aside0.mk (Kd.R_elder' (by (with_reducible repeat (first | apply Kd.R_alloc | apply Kd.R_drewN | apply Kd.R_drew)); exact HO140.out) (Kd.R_base ho54) hb); have n4_ := Aside0.mk (Kd.R_lower (Kd.R_new' (Kd.R_new' ho54 (Kd.R_lt (by (with_reducible repeat (first | apply Kd.R_alloc | apply Kd.R_drewN | apply Kd.R_drew)); exact HO133.out))) (Kd.R_lt (by (with_reducible repeat (first | apply Kd.R_alloc | apply Kd.R_drewN | apply Kd.R_drew)); exact HO140.out))) (below_size (by repeat (first | (with_reducible first | exact HB.out | apply below_alloc | apply pw_below_drewN | apply below_drew1 | refine below_set ?_ GE119.out) | exact HB.out)))); have n5_ := Aside0.mk (blk_below (g := gb119) (o := .cells #[.int .i64 t117, .int .i64 t118, .int .i64 0, .int .i64 0, .int .i64 1, .int .i32 97] 38 (0, 0)) (by (with_reducible repeat (first | refine blk_drewN ?_ _ | refine blk_drew ?_ | refine blk_alloc ?_ _)); exact BK119.out) hb); have n6_ := Aside0.mk (below_step (by repeat (first | (with_reducible first | exact HB.out | apply below_alloc | apply pw_below_drewN | apply below_drew1 | refine below_set ?_ GE119.out) | exact HB.out)) hb); clear HO130; clear HO133; clear HO137; clear HO140; clear BK119; clear HB; have HO130 := n0_; have HO133 := n1_; have HO137 := n2_; have HO140 := n3_; have HO144 := n4_; have BK119 := n5_; have HB := n6_; clear n0_ n1_ n2_ n3_ n4_ n5_ n6_; clear hb ho54; obtain ⟨Ao55, co55, eo55⟩ := Kd.R_slice HO130.out; subst eo55; obtain ⟨Ao56, co56, eo56⟩ := Kd.R_slice HO144.out; subst eo56) | (go_at_call 10; (with_reducible refine (redpencillaw17_encodes.calls _ _ y128 _ _ y142 0 false _ ?side1 ?side2 ?side3 ?side4 A20.out).mono ?_); (case side1 => repeat (first | exact (Kd.R_reads' HO130.out).2.2 | (with_reducible refine Kd.C_alloc ?_ _) | (with_reducible refine Kd.C_drewN ?_ _) | (with_reducible refine Kd.C_drew ?_))); (case side2 => exact (Kd.R_reads' HO130.out).2.1); (case side3 => repeat (first | exact (Kd.R_reads' HO144.out).2.2 | (with_reducible refine Kd.C_alloc ?_ _) | (with_reducible refine Kd.C_drewN ?_ _) | (with_reducible refine Kd.C_drew ?_))); (case side4 => exact (Kd.R_reads' HO144.out).2.1); rintro e w57 ⟨rfl, hb⟩; have n0_ := Aside0.mk (Kd.R_below (by (with_reducible repeat (first | apply Kd.R_alloc | apply Kd.R_drewN | apply Kd.R_drew)); exact HO130.out) hb); have n1_ := Aside0.mk (Kd.R_below (by (with_reducible repeat (first | apply Kd.R_alloc | apply Kd.R_drewN | apply Kd.R_drew)); exact HO133.out) hb); have n2_ := Aside0.mk (Kd.R_below (by (with_reducible repeat (first | apply Kd.R_alloc | apply Kd.R_drewN | apply Kd.R_drew)); exact HO137.out) hb); have n3_ := Aside0.mk (Kd.R_below (by (with_reducible repeat (first | apply Kd.R_alloc | apply Kd.R_drewN | apply Kd.R_drew)); exact HO140.out) hb); have n4_ := Aside0.mk (Kd.R_below (by (with_reducible repeat (first | apply Kd.R_alloc | apply Kd.R_drewN | apply Kd.R_drew)); exact HO144.out) hb); have n5_ := Aside0.mk (blk_below (g := gb119) (o := .cells #[.int .i64 t117, .int .i64 t118, .int .i64 0, .int .i64 0, .int .i64 1, .int .i32 97] 38 (0, 0)) (by (with_reducible repeat (first | refine blk_drewN ?_ _ | refine blk_drew ?_ | refine blk_alloc ?_ _)); exact BK119.out) hb); have n6_ := Aside0.mk (below_step (by repeat (first | (with_reducible first | exact HB.out | apply below_alloc | apply pw_below_drewN | apply below_drew1 | refine below_set ?_ GE119.out) | exact HB.out)) hb); clear HO130; clear HO133; clear HO137; clear HO140; clear HO144; clear BK119; clear HB; have HO130 := n0_; have HO133 := n1_; have HO137 := n2_; have HO140 := n3_; have HO144 := n4_; have BK119 := n5_; have HB := n6_; clear n0_ n1_ n2_ n3_ n4_ n5_ n6_; (try clear hb); (try clear hb2); (try clear hk); (try clear hi)))
     go_meet
     case rel => exact ⟨_, (true), (by first | rfl | (simp; done) | (simp [*]; done)), H', ⟨by first | omega | exact Nat.le_refl _⟩, ⟨by (with_reducible repeat (first | apply Kd.R_alloc | apply Kd.R_drewN | apply Kd.R_drew)); exact Kd.R_mono HO130.out (fun _ hk => hk.1.2)⟩, ⟨by (with_reducible repeat (first | refine blk_drewN ?_ _ | refine blk_drew ?_ | refine blk_alloc ?_ _)); exact BK119.out⟩, ⟨by repeat (first | (with_reducible first | exact HB.out | apply below_alloc | apply pw_below_drewN | apply below_drew1 | refine below_set ?_ GE119.out) | exact HB.out)⟩⟩
   ·
    replace c19 := Bool.eq_false_iff.mpr c19
    subst c19
    have H1 : (redpencillaw17_known.j0 k y128 true) = some true := by rw [if_neg (show ¬ (false = true) by decide)] at H; exact H
    clear H
    have H := H1
    clear H1
    have H' := Aside0.mk H
    clear H
    go_wp2_with (first | ((with_reducible refine gate_dst (N := 12) rfl ?_); (try (refine gate_guard (by rfl) ?_; dsimp only)); refine Kd.R_lit (Kd.int .u8) _ 5 ?hg (N := 12) ?hd (xs := ([0, 0] : List Int)) (inner := [.int .u8 0, .int .u8 0]) (ok := fun _ => True) (okp := fun _ => True) ?hr ?hp (fun _ hk => hk) trivial (Below.refl _ _) (Nat.le_refl _) (by simp) ?_; (case hd => rfl); (case hg => rfl); (case hr => first | (go_simp; done) | (go_simp; rfl)); (case hp => exact (Reps.one (show Kd.M (Kd.int .u8) _ _ _ 0 [.int .u8 0] from rfl) (Reps.one (show Kd.M (Kd.int .u8) _ _ _ 0 [.int .u8 0] from rfl) (Reps.none _ _)))); intro v132 w58 ho59 hb hg_ hnew_; clear hg_ hnew_; (first | rw [← Ny131.out] at ho59 | (simp only [Int.reduceToNat] at ho59; rw [← Ny131.out] at ho59)); have n0_ := Aside0.mk (Kd.R_below (by (with_reducible repeat (first | apply Kd.R_alloc | apply Kd.R_drewN | apply Kd.R_drew)); exact HO130.out) hb); have n1_ := Aside0.mk (Kd.R_lower ho59 (below_size (by repeat (first | (with_reducible first | exact HB.out | apply below_alloc | apply pw_below_drewN | apply below_drew1 | refine below_set ?_ GE119.out) | exact HB.out)))); have n2_ := Aside0.mk (blk_below (g := gb119) (o := .cells #[.int .i64 t117, .int .i64 t118, .int .i64 0, .int .i64 0, .int .i64 1, .int .i32 97] 38 (0, 0)) (by (with_reducible repeat (first | refine blk_drewN ?_ _ | refine blk_drew ?_ | refine blk_alloc ?_ _)); exact BK119.out) hb); have n3_ := Aside0.mk (below_step (by repeat (first | (with_reducible first | exact HB.out | apply below_alloc | apply pw_below_drewN | apply below_drew1 | refine below_set ?_ GE119.out) | exact HB.out)) hb); clear HO130; clear BK119; clear HB; have HO130 := n0_; have HO133 := n1_; have BK119 := n2_; have HB := n3_; clear n0_ n1_ n2_ n3_; clear hb ho59; obtain ⟨Ao60, co60, eo60⟩ := Kd.R_slice HO133.out; subst eo60) | ((with_reducible refine gate_callee (f := 10) rfl ?_); refine goesL_ (some 13) rfl rfl Try.func10 (by kernel_rfl) rfl #[.slice none 0 0, .slice Ao60 y131.length co60, .int .i64 0] rfl (by (try simp only [List.map_toArray, List.map_cons, List.map_nil]); first | done | rfl | (simp only [List.length_drop, List.length_take]; rfl)) ?_; (refine (redpencillaw17_encodes.calls _ _ ([] : List (S38)) _ _ y131 0 true _ ?side1 ?side2 ?side3 ?side4 A16.out).mono ?_); (case side1 => exact Kd.C_nil _ _); (case side2 => exact Nat.le_refl _); (case side3 => repeat (first | exact (Kd.R_reads' HO133.out).2.2 | (with_reducible refine Kd.C_alloc ?_ _) | (with_reducible refine Kd.C_drewN ?_ _) | (with_reducible refine Kd.C_drew ?_))); (case side4 => exact (Kd.R_reads' HO133.out).2.1); rintro e w61 ⟨rfl, hb⟩; refine ⟨_, rfl, ?_⟩; have n0_ := Aside0.mk (Kd.R_below (by (with_reducible repeat (first | apply Kd.R_alloc | apply Kd.R_drewN | apply Kd.R_drew)); exact HO130.out) hb); have n1_ := Aside0.mk (Kd.R_below (by (with_reducible repeat (first | apply Kd.R_alloc | apply Kd.R_drewN | apply Kd.R_drew)); exact HO133.out) hb); have n2_ := Aside0.mk (blk_below (g := gb119) (o := .cells #[.int .i64 t117, .int .i64 t118, .int .i64 0, .int .i64 0, .int .i64 1, .int .i32 97] 38 (0, 0)) (by (with_reducible repeat (first | refine blk_drewN ?_ _ | refine blk_drew ?_ | refine blk_alloc ?_ _)); exact BK119.out) hb); have n3_ := Aside0.mk (below_step (by repeat (first | (with_reducible first | exact HB.out | apply below_alloc | apply pw_below_drewN | apply below_drew1 | refine below_set ?_ GE119.out) | exact HB.out)) hb); clear HO130; clear HO133; clear BK119; clear HB; have HO130 := n0_; have HO133 := n1_; have BK119 := n2_; have HB := n3_; clear n0_ n1_ n2_ n3_; (try clear hb); (try clear hb2); (try clear hk); (try clear hi); have hcz62_0 : w61.cell? ⟨gb119, 0, none⟩ = some (.int .i64 t117) := (blk_cell BK119.out 0).trans rfl; have hcz62_1 : w61.cell? ⟨gb119, 1, none⟩ = some (.int .i64 t118) := (blk_cell BK119.out 1).trans rfl; have hcz62_2 : w61.cell? ⟨gb119, 2, none⟩ = some (.int .i64 0) := (blk_cell BK119.out 2).trans rfl; have hcz62_3 : w61.cell? ⟨gb119, 3, none⟩ = some (.int .i64 0) := (blk_cell BK119.out 3).trans rfl; have hcz62_4 : w61.cell? ⟨gb119, 4, none⟩ = some (.int .i64 1) := (blk_cell BK119.out 4).trans rfl; have hcz62_5 : w61.cell? ⟨gb119, 5, none⟩ = some (.int .i32 97) := (blk_cell BK119.out 5).trans rfl; have hfz62_0 := blk_frozen BK119.out 0; have hfz62_1 := blk_frozen BK119.out 1; have hfz62_2 := blk_frozen BK119.out 2; have hfz62_3 := blk_frozen BK119.out 3; have hfz62_4 := blk_frozen BK119.out 4; have hfz62_5 := blk_frozen BK119.out 5) | ((with_reducible refine gate_dst (N := 17) rfl ?_); (try (refine gate_guard (by rfl) ?_; dsimp only)); refine Kd.R_lit k38 _ 38 ?hg (N := 17) ?hd (xs := ([(⟨(⟨t117, t118⟩ : S36), (⟨0, 0⟩ : S36), 1, 97⟩ : S38)] : List (S38))) (inner := [.int .i64 t117, .int .i64 t118, .int .i64 0, .int .i64 0, .int .i64 1, .int .i32 97]) (ok := fun _ => True) (okp := fun _ => True) ?hr ?hp (fun _ hk => hk) trivial (Below.refl _ _) (Nat.le_refl _) (by simp) ?_; (case hd => rfl); (case hg => rfl); (case hr => first | (go_simp; done) | (go_simp; rfl)); (case hp => exact (Reps.c6 (show Kd.M k38 _ _ _ (⟨(⟨t117, t118⟩ : S36), (⟨0, 0⟩ : S36), 1, 97⟩ : S38) [.int .i64 t117, .int .i64 t118, .int .i64 0, .int .i64 0, .int .i64 1, .int .i32 97] from (k38_mkM _ _ _ (⟨(⟨t117, t118⟩ : S36), (⟨0, 0⟩ : S36), 1, 97⟩ : S38) )) (Reps.none _ _))); intro v136 w63 ho64 hb hg_ hnew_; clear hg_ hnew_; (first | rw [← Ny135.out] at ho64 | (simp only [Int.reduceToNat] at ho64; rw [← Ny135.out] at ho64)); have n0_ := Aside0.mk (Kd.R_elder' (by (with_reducible repeat (first | apply Kd.R_alloc | apply Kd.R_drewN | apply Kd.R_drew)); exact HO130.out) (Kd.R_base ho64) hb); have n1_ := Aside0.mk (Kd.R_below (by (with_reducible repeat (first | apply Kd.R_alloc | apply Kd.R_drewN | apply Kd.R_drew)); exact HO133.out) hb); have n2_ := Aside0.mk (Kd.R_lower (Kd.R_newB (Kd.R_new' ho64 (Kd.R_lt (by (with_reducible repeat (first | apply Kd.R_alloc | apply Kd.R_drewN | apply Kd.R_drew)); exact HO130.out))) (g := gb119) (o := .cells #[.int .i64 t117, .int .i64 t118, .int .i64 0, .int .i64 0, .int .i64 1, .int .i32 97] 38 (0, 0)) (by (with_reducible repeat (first | refine blk_drewN ?_ _ | refine blk_drew ?_ | refine blk_alloc ?_ _)); exact BK119.out)) (below_size (by repeat (first | (with_reducible first | exact HB.out | apply below_alloc | apply pw_below_drewN | apply below_drew1 | refine below_set ?_ GE119.out) | exact HB.out)))); have n3_ := Aside0.mk (blk_below (g := gb119) (o := .cells #[.int .i64 t117, .int .i64 t118, .int .i64 0, .int .i64 0, .int .i64 1, .int .i32 97] 38 (0, 0)) (by (with_reducible repeat (first | refine blk_drewN ?_ _ | refine blk_drew ?_ | refine blk_alloc ?_ _)); exact BK119.out) hb); have n4_ := Aside0.mk (below_step (by repeat (first | (with_reducible first | exact HB.out | apply below_alloc | apply pw_below_drewN | apply below_drew1 | refine below_set ?_ GE119.out) | exact HB.out)) hb); clear HO130; clear HO133; clear BK119; clear HB; have HO130 := n0_; have HO133 := n1_; have HO137 := n2_; have BK119 := n3_; have HB := n4_; clear n0_ n1_ n2_ n3_ n4_; clear hb ho64) | ((with_reducible refine gate_dst (N := 18) rfl ?_); (try (refine gate_guard (by rfl) ?_; dsimp only)); refine Kd.R_lit (Kd.int .u8) _ 5 ?hg (N := 18) ?hd (xs := ([1, 1, 1, 0, 2, 1, 97] : List Int)) (inner := [.int .u8 1, .int .u8 1, .int .u8 1, .int .u8 0, .int .u8 2, .int .u8 1, .int .u8 97]) (ok := fun _ => True) (okp := fun _ => True) ?hr ?hp (fun _ hk => hk) trivial (Below.refl _ _) (Nat.le_refl _) (by simp) ?_; (case hd => rfl); (case hg => rfl); (case hr => first | (go_simp; done) | (go_simp; rfl)); (case hp => exact (Reps.one (show Kd.M (Kd.int .u8) _ _ _ 1 [.int .u8 1] from rfl) (Reps.one (show Kd.M (Kd.int .u8) _ _ _ 1 [.int .u8 1] from rfl) (Reps.one (show Kd.M (Kd.int .u8) _ _ _ 1 [.int .u8 1] from rfl) (Reps.one (show Kd.M (Kd.int .u8) _ _ _ 0 [.int .u8 0] from rfl) (Reps.one (show Kd.M (Kd.int .u8) _ _ _ 2 [.int .u8 2] from rfl) (Reps.one (show Kd.M (Kd.int .u8) _ _ _ 1 [.int .u8 1] from rfl) (Reps.one (show Kd.M (Kd.int .u8) _ _ _ 97 [.int .u8 97] from rfl) (Reps.none _ _))))))))); intro v139 w65 ho66 hb hg_ hnew_; clear hg_ hnew_; (first | rw [← Ny138.out] at ho66 | (simp only [Int.reduceToNat] at ho66; rw [← Ny138.out] at ho66)); have n0_ := Aside0.mk (Kd.R_below (by (with_reducible repeat (first | apply Kd.R_alloc | apply Kd.R_drewN | apply Kd.R_drew)); exact HO130.out) hb); have n1_ := Aside0.mk (Kd.R_elder' (by (with_reducible repeat (first | apply Kd.R_alloc | apply Kd.R_drewN | apply Kd.R_drew)); exact HO133.out) (Kd.R_base ho66) hb); have n2_ := Aside0.mk (Kd.R_below (by (with_reducible repeat (first | apply Kd.R_alloc | apply Kd.R_drewN | apply Kd.R_drew)); exact HO137.out) hb); have n3_ := Aside0.mk (Kd.R_lower (Kd.R_new' ho66 (Kd.R_lt (by (with_reducible repeat (first | apply Kd.R_alloc | apply Kd.R_drewN | apply Kd.R_drew)); exact HO133.out))) (below_size (by repeat (first | (with_reducible first | exact HB.out | apply below_alloc | apply pw_below_drewN | apply below_drew1 | refine below_set ?_ GE119.out) | exact HB.out)))); have n4_ := Aside0.mk (blk_below (g := gb119) (o := .cells #[.int .i64 t117, .int .i64 t118, .int .i64 0, .int .i64 0, .int .i64 1, .int .i32 97] 38 (0, 0)) (by (with_reducible repeat (first | refine blk_drewN ?_ _ | refine blk_drew ?_ | refine blk_alloc ?_ _)); exact BK119.out) hb); have n5_ := Aside0.mk (below_step (by repeat (first | (with_reducible first | exact HB.out | apply below_alloc | apply pw_below_drewN | apply below_drew1 | refine below_set ?_ GE119.out) | exact HB.out)) hb); clear HO130; clear HO133; clear HO137; clear BK119; clear HB; have HO130 := n0_; have HO133 := n1_; have HO137 := n2_; have HO140 := n3_; have BK119 := n4_; have HB := n5_; clear n0_ n1_ n2_ n3_ n4_ n5_; clear hb ho66; obtain ⟨Ao67, co67, eo67⟩ := Kd.R_slice HO137.out; subst eo67; obtain ⟨Ao68, co68, eo68⟩ := Kd.R_slice HO140.out; subst eo68) | (go_at_call 10; (with_reducible refine (redpencillaw17_encodes.calls _ _ y135 _ _ y138 0 false _ ?side1 ?side2 ?side3 ?side4 A18.out).mono ?_); (case side1 => repeat (first | exact (Kd.R_reads' HO137.out).2.2 | (with_reducible refine Kd.C_alloc ?_ _) | (with_reducible refine Kd.C_drewN ?_ _) | (with_reducible refine Kd.C_drew ?_))); (case side2 => exact (Kd.R_reads' HO137.out).2.1); (case side3 => repeat (first | exact (Kd.R_reads' HO140.out).2.2 | (with_reducible refine Kd.C_alloc ?_ _) | (with_reducible refine Kd.C_drewN ?_ _) | (with_reducible refine Kd.C_drew ?_))); (case side4 => exact (Kd.R_reads' HO140.out).2.1); rintro e w69 ⟨rfl, hb⟩; have n0_ := Aside0.mk (Kd.R_below (by (with_reducible repeat (first | apply Kd.R_alloc | apply Kd.R_drewN | apply Kd.R_drew)); exact HO130.out) hb); have n1_ := Aside0.mk (Kd.R_below (by (with_reducible repeat (first | apply Kd.R_alloc | apply Kd.R_drewN | apply Kd.R_drew)); exact HO133.out) hb); have n2_ := Aside0.mk (Kd.R_below (by (with_reducible repeat (first | apply Kd.R_alloc | apply Kd.R_drewN | apply Kd.R_drew)); exact HO137.out) hb); have n3_ := Aside0.mk (Kd.R_below (by (with_reducible repeat (first | apply Kd.R_alloc | apply Kd.R_drewN | apply Kd.R_drew)); exact HO140.out) hb); have n4_ := Aside0.mk (blk_below (g := gb119) (o := .cells #[.int .i64 t117, .int .i64 t118, .int .i64 0, .int .i64 0, .int .i64 1, .int .i32 97] 38 (0, 0)) (by (with_reducible repeat (first | refine blk_drewN ?_ _ | refine blk_drew ?_ | refine blk_alloc ?_ _)); exact BK119.out) hb); have n5_ := Aside0.mk (below_step (by repeat (first | (with_reducible first | exact HB.out | apply below_alloc | apply pw_below_drewN | apply below_drew1 | refine below_set ?_ GE119.out) | exact HB.out)) hb); clear HO130; clear HO133; clear HO137; clear HO140; clear BK119; clear HB; have HO130 := n0_; have HO133 := n1_; have HO137 := n2_; have HO140 := n3_; have BK119 := n4_; have HB := n5_; clear n0_ n1_ n2_ n3_ n4_ n5_; (try clear hb); (try clear hb2); (try clear hk); (try clear hi)))
    go_meet
    case rel => exact ⟨_, (true), (by first | rfl | (simp; done) | (simp [*]; done)), H', ⟨by first | omega | exact Nat.le_refl _⟩, ⟨by (with_reducible repeat (first | apply Kd.R_alloc | apply Kd.R_drewN | apply Kd.R_drew)); exact Kd.R_mono HO130.out (fun _ hk => hk.1.2)⟩, ⟨by (with_reducible repeat (first | refine blk_drewN ?_ _ | refine blk_drew ?_ | refine blk_alloc ?_ _)); exact BK119.out⟩, ⟨by repeat (first | (with_reducible first | exact HB.out | apply below_alloc | apply pw_below_drewN | apply below_drew1 | refine below_set ?_ GE119.out) | exact HB.out)⟩⟩
  ·
   replace c17 := Bool.eq_false_iff.mpr c17
   subst c17
   have H1 : (redpencillaw17_known.j0 k y128 true) = some true := by rw [if_neg (show ¬ (false = true) by decide)] at H; exact H
   clear H
   have H := H1
   clear H1
   have H' := Aside0.mk H
   clear H
   go_wp2_with (first | ((with_reducible refine gate_dst (N := 12) rfl ?_); (try (refine gate_guard (by rfl) ?_; dsimp only)); refine Kd.R_lit (Kd.int .u8) _ 5 ?hg (N := 12) ?hd (xs := ([0, 0] : List Int)) (inner := [.int .u8 0, .int .u8 0]) (ok := fun _ => True) (okp := fun _ => True) ?hr ?hp (fun _ hk => hk) trivial (Below.refl _ _) (Nat.le_refl _) (by simp) ?_; (case hd => rfl); (case hg => rfl); (case hr => first | (go_simp; done) | (go_simp; rfl)); (case hp => exact (Reps.one (show Kd.M (Kd.int .u8) _ _ _ 0 [.int .u8 0] from rfl) (Reps.one (show Kd.M (Kd.int .u8) _ _ _ 0 [.int .u8 0] from rfl) (Reps.none _ _)))); intro v132 w70 ho71 hb hg_ hnew_; clear hg_ hnew_; (first | rw [← Ny131.out] at ho71 | (simp only [Int.reduceToNat] at ho71; rw [← Ny131.out] at ho71)); have n0_ := Aside0.mk (Kd.R_below (by (with_reducible repeat (first | apply Kd.R_alloc | apply Kd.R_drewN | apply Kd.R_drew)); exact HO130.out) hb); have n1_ := Aside0.mk (Kd.R_lower ho71 (below_size (by repeat (first | (with_reducible first | exact HB.out | apply below_alloc | apply pw_below_drewN | apply below_drew1 | refine below_set ?_ GE119.out) | exact HB.out)))); have n2_ := Aside0.mk (blk_below (g := gb119) (o := .cells #[.int .i64 t117, .int .i64 t118, .int .i64 0, .int .i64 0, .int .i64 1, .int .i32 97] 38 (0, 0)) (by (with_reducible repeat (first | refine blk_drewN ?_ _ | refine blk_drew ?_ | refine blk_alloc ?_ _)); exact BK119.out) hb); have n3_ := Aside0.mk (below_step (by repeat (first | (with_reducible first | exact HB.out | apply below_alloc | apply pw_below_drewN | apply below_drew1 | refine below_set ?_ GE119.out) | exact HB.out)) hb); clear HO130; clear BK119; clear HB; have HO130 := n0_; have HO133 := n1_; have BK119 := n2_; have HB := n3_; clear n0_ n1_ n2_ n3_; clear hb ho71; obtain ⟨Ao72, co72, eo72⟩ := Kd.R_slice HO133.out; subst eo72) | ((with_reducible refine gate_callee (f := 10) rfl ?_); refine goesL_ (some 13) rfl rfl Try.func10 (by kernel_rfl) rfl #[.slice none 0 0, .slice Ao72 y131.length co72, .int .i64 0] rfl (by (try simp only [List.map_toArray, List.map_cons, List.map_nil]); first | done | rfl | (simp only [List.length_drop, List.length_take]; rfl)) ?_; (refine (redpencillaw17_encodes.calls _ _ ([] : List (S38)) _ _ y131 0 false _ ?side1 ?side2 ?side3 ?side4 A16.out).mono ?_); (case side1 => exact Kd.C_nil _ _); (case side2 => exact Nat.le_refl _); (case side3 => repeat (first | exact (Kd.R_reads' HO133.out).2.2 | (with_reducible refine Kd.C_alloc ?_ _) | (with_reducible refine Kd.C_drewN ?_ _) | (with_reducible refine Kd.C_drew ?_))); (case side4 => exact (Kd.R_reads' HO133.out).2.1); rintro e w73 ⟨rfl, hb⟩; refine ⟨_, rfl, ?_⟩; have n0_ := Aside0.mk (Kd.R_below (by (with_reducible repeat (first | apply Kd.R_alloc | apply Kd.R_drewN | apply Kd.R_drew)); exact HO130.out) hb); have n1_ := Aside0.mk (Kd.R_below (by (with_reducible repeat (first | apply Kd.R_alloc | apply Kd.R_drewN | apply Kd.R_drew)); exact HO133.out) hb); have n2_ := Aside0.mk (blk_below (g := gb119) (o := .cells #[.int .i64 t117, .int .i64 t118, .int .i64 0, .int .i64 0, .int .i64 1, .int .i32 97] 38 (0, 0)) (by (with_reducible repeat (first | refine blk_drewN ?_ _ | refine blk_drew ?_ | refine blk_alloc ?_ _)); exact BK119.out) hb); have n3_ := Aside0.mk (below_step (by repeat (first | (with_reducible first | exact HB.out | apply below_alloc | apply pw_below_drewN | apply below_drew1 | refine below_set ?_ GE119.out) | exact HB.out)) hb); clear HO130; clear HO133; clear BK119; clear HB; have HO130 := n0_; have HO133 := n1_; have BK119 := n2_; have HB := n3_; clear n0_ n1_ n2_ n3_; (try clear hb); (try clear hb2); (try clear hk); (try clear hi)))
   go_meet
   case rel => exact ⟨_, (true), (by first | rfl | (simp; done) | (simp [*]; done)), H', ⟨by first | omega | exact Nat.le_refl _⟩, ⟨by (with_reducible repeat (first | apply Kd.R_alloc | apply Kd.R_drewN | apply Kd.R_drew)); exact Kd.R_mono HO130.out (fun _ hk => hk.2)⟩, ⟨by (with_reducible repeat (first | refine blk_drewN ?_ _ | refine blk_drew ?_ | refine blk_alloc ?_ _)); exact BK119.out⟩, ⟨by repeat (first | (with_reducible first | exact HB.out | apply below_alloc | apply pw_below_drewN | apply below_drew1 | refine below_set ?_ GE119.out) | exact HB.out)⟩⟩
 case rest =>
  clear HC6
  try clear c1
  try clear c2
  try clear p2
  try clear c6
  try clear c8
  try clear c10
  try clear c17
  try clear c19
  try clear c21
  try clear hcz27_0
  try clear hcz27_1
  try clear hcz27_2
  try clear hcz27_3
  try clear hcz27_4
  try clear hcz27_5
  try clear hcz45_0
  try clear hcz45_1
  try clear hcz45_2
  try clear hcz45_3
  try clear hcz45_4
  try clear hcz45_5
  try clear hcz62_0
  try clear hcz62_1
  try clear hcz62_2
  try clear hcz62_3
  try clear hcz62_4
  try clear hcz62_5
  try clear hcz9_0
  try clear hcz9_1
  try clear hcz9_2
  try clear hcz9_3
  try clear hcz9_4
  try clear hcz9_5
  try clear hfz27_0
  try clear hfz27_1
  try clear hfz27_2
  try clear hfz27_3
  try clear hfz27_4
  try clear hfz27_5
  try clear hfz45_0
  try clear hfz45_1
  try clear hfz45_2
  try clear hfz45_3
  try clear hfz45_4
  try clear hfz45_5
  try clear hfz62_0
  try clear hfz62_1
  try clear hfz62_2
  try clear hfz62_3
  try clear hfz62_4
  try clear hfz62_5
  try clear hfz9_0
  try clear hfz9_1
  try clear hfz9_2
  try clear hfz9_3
  try clear hfz9_4
  try clear hfz9_5
  obtain ⟨kq, x32_5, rfl, HA, HJ5, HO_2, BK119, HB⟩ := hcut
  cases kq with
  | zero => exact absurd HA.out (by simp [redpencillaw17_known.j0])
  | succ kj5 =>
   have H := HA.out
   clear HA
   simp only [redpencillaw17_known.j0] at H
   by_cases c74 : x32_5 = true
   ·
    subst c74
    have H1 : (some false) = some true := by rw [if_pos rfl] at H; exact H
    exact absurd H1 (by simp)
   ·
    replace c74 := Bool.eq_false_iff.mpr c74
    subst c74
    have H1 : ((redpencillaw17_appends.f (([9] : List Int)) ([] : List (S38)) (([9, 0, 0] : List Int)) 0).bind fun t153 => (if t153 = true then ((redpencillaw17_dot.f 1 2).bind fun bt154 => ((redpencillaw17_dot.f 3 300).bind fun bt159 => ((redpencillaw17_contexts.f (([(⟨bt154.1, bt154.2⟩ : S36)] : List (S36))) (([(⟨bt159.1, bt159.2⟩ : S36)] : List (S36))) (([1, 1, 2, 1, 3, 172, 2] : List Int)) 0).bind fun t167 => (if t167 = true then ((redpencillaw17_contexts.f ([] : List (S36)) ([] : List (S36)) (([0, 0] : List Int)) 0).bind fun t171 => (if t171 = true then (if 1 < (y128.length : Int) then (if 0 < (y128.length : Int) then ((redpencillaw17_encodes.f (([(⟨(⟨(rd_T38 y128 1).f0.f0, (rd_T38 y128 1).f0.f1⟩ : S36), (⟨(rd_T38 y128 1).f1.f0, (rd_T38 y128 1).f1.f1⟩ : S36), (rd_T38 y128 1).f2, (rd_T38 y128 1).f3⟩ : S38), (⟨(⟨(rd_T38 y128 0).f0.f0, (rd_T38 y128 0).f0.f1⟩ : S36), (⟨(rd_T38 y128 0).f1.f0, (rd_T38 y128 0).f1.f1⟩ : S36), (rd_T38 y128 0).f2, (rd_T38 y128 0).f3⟩ : S38)] : List (S38))) ([] : List Int) 2).bind fun t177 => (some t177)) else (none)) else (none)) else (some false))) else (some false))))) else (some false))) = some true := by rw [if_neg (show ¬ (false = true) by decide)] at H; exact H
    clear H
    have H := H1
    clear H1
    obtain ⟨y147, hy147⟩ : ∃ y_ : List Int, y_ = (([9] : List Int)) := ⟨_, rfl⟩
    replace H : ((redpencillaw17_appends.f y147 ([] : List (S38)) (([9, 0, 0] : List Int)) 0).bind fun t153 => (if t153 = true then ((redpencillaw17_dot.f 1 2).bind fun bt154 => ((redpencillaw17_dot.f 3 300).bind fun bt159 => ((redpencillaw17_contexts.f (([(⟨bt154.1, bt154.2⟩ : S36)] : List (S36))) (([(⟨bt159.1, bt159.2⟩ : S36)] : List (S36))) (([1, 1, 2, 1, 3, 172, 2] : List Int)) 0).bind fun t167 => (if t167 = true then ((redpencillaw17_contexts.f ([] : List (S36)) ([] : List (S36)) (([0, 0] : List Int)) 0).bind fun t171 => (if t171 = true then (if 1 < (y128.length : Int) then (if 0 < (y128.length : Int) then ((redpencillaw17_encodes.f (([(⟨(⟨(rd_T38 y128 1).f0.f0, (rd_T38 y128 1).f0.f1⟩ : S36), (⟨(rd_T38 y128 1).f1.f0, (rd_T38 y128 1).f1.f1⟩ : S36), (rd_T38 y128 1).f2, (rd_T38 y128 1).f3⟩ : S38), (⟨(⟨(rd_T38 y128 0).f0.f0, (rd_T38 y128 0).f0.f1⟩ : S36), (⟨(rd_T38 y128 0).f1.f0, (rd_T38 y128 0).f1.f1⟩ : S36), (rd_T38 y128 0).f2, (rd_T38 y128 0).f3⟩ : S38)] : List (S38))) ([] : List Int) 2).bind fun t177 => (some t177)) else (none)) else (none)) else (some false))) else (some false))))) else (some false))) = some true := by first | (rw [hy147]; with_reducible exact H) | (have H2_ := (Option.bind_some _ _).symm.trans H; rw [hy147]; with_reducible exact H2_) | (have H2_ := (Option.bind_some _ _).symm.trans H; with_reducible exact H2_) | with_reducible exact H | (rw [hy147]; exact H) | exact H
    have Ny147 := Aside0.mk hy147
    clear hy147
    obtain ⟨y150, hy150⟩ : ∃ y_ : List Int, y_ = (([9, 0, 0] : List Int)) := ⟨_, rfl⟩
    replace H : ((redpencillaw17_appends.f y147 ([] : List (S38)) y150 0).bind fun t153 => (if t153 = true then ((redpencillaw17_dot.f 1 2).bind fun bt154 => ((redpencillaw17_dot.f 3 300).bind fun bt159 => ((redpencillaw17_contexts.f (([(⟨bt154.1, bt154.2⟩ : S36)] : List (S36))) (([(⟨bt159.1, bt159.2⟩ : S36)] : List (S36))) (([1, 1, 2, 1, 3, 172, 2] : List Int)) 0).bind fun t167 => (if t167 = true then ((redpencillaw17_contexts.f ([] : List (S36)) ([] : List (S36)) (([0, 0] : List Int)) 0).bind fun t171 => (if t171 = true then (if 1 < (y128.length : Int) then (if 0 < (y128.length : Int) then ((redpencillaw17_encodes.f (([(⟨(⟨(rd_T38 y128 1).f0.f0, (rd_T38 y128 1).f0.f1⟩ : S36), (⟨(rd_T38 y128 1).f1.f0, (rd_T38 y128 1).f1.f1⟩ : S36), (rd_T38 y128 1).f2, (rd_T38 y128 1).f3⟩ : S38), (⟨(⟨(rd_T38 y128 0).f0.f0, (rd_T38 y128 0).f0.f1⟩ : S36), (⟨(rd_T38 y128 0).f1.f0, (rd_T38 y128 0).f1.f1⟩ : S36), (rd_T38 y128 0).f2, (rd_T38 y128 0).f3⟩ : S38)] : List (S38))) ([] : List Int) 2).bind fun t177 => (some t177)) else (none)) else (none)) else (some false))) else (some false))))) else (some false))) = some true := by first | (rw [hy150]; with_reducible exact H) | (have H2_ := (Option.bind_some _ _).symm.trans H; rw [hy150]; with_reducible exact H2_) | (have H2_ := (Option.bind_some _ _).symm.trans H; with_reducible exact H2_) | with_reducible exact H | (rw [hy150]; exact H) | exact H
    have Ny150 := Aside0.mk hy150
    clear hy150
    replace H := Option.bind_eq_some_iff.mp H
    obtain ⟨t153, A750, H⟩ := H
    replace H : (if t153 = true then ((redpencillaw17_dot.f 1 2).bind fun bt154 => ((redpencillaw17_dot.f 3 300).bind fun bt159 => ((redpencillaw17_contexts.f (([(⟨bt154.1, bt154.2⟩ : S36)] : List (S36))) (([(⟨bt159.1, bt159.2⟩ : S36)] : List (S36))) (([1, 1, 2, 1, 3, 172, 2] : List Int)) 0).bind fun t167 => (if t167 = true then ((redpencillaw17_contexts.f ([] : List (S36)) ([] : List (S36)) (([0, 0] : List Int)) 0).bind fun t171 => (if t171 = true then (if 1 < (y128.length : Int) then (if 0 < (y128.length : Int) then ((redpencillaw17_encodes.f (([(⟨(⟨(rd_T38 y128 1).f0.f0, (rd_T38 y128 1).f0.f1⟩ : S36), (⟨(rd_T38 y128 1).f1.f0, (rd_T38 y128 1).f1.f1⟩ : S36), (rd_T38 y128 1).f2, (rd_T38 y128 1).f3⟩ : S38), (⟨(⟨(rd_T38 y128 0).f0.f0, (rd_T38 y128 0).f0.f1⟩ : S36), (⟨(rd_T38 y128 0).f1.f0, (rd_T38 y128 0).f1.f1⟩ : S36), (rd_T38 y128 0).f2, (rd_T38 y128 0).f3⟩ : S38)] : List (S38))) ([] : List Int) 2).bind fun t177 => (some t177)) else (none)) else (none)) else (some false))) else (some false))))) else (some false)) = some true := H
    have A75 := Aside0.mk A750
    clear A750
    by_cases c76 : t153 = true
    ·
     subst c76
     have H1 : ((redpencillaw17_dot.f 1 2).bind fun bt154 => ((redpencillaw17_dot.f 3 300).bind fun bt159 => ((redpencillaw17_contexts.f (([(⟨bt154.1, bt154.2⟩ : S36)] : List (S36))) (([(⟨bt159.1, bt159.2⟩ : S36)] : List (S36))) (([1, 1, 2, 1, 3, 172, 2] : List Int)) 0).bind fun t167 => (if t167 = true then ((redpencillaw17_contexts.f ([] : List (S36)) ([] : List (S36)) (([0, 0] : List Int)) 0).bind fun t171 => (if t171 = true then (if 1 < (y128.length : Int) then (if 0 < (y128.length : Int) then ((redpencillaw17_encodes.f (([(⟨(⟨(rd_T38 y128 1).f0.f0, (rd_T38 y128 1).f0.f1⟩ : S36), (⟨(rd_T38 y128 1).f1.f0, (rd_T38 y128 1).f1.f1⟩ : S36), (rd_T38 y128 1).f2, (rd_T38 y128 1).f3⟩ : S38), (⟨(⟨(rd_T38 y128 0).f0.f0, (rd_T38 y128 0).f0.f1⟩ : S36), (⟨(rd_T38 y128 0).f1.f0, (rd_T38 y128 0).f1.f1⟩ : S36), (rd_T38 y128 0).f2, (rd_T38 y128 0).f3⟩ : S38)] : List (S38))) ([] : List Int) 2).bind fun t177 => (some t177)) else (none)) else (none)) else (some false))) else (some false))))) = some true := by rw [if_pos rfl] at H; exact H
     clear H
     have H := H1
     clear H1
     replace H := Option.bind_eq_some_iff.mp H
     obtain ⟨⟨t154, t155⟩, A770, H⟩ := H
     replace H : ((redpencillaw17_dot.f 3 300).bind fun bt159 => ((redpencillaw17_contexts.f (([(⟨t154, t155⟩ : S36)] : List (S36))) (([(⟨bt159.1, bt159.2⟩ : S36)] : List (S36))) (([1, 1, 2, 1, 3, 172, 2] : List Int)) 0).bind fun t167 => (if t167 = true then ((redpencillaw17_contexts.f ([] : List (S36)) ([] : List (S36)) (([0, 0] : List Int)) 0).bind fun t171 => (if t171 = true then (if 1 < (y128.length : Int) then (if 0 < (y128.length : Int) then ((redpencillaw17_encodes.f (([(⟨(⟨(rd_T38 y128 1).f0.f0, (rd_T38 y128 1).f0.f1⟩ : S36), (⟨(rd_T38 y128 1).f1.f0, (rd_T38 y128 1).f1.f1⟩ : S36), (rd_T38 y128 1).f2, (rd_T38 y128 1).f3⟩ : S38), (⟨(⟨(rd_T38 y128 0).f0.f0, (rd_T38 y128 0).f0.f1⟩ : S36), (⟨(rd_T38 y128 0).f1.f0, (rd_T38 y128 0).f1.f1⟩ : S36), (rd_T38 y128 0).f2, (rd_T38 y128 0).f3⟩ : S38)] : List (S38))) ([] : List Int) 2).bind fun t177 => (some t177)) else (none)) else (none)) else (some false))) else (some false)))) = some true := H
     have A77 := Aside0.mk A770
     clear A770
     obtain ⟨y156, hy156⟩ : ∃ y_ : List (S36), y_ = (([(⟨t154, t155⟩ : S36)] : List (S36))) := ⟨_, rfl⟩
     replace H : ((redpencillaw17_dot.f 3 300).bind fun bt159 => ((redpencillaw17_contexts.f y156 (([(⟨bt159.1, bt159.2⟩ : S36)] : List (S36))) (([1, 1, 2, 1, 3, 172, 2] : List Int)) 0).bind fun t167 => (if t167 = true then ((redpencillaw17_contexts.f ([] : List (S36)) ([] : List (S36)) (([0, 0] : List Int)) 0).bind fun t171 => (if t171 = true then (if 1 < (y128.length : Int) then (if 0 < (y128.length : Int) then ((redpencillaw17_encodes.f (([(⟨(⟨(rd_T38 y128 1).f0.f0, (rd_T38 y128 1).f0.f1⟩ : S36), (⟨(rd_T38 y128 1).f1.f0, (rd_T38 y128 1).f1.f1⟩ : S36), (rd_T38 y128 1).f2, (rd_T38 y128 1).f3⟩ : S38), (⟨(⟨(rd_T38 y128 0).f0.f0, (rd_T38 y128 0).f0.f1⟩ : S36), (⟨(rd_T38 y128 0).f1.f0, (rd_T38 y128 0).f1.f1⟩ : S36), (rd_T38 y128 0).f2, (rd_T38 y128 0).f3⟩ : S38)] : List (S38))) ([] : List Int) 2).bind fun t177 => (some t177)) else (none)) else (none)) else (some false))) else (some false)))) = some true := by first | (rw [hy156]; with_reducible exact H) | (have H2_ := (Option.bind_some _ _).symm.trans H; rw [hy156]; with_reducible exact H2_) | (have H2_ := (Option.bind_some _ _).symm.trans H; with_reducible exact H2_) | with_reducible exact H | (rw [hy156]; exact H) | exact H
     have Ny156 := Aside0.mk hy156
     clear hy156
     replace H := Option.bind_eq_some_iff.mp H
     obtain ⟨⟨t159, t160⟩, A780, H⟩ := H
     replace H : ((redpencillaw17_contexts.f y156 (([(⟨t159, t160⟩ : S36)] : List (S36))) (([1, 1, 2, 1, 3, 172, 2] : List Int)) 0).bind fun t167 => (if t167 = true then ((redpencillaw17_contexts.f ([] : List (S36)) ([] : List (S36)) (([0, 0] : List Int)) 0).bind fun t171 => (if t171 = true then (if 1 < (y128.length : Int) then (if 0 < (y128.length : Int) then ((redpencillaw17_encodes.f (([(⟨(⟨(rd_T38 y128 1).f0.f0, (rd_T38 y128 1).f0.f1⟩ : S36), (⟨(rd_T38 y128 1).f1.f0, (rd_T38 y128 1).f1.f1⟩ : S36), (rd_T38 y128 1).f2, (rd_T38 y128 1).f3⟩ : S38), (⟨(⟨(rd_T38 y128 0).f0.f0, (rd_T38 y128 0).f0.f1⟩ : S36), (⟨(rd_T38 y128 0).f1.f0, (rd_T38 y128 0).f1.f1⟩ : S36), (rd_T38 y128 0).f2, (rd_T38 y128 0).f3⟩ : S38)] : List (S38))) ([] : List Int) 2).bind fun t177 => (some t177)) else (none)) else (none)) else (some false))) else (some false))) = some true := H
     have A78 := Aside0.mk A780
     clear A780
     obtain ⟨y161, hy161⟩ : ∃ y_ : List (S36), y_ = (([(⟨t159, t160⟩ : S36)] : List (S36))) := ⟨_, rfl⟩
     replace H : ((redpencillaw17_contexts.f y156 y161 (([1, 1, 2, 1, 3, 172, 2] : List Int)) 0).bind fun t167 => (if t167 = true then ((redpencillaw17_contexts.f ([] : List (S36)) ([] : List (S36)) (([0, 0] : List Int)) 0).bind fun t171 => (if t171 = true then (if 1 < (y128.length : Int) then (if 0 < (y128.length : Int) then ((redpencillaw17_encodes.f (([(⟨(⟨(rd_T38 y128 1).f0.f0, (rd_T38 y128 1).f0.f1⟩ : S36), (⟨(rd_T38 y128 1).f1.f0, (rd_T38 y128 1).f1.f1⟩ : S36), (rd_T38 y128 1).f2, (rd_T38 y128 1).f3⟩ : S38), (⟨(⟨(rd_T38 y128 0).f0.f0, (rd_T38 y128 0).f0.f1⟩ : S36), (⟨(rd_T38 y128 0).f1.f0, (rd_T38 y128 0).f1.f1⟩ : S36), (rd_T38 y128 0).f2, (rd_T38 y128 0).f3⟩ : S38)] : List (S38))) ([] : List Int) 2).bind fun t177 => (some t177)) else (none)) else (none)) else (some false))) else (some false))) = some true := by first | (rw [hy161]; with_reducible exact H) | (have H2_ := (Option.bind_some _ _).symm.trans H; rw [hy161]; with_reducible exact H2_) | (have H2_ := (Option.bind_some _ _).symm.trans H; with_reducible exact H2_) | with_reducible exact H | (rw [hy161]; exact H) | exact H
     have Ny161 := Aside0.mk hy161
     clear hy161
     obtain ⟨y164, hy164⟩ : ∃ y_ : List Int, y_ = (([1, 1, 2, 1, 3, 172, 2] : List Int)) := ⟨_, rfl⟩
     replace H : ((redpencillaw17_contexts.f y156 y161 y164 0).bind fun t167 => (if t167 = true then ((redpencillaw17_contexts.f ([] : List (S36)) ([] : List (S36)) (([0, 0] : List Int)) 0).bind fun t171 => (if t171 = true then (if 1 < (y128.length : Int) then (if 0 < (y128.length : Int) then ((redpencillaw17_encodes.f (([(⟨(⟨(rd_T38 y128 1).f0.f0, (rd_T38 y128 1).f0.f1⟩ : S36), (⟨(rd_T38 y128 1).f1.f0, (rd_T38 y128 1).f1.f1⟩ : S36), (rd_T38 y128 1).f2, (rd_T38 y128 1).f3⟩ : S38), (⟨(⟨(rd_T38 y128 0).f0.f0, (rd_T38 y128 0).f0.f1⟩ : S36), (⟨(rd_T38 y128 0).f1.f0, (rd_T38 y128 0).f1.f1⟩ : S36), (rd_T38 y128 0).f2, (rd_T38 y128 0).f3⟩ : S38)] : List (S38))) ([] : List Int) 2).bind fun t177 => (some t177)) else (none)) else (none)) else (some false))) else (some false))) = some true := by first | (rw [hy164]; with_reducible exact H) | (have H2_ := (Option.bind_some _ _).symm.trans H; rw [hy164]; with_reducible exact H2_) | (have H2_ := (Option.bind_some _ _).symm.trans H; with_reducible exact H2_) | with_reducible exact H | (rw [hy164]; exact H) | exact H
     have Ny164 := Aside0.mk hy164
     clear hy164
     replace H := Option.bind_eq_some_iff.mp H
     obtain ⟨t167, A790, H⟩ := H
     replace H : (if t167 = true then ((redpencillaw17_contexts.f ([] : List (S36)) ([] : List (S36)) (([0, 0] : List Int)) 0).bind fun t171 => (if t171 = true then (if 1 < (y128.length : Int) then (if 0 < (y128.length : Int) then ((redpencillaw17_encodes.f (([(⟨(⟨(rd_T38 y128 1).f0.f0, (rd_T38 y128 1).f0.f1⟩ : S36), (⟨(rd_T38 y128 1).f1.f0, (rd_T38 y128 1).f1.f1⟩ : S36), (rd_T38 y128 1).f2, (rd_T38 y128 1).f3⟩ : S38), (⟨(⟨(rd_T38 y128 0).f0.f0, (rd_T38 y128 0).f0.f1⟩ : S36), (⟨(rd_T38 y128 0).f1.f0, (rd_T38 y128 0).f1.f1⟩ : S36), (rd_T38 y128 0).f2, (rd_T38 y128 0).f3⟩ : S38)] : List (S38))) ([] : List Int) 2).bind fun t177 => (some t177)) else (none)) else (none)) else (some false))) else (some false)) = some true := H
     have A79 := Aside0.mk A790
     clear A790
     by_cases c80 : t167 = true
     ·
      subst c80
      have H1 : ((redpencillaw17_contexts.f ([] : List (S36)) ([] : List (S36)) (([0, 0] : List Int)) 0).bind fun t171 => (if t171 = true then (if 1 < (y128.length : Int) then (if 0 < (y128.length : Int) then ((redpencillaw17_encodes.f (([(⟨(⟨(rd_T38 y128 1).f0.f0, (rd_T38 y128 1).f0.f1⟩ : S36), (⟨(rd_T38 y128 1).f1.f0, (rd_T38 y128 1).f1.f1⟩ : S36), (rd_T38 y128 1).f2, (rd_T38 y128 1).f3⟩ : S38), (⟨(⟨(rd_T38 y128 0).f0.f0, (rd_T38 y128 0).f0.f1⟩ : S36), (⟨(rd_T38 y128 0).f1.f0, (rd_T38 y128 0).f1.f1⟩ : S36), (rd_T38 y128 0).f2, (rd_T38 y128 0).f3⟩ : S38)] : List (S38))) ([] : List Int) 2).bind fun t177 => (some t177)) else (none)) else (none)) else (some false))) = some true := by rw [if_pos rfl] at H; exact H
      clear H
      have H := H1
      clear H1
      obtain ⟨y168, hy168⟩ : ∃ y_ : List Int, y_ = (([0, 0] : List Int)) := ⟨_, rfl⟩
      replace H : ((redpencillaw17_contexts.f ([] : List (S36)) ([] : List (S36)) y168 0).bind fun t171 => (if t171 = true then (if 1 < (y128.length : Int) then (if 0 < (y128.length : Int) then ((redpencillaw17_encodes.f (([(⟨(⟨(rd_T38 y128 1).f0.f0, (rd_T38 y128 1).f0.f1⟩ : S36), (⟨(rd_T38 y128 1).f1.f0, (rd_T38 y128 1).f1.f1⟩ : S36), (rd_T38 y128 1).f2, (rd_T38 y128 1).f3⟩ : S38), (⟨(⟨(rd_T38 y128 0).f0.f0, (rd_T38 y128 0).f0.f1⟩ : S36), (⟨(rd_T38 y128 0).f1.f0, (rd_T38 y128 0).f1.f1⟩ : S36), (rd_T38 y128 0).f2, (rd_T38 y128 0).f3⟩ : S38)] : List (S38))) ([] : List Int) 2).bind fun t177 => (some t177)) else (none)) else (none)) else (some false))) = some true := by first | (rw [hy168]; with_reducible exact H) | (have H2_ := (Option.bind_some _ _).symm.trans H; rw [hy168]; with_reducible exact H2_) | (have H2_ := (Option.bind_some _ _).symm.trans H; with_reducible exact H2_) | with_reducible exact H | (rw [hy168]; exact H) | exact H
      have Ny168 := Aside0.mk hy168
      clear hy168
      replace H := Option.bind_eq_some_iff.mp H
      obtain ⟨t171, A810, H⟩ := H
      replace H : (if t171 = true then (if 1 < (y128.length : Int) then (if 0 < (y128.length : Int) then ((redpencillaw17_encodes.f (([(⟨(⟨(rd_T38 y128 1).f0.f0, (rd_T38 y128 1).f0.f1⟩ : S36), (⟨(rd_T38 y128 1).f1.f0, (rd_T38 y128 1).f1.f1⟩ : S36), (rd_T38 y128 1).f2, (rd_T38 y128 1).f3⟩ : S38), (⟨(⟨(rd_T38 y128 0).f0.f0, (rd_T38 y128 0).f0.f1⟩ : S36), (⟨(rd_T38 y128 0).f1.f0, (rd_T38 y128 0).f1.f1⟩ : S36), (rd_T38 y128 0).f2, (rd_T38 y128 0).f3⟩ : S38)] : List (S38))) ([] : List Int) 2).bind fun t177 => (some t177)) else (none)) else (none)) else (some false)) = some true := H
      have A81 := Aside0.mk A810
      clear A810
      by_cases c82 : t171 = true
      ·
       subst c82
       have H1 : (if 1 < (y128.length : Int) then (if 0 < (y128.length : Int) then ((redpencillaw17_encodes.f (([(⟨(⟨(rd_T38 y128 1).f0.f0, (rd_T38 y128 1).f0.f1⟩ : S36), (⟨(rd_T38 y128 1).f1.f0, (rd_T38 y128 1).f1.f1⟩ : S36), (rd_T38 y128 1).f2, (rd_T38 y128 1).f3⟩ : S38), (⟨(⟨(rd_T38 y128 0).f0.f0, (rd_T38 y128 0).f0.f1⟩ : S36), (⟨(rd_T38 y128 0).f1.f0, (rd_T38 y128 0).f1.f1⟩ : S36), (rd_T38 y128 0).f2, (rd_T38 y128 0).f3⟩ : S38)] : List (S38))) ([] : List Int) 2).bind fun t177 => (some t177)) else (none)) else (none)) = some true := by rw [if_pos rfl] at H; exact H
       clear H
       have H := H1
       clear H1
       by_cases c83 : 1 < (y128.length : Int)
       ·
        rw [if_pos c83] at H
        have c83b0 : decide (1 < (y128.length : Int)) = true := decide_eq_true c83
        have c83b1 : decide (1 < y128.length) = true := decide_eq_true (by omega)
        clear c83
        by_cases c84 : 0 < (y128.length : Int)
        ·
         rw [if_pos c84] at H
         have c84b0 : decide (0 < (y128.length : Int)) = true := decide_eq_true c84
         have c84b1 : decide (0 < y128.length) = true := decide_eq_true (by omega)
         clear c84
         obtain ⟨y174, hy174⟩ : ∃ y_ : List (S38), y_ = (([(⟨(⟨(rd_T38 y128 1).f0.f0, (rd_T38 y128 1).f0.f1⟩ : S36), (⟨(rd_T38 y128 1).f1.f0, (rd_T38 y128 1).f1.f1⟩ : S36), (rd_T38 y128 1).f2, (rd_T38 y128 1).f3⟩ : S38), (⟨(⟨(rd_T38 y128 0).f0.f0, (rd_T38 y128 0).f0.f1⟩ : S36), (⟨(rd_T38 y128 0).f1.f0, (rd_T38 y128 0).f1.f1⟩ : S36), (rd_T38 y128 0).f2, (rd_T38 y128 0).f3⟩ : S38)] : List (S38))) := ⟨_, rfl⟩
         replace H : ((redpencillaw17_encodes.f y174 ([] : List Int) 2).bind fun t177 => (some t177)) = some true := by first | (rw [hy174]; with_reducible exact H) | (have H2_ := (Option.bind_some _ _).symm.trans H; rw [hy174]; with_reducible exact H2_) | (have H2_ := (Option.bind_some _ _).symm.trans H; with_reducible exact H2_) | with_reducible exact H | (rw [hy174]; exact H) | exact H
         have Ny174 := Aside0.mk hy174
         clear hy174
         replace H := Option.bind_eq_some_iff.mp H
         obtain ⟨t177, A850, H⟩ := H
         replace H : (some t177) = some true := H
         have A85 := Aside0.mk A850
         clear A850
         obtain rfl := Option.some.inj H
         try go_wp2
         have n0_ := Aside0.mk (Kd.R_drew HO_2.out)
         have n1_ := Aside0.mk (blk_drew BK119.out)
         have n2_ := Aside0.mk (below_drew1 HB.out)
         clear HO_2
         clear BK119
         clear HB
         have HO_2 := n0_
         have BK119 := n1_
         have HB := n2_
         clear n0_ n1_ n2_
         have p172 : 0 ≤ (1 : Int) := (by omega)
         have q172 : 1 < (y128.length : Int) := of_decide_eq_true (by first | (with_reducible assumption) | assumption)
         obtain ⟨Ao_ad172, co117, eo117⟩ := Kd.R_slice HO_2.out
         subst eo117
         obtain ⟨ad172, e172, hx172_0, hx172_1, hx172_2, hx172_3, hx172_4, hx172_5⟩ := at_T38 (Kd.R_reads' HO_2.out).2.2 1 p172 q172
         cases e172
         (try simp only [show (1 : Int).toNat = 1 from rfl, Nat.reduceMul, Nat.reduceEqDiff, Go.Addr.add, ↓reduceIte] at hx172_0)
         (try simp only [show (1 : Int).toNat = 1 from rfl, Nat.reduceMul, Nat.reduceEqDiff, Go.Addr.add, ↓reduceIte] at hx172_1)
         (try simp only [show (1 : Int).toNat = 1 from rfl, Nat.reduceMul, Nat.reduceEqDiff, Go.Addr.add, ↓reduceIte] at hx172_2)
         (try simp only [show (1 : Int).toNat = 1 from rfl, Nat.reduceMul, Nat.reduceEqDiff, Go.Addr.add, ↓reduceIte] at hx172_3)
         (try simp only [show (1 : Int).toNat = 1 from rfl, Nat.reduceMul, Nat.reduceEqDiff, Go.Addr.add, ↓reduceIte] at hx172_4)
         (try simp only [show (1 : Int).toNat = 1 from rfl, Nat.reduceMul, Nat.reduceEqDiff, Go.Addr.add, ↓reduceIte] at hx172_5)
         have qi172 : (1 < y128.length) = True := eq_true (by omega)
         (try rw [show ((1 : Int)).toNat = 1 from rfl] at hx172_0)
         (try rw [show 1 * 6 = 6 from rfl] at hx172_0)
         (try rw [show ((1 : Int)).toNat = 1 from rfl] at hx172_1)
         (try rw [show 1 * 6 = 6 from rfl] at hx172_1)
         (try rw [show ((1 : Int)).toNat = 1 from rfl] at hx172_2)
         (try rw [show 1 * 6 = 6 from rfl] at hx172_2)
         (try rw [show ((1 : Int)).toNat = 1 from rfl] at hx172_3)
         (try rw [show 1 * 6 = 6 from rfl] at hx172_3)
         (try rw [show ((1 : Int)).toNat = 1 from rfl] at hx172_4)
         (try rw [show 1 * 6 = 6 from rfl] at hx172_4)
         (try rw [show ((1 : Int)).toNat = 1 from rfl] at hx172_5)
         (try rw [show 1 * 6 = 6 from rfl] at hx172_5)
         replace p172 := eq_true p172
         replace q172 := eq_true q172
         have p173 : 0 ≤ (0 : Int) := (by omega)
         have q173 : 0 < (y128.length : Int) := of_decide_eq_true (by first | (with_reducible assumption) | assumption)
         obtain ⟨ad173, e173, hx173_0, hx173_1, hx173_2, hx173_3, hx173_4, hx173_5⟩ := at_T38 (Kd.R_reads' HO_2.out).2.2 0 p173 q173
         obtain rfl : ad172 = ad173 := (by injection e173)
         have qi173 : (0 < y128.length) = True := eq_true (by omega)
         (try rw [show ((0 : Int)).toNat = 0 from rfl] at hx173_0)
         (try rw [show 0 * 6 = 0 from rfl] at hx173_0)
         (try rw [Addr.add_zero'] at hx173_0)
         (try rw [show ((0 : Int)).toNat = 0 from rfl] at hx173_1)
         (try rw [show 0 * 6 = 0 from rfl] at hx173_1)
         (try rw [Addr.add_zero'] at hx173_1)
         (try rw [show ((0 : Int)).toNat = 0 from rfl] at hx173_2)
         (try rw [show 0 * 6 = 0 from rfl] at hx173_2)
         (try rw [Addr.add_zero'] at hx173_2)
         (try rw [show ((0 : Int)).toNat = 0 from rfl] at hx173_3)
         (try rw [show 0 * 6 = 0 from rfl] at hx173_3)
         (try rw [Addr.add_zero'] at hx173_3)
         (try rw [show ((0 : Int)).toNat = 0 from rfl] at hx173_4)
         (try rw [show 0 * 6 = 0 from rfl] at hx173_4)
         (try rw [Addr.add_zero'] at hx173_4)
         (try rw [show ((0 : Int)).toNat = 0 from rfl] at hx173_5)
         (try rw [show 0 * 6 = 0 from rfl] at hx173_5)
         (try rw [Addr.add_zero'] at hx173_5)
         replace p173 := eq_true p173
         replace q173 := eq_true q173
         refine start_ (n := 28) (S := fun w' => True) (ds := []) #[false, false, false, false, false, false, false, false, false, false, false, false, false, false, false, false, false, false, false, false, false, false, false, false, false, false, false, false] (by kernel_rfl) rfl rfl trivial (fun hHeld => ?_); refine with_tabW redpencillaw17_known.tab5 redpencillaw17_known.bits5 (fun HT_ HW_ => ?_)
         generalize wc.drew = w86 at HO_2 BK119 HB hx172_0 hx172_1 hx172_2 hx172_3 hx172_4 hx172_5 hx173_0 hx173_1 hx173_2 hx173_3 hx173_4 hx173_5 hHeld ⊢
         refine inv_at [0, 1, 2, 3, 4, 5, 6, 7, 8, 9, 10, 11, 12, 13, 14, 15, 16, 17, 18, 19, 20, 21, 22, 23, 24, 25, 26, 27] (fun a0_ b a w' => ∃ (v148 : Value) (v151 : Value) (v157 : Value) (v162 : Value) (v165 : Value) (v169 : Value) (v175 : Value) (m8_ : Value), a = putSel a0_ b [(0, 33, v148), (1, 34, v151), (2, 35, .bool true), (3, 36, .bool true), (4, 37, .agg #[.int .i64 t154, .int .i64 t155]), (5, 38, v157), (6, 39, .agg #[.int .i64 t159, .int .i64 t160]), (7, 40, v162), (8, 41, m8_), (9, 42, v165), (10, 43, .bool true), (11, 44, .bool true), (12, 45, .bool true), (13, 46, .agg #[.slice none 0 0, .slice none 0 0]), (14, 47, v169), (15, 48, .bool true), (16, 49, .bool true), (17, 50, .bool true), (18, 51, .slice (some ad172) y128.length co117), (19, 52, .pointer (some (ad172.add 6))), (20, 53, .agg #[.int .i64 ((rd_T38 y128 1).f0.f0), .int .i64 ((rd_T38 y128 1).f0.f1), .int .i64 ((rd_T38 y128 1).f1.f0), .int .i64 ((rd_T38 y128 1).f1.f1), .int .i64 ((rd_T38 y128 1).f2), .int .i32 ((rd_T38 y128 1).f3)]), (21, 54, .slice (some ad172) y128.length co117), (22, 55, .pointer (some ad172)), (23, 56, .agg #[.int .i64 ((rd_T38 y128 0).f0.f0), .int .i64 ((rd_T38 y128 0).f0.f1), .int .i64 ((rd_T38 y128 0).f1.f0), .int .i64 ((rd_T38 y128 0).f1.f1), .int .i64 ((rd_T38 y128 0).f2), .int .i32 ((rd_T38 y128 0).f3)]), (24, 57, v175), (25, 58, .bool true), (26, 59, .bool true), (27, 0, .bool true)] ∧ (Kd.R k38 38 w' w.heap.size (fun k_ => k_ ≠ gb119) (.slice (some ad172) y128.length co117) y128) ∧ (w'.heap[gb119]? = some (.cells #[.int .i64 t117, .int .i64 t118, .int .i64 0, .int .i64 0, .int .i64 1, .int .i32 97] 38 (0, 0))) ∧ (Below w.heap.size w w') ∧ (b 0 = true → Kd.R (Kd.int .u8) 5 w' w.heap.size (fun _ => True) v148 y147) ∧ (b 1 = true → Kd.R (Kd.int .u8) 5 w' w.heap.size (fun _ => True) v151 y150) ∧ (b 5 = true → Kd.R k36 36 w' w.heap.size (fun _ => True) v157 y156) ∧ (b 7 = true → Kd.R k36 36 w' w.heap.size (fun _ => True) v162 y161) ∧ (b 9 = true → Kd.R (Kd.int .u8) 5 w' w.heap.size (fun _ => True) v165 y164) ∧ (b 14 = true → Kd.R (Kd.int .u8) 5 w' w.heap.size (fun _ => True) v169 y168) ∧ (b 24 = true → Kd.R k38 38 w' w.heap.size (fun k_ => some k_ ≠ ((.slice (some ad172) y128.length co117) : Value).ownBlock ∧ k_ ≠ gb119) v175 y174) ∧ (b 8 = true → (m8_ : Value) = .agg #[v157, v162])) HT_.out HW_.out (by kernel_rfl) (by kernel_rfl) ?_ ?_ ?_
         ·
          exact ⟨.bool false, .bool false, .bool false, .bool false, .bool false, .bool false, .bool false, .bool false, by simp only [putSel, Bool.false_eq_true, if_false], HO_2.out, BK119.out, HB.out, fun h_ => absurd h_ (by decide), fun h_ => absurd h_ (by decide), fun h_ => absurd h_ (by decide), fun h_ => absurd h_ (by decide), fun h_ => absurd h_ (by decide), fun h_ => absurd h_ (by decide), fun h_ => absurd h_ (by decide), fun h_ => absurd h_ (by decide)⟩
         ·
          skip
          clear BK119 HB HO_2
          refine steps_cons ?_ ?_
          ·
           rintro b a w' ⟨v148, v151, v157, v162, v165, v169, v175, m8_, ha, Q_HO_2, Q_BK119, Q_HB, Q_HO149, Q_HO152, Q_HO158, Q_HO163, Q_HO166, Q_HO170, Q_HO176, Q_X8_⟩ hb_ hon hoff
           refine ⟨_, rfl, fun K hK => ?_⟩
           replace ha := Aside0.mk ha
           have HO_2 := Aside0.mk Q_HO_2
           have BK119 := Aside0.mk Q_BK119
           have HB := Aside0.mk Q_HB
           refine Kd.R_lit_step (Kd.int .u8) _ 5 ?hg (N := 33) ?hd (xs := ([9] : List Int)) (inner := [.int .u8 9]) (ok := fun _ => True) (okp := fun _ => True) ?hr ?hp (fun _ hk => hk) trivial (Below.refl _ _) (Nat.le_refl _) (by simp) ?_; (case hd => rfl); (case hg => rfl); (case hr => first | (go_simp; done) | (go_simp; rfl)); (case hp => exact (Reps.one (show Kd.M (Kd.int .u8) _ _ _ 9 [.int .u8 9] from rfl) (Reps.none _ _)))
           intro v148 w87 ho88 hb hg_ hnew_
           clear hg_ hnew_
           (first | rw [← Ny147.out] at ho88 | (simp only [Int.reduceToNat] at ho88; rw [← Ny147.out] at ho88))
           have n0_ := Aside0.mk (Kd.R_below (by (with_reducible repeat (first | apply Kd.R_alloc | apply Kd.R_drewN | apply Kd.R_drew)); exact HO_2.out) hb)
           have n1_ := Aside0.mk (Kd.R_lower ho88 (below_size (by repeat (first | (with_reducible first | exact HB.out | apply below_alloc | apply pw_below_drewN | apply below_drew1 | refine below_set ?_ GE119.out) | exact HB.out))))
           have n2_ := Aside0.mk (blk_below (g := gb119) (o := .cells #[.int .i64 t117, .int .i64 t118, .int .i64 0, .int .i64 0, .int .i64 1, .int .i32 97] 38 (0, 0)) (by (with_reducible repeat (first | refine blk_drewN ?_ _ | refine blk_drew ?_ | refine blk_alloc ?_ _)); exact BK119.out) hb)
           have n3_ := Aside0.mk (below_step (by repeat (first | (with_reducible first | exact HB.out | apply below_alloc | apply pw_below_drewN | apply below_drew1 | refine below_set ?_ GE119.out) | exact HB.out)) hb)
           have z_HO152 := fun (h0_ : b 1 = true) => (show Kd.R (Kd.int .u8) 5 w87 w.heap.size (fun _ => True) v151 y150 from by first | exact (Kd.R_elder' (by (with_reducible repeat (first | apply Kd.R_alloc | apply Kd.R_drewN | apply Kd.R_drew)); exact (Q_HO152 h0_)) (Kd.R_base ho88) hb) | exact Kd.R_mono (Kd.R_elder' (by (with_reducible repeat (first | apply Kd.R_alloc | apply Kd.R_drewN | apply Kd.R_drew)); exact (Q_HO152 h0_)) (Kd.R_base ho88) hb) (fun _ h_ => by first | trivial | exact h_ | exact h_.1))
           clear HO_2
           clear BK119
           clear HB
           have HO_2 := n0_
           have HO149 := n1_
           have BK119 := n2_
           have HB := n3_
           clear n0_ n1_ n2_ n3_
           clear hb ho88
           refine hK.out _ _ ⟨v148, v151, v157, v162, v165, v169, v175, m8_, (by rw [ha.out]; exact putSel_upk 0 hb_ rfl rfl rfl), (by (with_reducible repeat (first | apply Kd.R_alloc | apply Kd.R_drewN | apply Kd.R_drew)); first | exact HO_2.out | exact Kd.R_mono HO_2.out (fun _ _ => trivial) | exact Kd.R_mono HO_2.out (fun _ hk => hk.1)), (by (with_reducible repeat (first | refine blk_drewN ?_ _ | refine blk_drew ?_ | refine blk_alloc ?_ _)); exact BK119.out), (by repeat (first | (with_reducible first | exact HB.out | apply below_alloc | apply pw_below_drewN | apply below_drew1 | refine below_set ?_ GE119.out) | exact HB.out)), fun _ => (by (with_reducible repeat (first | apply Kd.R_alloc | apply Kd.R_drewN | apply Kd.R_drew)); first | exact HO149.out | exact Kd.R_mono HO149.out (fun _ _ => trivial) | exact Kd.R_mono HO149.out (fun _ hk => hk.1)), z_HO152, fun h0_ => absurd ((hoff 5 (by kernel_rfl)).symm.trans h0_) (by decide), fun h0_ => absurd ((hoff 7 (by kernel_rfl)).symm.trans h0_) (by decide), fun h0_ => absurd ((hoff 9 (by kernel_rfl)).symm.trans h0_) (by decide), fun h0_ => absurd ((hoff 14 (by kernel_rfl)).symm.trans h0_) (by decide), fun h0_ => absurd ((hoff 24 (by kernel_rfl)).symm.trans h0_) (by decide), fun h0_ => absurd ((hoff 8 (by kernel_rfl)).symm.trans h0_) (by decide)⟩
          refine steps_cons ?_ ?_
          ·
           rintro b a w' ⟨v148, v151, v157, v162, v165, v169, v175, m8_, ha, Q_HO_2, Q_BK119, Q_HB, Q_HO149, Q_HO152, Q_HO158, Q_HO163, Q_HO166, Q_HO170, Q_HO176, Q_X8_⟩ hb_ hon hoff
           refine ⟨_, rfl, fun K hK => ?_⟩
           replace ha := Aside0.mk ha
           have HO_2 := Aside0.mk Q_HO_2
           have BK119 := Aside0.mk Q_BK119
           have HB := Aside0.mk Q_HB
           refine Kd.R_lit_step (Kd.int .u8) _ 5 ?hg (N := 34) ?hd (xs := ([9, 0, 0] : List Int)) (inner := [.int .u8 9, .int .u8 0, .int .u8 0]) (ok := fun _ => True) (okp := fun _ => True) ?hr ?hp (fun _ hk => hk) trivial (Below.refl _ _) (Nat.le_refl _) (by simp) ?_; (case hd => rfl); (case hg => rfl); (case hr => first | (go_simp; done) | (go_simp; rfl)); (case hp => exact (Reps.one (show Kd.M (Kd.int .u8) _ _ _ 9 [.int .u8 9] from rfl) (Reps.one (show Kd.M (Kd.int .u8) _ _ _ 0 [.int .u8 0] from rfl) (Reps.one (show Kd.M (Kd.int .u8) _ _ _ 0 [.int .u8 0] from rfl) (Reps.none _ _)))))
           intro v151 w87 ho88 hb hg_ hnew_
           clear hg_ hnew_
           (first | rw [← Ny150.out] at ho88 | (simp only [Int.reduceToNat] at ho88; rw [← Ny150.out] at ho88))
           have n0_ := Aside0.mk (Kd.R_below (by (with_reducible repeat (first | apply Kd.R_alloc | apply Kd.R_drewN | apply Kd.R_drew)); exact HO_2.out) hb)
           have n1_ := Aside0.mk (Kd.R_lower ho88 (below_size (by repeat (first | (with_reducible first | exact HB.out | apply below_alloc | apply pw_below_drewN | apply below_drew1 | refine below_set ?_ GE119.out) | exact HB.out))))
           have n2_ := Aside0.mk (blk_below (g := gb119) (o := .cells #[.int .i64 t117, .int .i64 t118, .int .i64 0, .int .i64 0, .int .i64 1, .int .i32 97] 38 (0, 0)) (by (with_reducible repeat (first | refine blk_drewN ?_ _ | refine blk_drew ?_ | refine blk_alloc ?_ _)); exact BK119.out) hb)
           have n3_ := Aside0.mk (below_step (by repeat (first | (with_reducible first | exact HB.out | apply below_alloc | apply pw_below_drewN | apply below_drew1 | refine below_set ?_ GE119.out) | exact HB.out)) hb)
           have z_HO149 := fun (h0_ : b 0 = true) => (show Kd.R (Kd.int .u8) 5 w87 w.heap.size (fun _ => True) v148 y147 from by first | exact (Kd.R_elder' (by (with_reducible repeat (first | apply Kd.R_alloc | apply Kd.R_drewN | apply Kd.R_drew)); exact (Q_HO149 h0_)) (Kd.R_base ho88) hb) | exact Kd.R_mono (Kd.R_elder' (by (with_reducible repeat (first | apply Kd.R_alloc | apply Kd.R_drewN | apply Kd.R_drew)); exact (Q_HO149 h0_)) (Kd.R_base ho88) hb) (fun _ h_ => by first | trivial | exact h_ | exact h_.1))
           clear HO_2
           clear BK119
           clear HB
           have HO_2 := n0_
           have HO152 := n1_
           have BK119 := n2_
           have HB := n3_
           clear n0_ n1_ n2_ n3_
           clear hb ho88
           refine hK.out _ _ ⟨v148, v151, v157, v162, v165, v169, v175, m8_, (by rw [ha.out]; exact putSel_upk 1 hb_ rfl rfl rfl), (by (with_reducible repeat (first | apply Kd.R_alloc | apply Kd.R_drewN | apply Kd.R_drew)); first | exact HO_2.out | exact Kd.R_mono HO_2.out (fun _ _ => trivial) | exact Kd.R_mono HO_2.out (fun _ hk => hk.1)), (by (with_reducible repeat (first | refine blk_drewN ?_ _ | refine blk_drew ?_ | refine blk_alloc ?_ _)); exact BK119.out), (by repeat (first | (with_reducible first | exact HB.out | apply below_alloc | apply pw_below_drewN | apply below_drew1 | refine below_set ?_ GE119.out) | exact HB.out)), z_HO149, fun _ => (by (with_reducible repeat (first | apply Kd.R_alloc | apply Kd.R_drewN | apply Kd.R_drew)); first | exact HO152.out | exact Kd.R_mono HO152.out (fun _ _ => trivial) | exact Kd.R_mono HO152.out (fun _ hk => hk.1)), fun h0_ => absurd ((hoff 5 (by kernel_rfl)).symm.trans h0_) (by decide), fun h0_ => absurd ((hoff 7 (by kernel_rfl)).symm.trans h0_) (by decide), fun h0_ => absurd ((hoff 9 (by kernel_rfl)).symm.trans h0_) (by decide), fun h0_ => absurd ((hoff 14 (by kernel_rfl)).symm.trans h0_) (by decide), fun h0_ => absurd ((hoff 24 (by kernel_rfl)).symm.trans h0_) (by decide), fun h0_ => absurd ((hoff 8 (by kernel_rfl)).symm.trans h0_) (by decide)⟩
          refine steps_cons ?_ ?_
          ·
           rintro b a w' ⟨v148, v151, v157, v162, v165, v169, v175, m8_, ha, Q_HO_2, Q_BK119, Q_HB, Q_HO149, Q_HO152, Q_HO158, Q_HO163, Q_HO166, Q_HO170, Q_HO176, Q_X8_⟩ hb_ hon hoff
           refine ⟨_, rfl, fun K hK => ?_⟩
           have e33 : a.tmps[33]? = some (v148) := by rw [ha]; exact putSel_on (e := (0, 33, v148)) 0 rfl rfl (hon 0 (by kernel_rfl)) rfl
           have e34 : a.tmps[34]? = some (v151) := by rw [ha]; exact putSel_on (e := (1, 34, v151)) 1 rfl rfl (hon 1 (by kernel_rfl)) rfl
           replace ha := Aside0.mk ha
           have HO_2 := Aside0.mk Q_HO_2
           have BK119 := Aside0.mk Q_BK119
           have HB := Aside0.mk Q_HB
           have HO149 := Aside0.mk (Q_HO149 (hon 0 (by kernel_rfl)))
           have HO152 := Aside0.mk (Q_HO152 (hon 1 (by kernel_rfl)))
           obtain ⟨Ao92, co92, eo92⟩ := Kd.R_slice HO149.out
           (first | subst eo92 | (injection eo92 with f1_ f2_ f3_; have f4_ := f1_.symm; have f5_ := f3_.symm; clear f1_ f2_ f3_; subst f4_; subst f5_))
           obtain ⟨Ao93, co93, eo93⟩ := Kd.R_slice HO152.out
           (first | subst eo93 | (injection eo93 with f1_ f2_ f3_; have f4_ := f1_.symm; have f5_ := f3_.symm; clear f1_ f2_ f3_; subst f4_; subst f5_))
           refine goes_ Try.func11 (by kernel_rfl) rfl #[.slice Ao92 y147.length co92, .slice none 0 0, .slice Ao93 y150.length co93, .int .i64 0] (by rfl) rfl rfl (by first | (simp only [List.map_toArray, List.map_cons, List.map_nil, Act.eval, Array.getD_eq_getD_getElem?, Option.getD_some, e33, e34]; done) | (simp only [List.map_toArray, List.map_cons, List.map_nil, Act.eval, Array.getD_eq_getD_getElem?, Option.getD_some, e33, e34]; rfl)) ?_
           refine (redpencillaw17_appends.calls _ _ y147 _ _ ([] : List (S38)) _ _ y150 0 true _ ?side1 ?side2 ?side3 ?side4 ?side5 ?side6 A75.out).mono ?_
           (case side1 => repeat (first | exact (Kd.R_reads' HO149.out).2.2 | (with_reducible refine Kd.C_alloc ?_ _) | (with_reducible refine Kd.C_drewN ?_ _) | (with_reducible refine Kd.C_drew ?_)))
           (case side2 => exact (Kd.R_reads' HO149.out).2.1)
           (case side3 => exact Kd.C_nil _ _)
           (case side4 => exact Nat.le_refl _)
           (case side5 => repeat (first | exact (Kd.R_reads' HO152.out).2.2 | (with_reducible refine Kd.C_alloc ?_ _) | (with_reducible refine Kd.C_drewN ?_ _) | (with_reducible refine Kd.C_drew ?_)))
           (case side6 => exact (Kd.R_reads' HO152.out).2.1)
           rintro e w94 ⟨rfl, hb⟩
           refine ⟨_, rfl, ?_⟩
           have n0_ := Aside0.mk (Kd.R_below (by (with_reducible repeat (first | apply Kd.R_alloc | apply Kd.R_drewN | apply Kd.R_drew)); exact HO_2.out) hb)
           have n1_ := Aside0.mk (Kd.R_below (by (with_reducible repeat (first | apply Kd.R_alloc | apply Kd.R_drewN | apply Kd.R_drew)); exact HO149.out) hb)
           have n2_ := Aside0.mk (Kd.R_below (by (with_reducible repeat (first | apply Kd.R_alloc | apply Kd.R_drewN | apply Kd.R_drew)); exact HO152.out) hb)
           have n3_ := Aside0.mk (blk_below (g := gb119) (o := .cells #[.int .i64 t117, .int .i64 t118, .int .i64 0, .int .i64 0, .int .i64 1, .int .i32 97] 38 (0, 0)) (by (with_reducible repeat (first | refine blk_drewN ?_ _ | refine blk_drew ?_ | refine blk_alloc ?_ _)); exact BK119.out) hb)
           have n4_ := Aside0.mk (below_step (by repeat (first | (with_reducible first | exact HB.out | apply below_alloc | apply pw_below_drewN | apply below_drew1 | refine below_set ?_ GE119.out) | exact HB.out)) hb)
           clear HO_2
           clear HO149
           clear HO152
           clear BK119
           clear HB
           have HO_2 := n0_
           have HO149 := n1_
           have HO152 := n2_
           have BK119 := n3_
           have HB := n4_
           clear n0_ n1_ n2_ n3_ n4_
           (try clear hb)
           (try clear hb2)
           (try clear hk)
           (try clear hi)
           refine hK.out _ _ ⟨.slice Ao92 y147.length co92, .slice Ao93 y150.length co93, v157, v162, v165, v169, v175, m8_, (by rw [ha.out]; exact putSel_upk 2 hb_ rfl rfl rfl), (by (with_reducible repeat (first | apply Kd.R_alloc | apply Kd.R_drewN | apply Kd.R_drew)); first | exact HO_2.out | exact Kd.R_mono HO_2.out (fun _ _ => trivial) | exact Kd.R_mono HO_2.out (fun _ hk => hk.1)), (by (with_reducible repeat (first | refine blk_drewN ?_ _ | refine blk_drew ?_ | refine blk_alloc ?_ _)); exact BK119.out), (by repeat (first | (with_reducible first | exact HB.out | apply below_alloc | apply pw_below_drewN | apply below_drew1 | refine below_set ?_ GE119.out) | exact HB.out)), fun _ => (by (with_reducible repeat (first | apply Kd.R_alloc | apply Kd.R_drewN | apply Kd.R_drew)); first | exact HO149.out | exact Kd.R_mono HO149.out (fun _ _ => trivial) | exact Kd.R_mono HO149.out (fun _ hk => hk.1)), fun _ => (by (with_reducible repeat (first | apply Kd.R_alloc | apply Kd.R_drewN | apply Kd.R_drew)); first | exact HO152.out | exact Kd.R_mono HO152.out (fun _ _ => trivial) | exact Kd.R_mono HO152.out (fun _ hk => hk.1)), fun h0_ => absurd ((hoff 5 (by kernel_rfl)).symm.trans h0_) (by decide), fun h0_ => absurd ((hoff 7 (by kernel_rfl)).symm.trans h0_) (by decide), fun h0_ => absurd ((hoff 9 (by kernel_rfl)).symm.trans h0_) (by decide), fun h0_ => absurd ((hoff 14 (by kernel_rfl)).symm.trans h0_) (by decide), fun h0_ => absurd ((hoff 24 (by kernel_rfl)).symm.trans h0_) (by decide), fun h0_ => absurd ((hoff 8 (by kernel_rfl)).symm.trans h0_) (by decide)⟩
          refine steps_cons ?_ ?_
          ·
           rintro b a w' ⟨v148, v151, v157, v162, v165, v169, v175, m8_, ha, Q_HO_2, Q_BK119, Q_HB, Q_HO149, Q_HO152, Q_HO158, Q_HO163, Q_HO166, Q_HO170, Q_HO176, Q_X8_⟩ hb_ hon hoff
           refine ⟨_, rfl, fun K hK => ?_⟩
           have e35 : a.tmps[35]? = some (.bool true) := by rw [ha]; exact putSel_on (e := (2, 35, .bool true)) 2 rfl rfl (hon 2 (by kernel_rfl)) rfl
           replace ha := Aside0.mk ha
           have HO_2 := Aside0.mk Q_HO_2
           have BK119 := Aside0.mk Q_BK119
           have HB := Aside0.mk Q_HB
           have HO149 := Aside0.mk (Q_HO149 (hon 0 (by kernel_rfl)))
           have HO152 := Aside0.mk (Q_HO152 (hon 1 (by kernel_rfl)))
           refine value_ (w1 := w') (v := .bool true) (by rfl) rfl ?_ ?_
           ·
            go_simp
            (try simp only [i64_w])
            try rfl
           refine hK.out _ _ ⟨v148, v151, v157, v162, v165, v169, v175, m8_, (by rw [ha.out]; exact putSel_upk 3 hb_ rfl rfl rfl), Q_HO_2, Q_BK119, Q_HB, Q_HO149, Q_HO152, fun h0_ => absurd ((hoff 5 (by kernel_rfl)).symm.trans h0_) (by decide), fun h0_ => absurd ((hoff 7 (by kernel_rfl)).symm.trans h0_) (by decide), fun h0_ => absurd ((hoff 9 (by kernel_rfl)).symm.trans h0_) (by decide), fun h0_ => absurd ((hoff 14 (by kernel_rfl)).symm.trans h0_) (by decide), fun h0_ => absurd ((hoff 24 (by kernel_rfl)).symm.trans h0_) (by decide), fun h0_ => absurd ((hoff 8 (by kernel_rfl)).symm.trans h0_) (by decide)⟩
          refine steps_cons ?_ ?_
          ·
           rintro b a w' ⟨v148, v151, v157, v162, v165, v169, v175, m8_, ha, Q_HO_2, Q_BK119, Q_HB, Q_HO149, Q_HO152, Q_HO158, Q_HO163, Q_HO166, Q_HO170, Q_HO176, Q_X8_⟩ hb_ hon hoff
           refine ⟨_, rfl, fun K hK => ?_⟩
           have e36 : a.tmps[36]? = some (.bool true) := by rw [ha]; exact putSel_on (e := (3, 36, .bool true)) 3 rfl rfl (hon 3 (by kernel_rfl)) rfl
           replace ha := Aside0.mk ha
           have HO_2 := Aside0.mk Q_HO_2
           have BK119 := Aside0.mk Q_BK119
           have HB := Aside0.mk Q_HB
           have HO149 := Aside0.mk (Q_HO149 (hon 0 (by kernel_rfl)))
           have HO152 := Aside0.mk (Q_HO152 (hon 1 (by kernel_rfl)))
           refine goes_ Try.func21 (by kernel_rfl) rfl #[.int .i64 1, .int .i64 2] (by first | rfl | exact wanted_on rfl rfl rfl (e36.trans (by first | rfl | (simp [*]; done)))) rfl rfl (by first | (simp only [List.map_toArray, List.map_cons, List.map_nil, Act.eval, Array.getD_eq_getD_getElem?, Option.getD_some, e36]; done) | (simp only [List.map_toArray, List.map_cons, List.map_nil, Act.eval, Array.getD_eq_getD_getElem?, Option.getD_some, e36]; rfl)) ?_
           with_reducible refine (redpencillaw17_dot.calls 1 2 t154 t155 _ A77.out).mono ?_
           rintro e w95 ⟨rfl, hb⟩
           refine ⟨_, rfl, ?_⟩
           have n0_ := Aside0.mk (Kd.R_below (by (with_reducible repeat (first | apply Kd.R_alloc | apply Kd.R_drewN | apply Kd.R_drew)); exact HO_2.out) hb)
           have n1_ := Aside0.mk (Kd.R_below (by (with_reducible repeat (first | apply Kd.R_alloc | apply Kd.R_drewN | apply Kd.R_drew)); exact HO149.out) hb)
           have n2_ := Aside0.mk (Kd.R_below (by (with_reducible repeat (first | apply Kd.R_alloc | apply Kd.R_drewN | apply Kd.R_drew)); exact HO152.out) hb)
           have n3_ := Aside0.mk (blk_below (g := gb119) (o := .cells #[.int .i64 t117, .int .i64 t118, .int .i64 0, .int .i64 0, .int .i64 1, .int .i32 97] 38 (0, 0)) (by (with_reducible repeat (first | refine blk_drewN ?_ _ | refine blk_drew ?_ | refine blk_alloc ?_ _)); exact BK119.out) hb)
           have n4_ := Aside0.mk (below_step (by repeat (first | (with_reducible first | exact HB.out | apply below_alloc | apply pw_below_drewN | apply below_drew1 | refine below_set ?_ GE119.out) | exact HB.out)) hb)
           have z_HO166 := fun (h0_ : b 9 = true) => (show Kd.R (Kd.int .u8) 5 w95 w.heap.size (fun _ => True) v165 y164 from by first | exact (Kd.R_below (by (with_reducible repeat (first | apply Kd.R_alloc | apply Kd.R_drewN | apply Kd.R_drew)); exact (Q_HO166 h0_)) hb) | exact Kd.R_mono (Kd.R_below (by (with_reducible repeat (first | apply Kd.R_alloc | apply Kd.R_drewN | apply Kd.R_drew)); exact (Q_HO166 h0_)) hb) (fun _ h_ => by first | trivial | exact h_ | exact h_.1))
           clear HO_2
           clear HO149
           clear HO152
           clear BK119
           clear HB
           have HO_2 := n0_
           have HO149 := n1_
           have HO152 := n2_
           have BK119 := n3_
           have HB := n4_
           clear n0_ n1_ n2_ n3_ n4_
           (try clear hb)
           (try clear hb2)
           (try clear hk)
           (try clear hi)
           refine hK.out _ _ ⟨v148, v151, v157, v162, v165, v169, v175, m8_, (by rw [ha.out]; exact putSel_upk 4 hb_ rfl rfl rfl), (by (with_reducible repeat (first | apply Kd.R_alloc | apply Kd.R_drewN | apply Kd.R_drew)); first | exact HO_2.out | exact Kd.R_mono HO_2.out (fun _ _ => trivial) | exact Kd.R_mono HO_2.out (fun _ hk => hk.1)), (by (with_reducible repeat (first | refine blk_drewN ?_ _ | refine blk_drew ?_ | refine blk_alloc ?_ _)); exact BK119.out), (by repeat (first | (with_reducible first | exact HB.out | apply below_alloc | apply pw_below_drewN | apply below_drew1 | refine below_set ?_ GE119.out) | exact HB.out)), fun _ => (by (with_reducible repeat (first | apply Kd.R_alloc | apply Kd.R_drewN | apply Kd.R_drew)); first | exact HO149.out | exact Kd.R_mono HO149.out (fun _ _ => trivial) | exact Kd.R_mono HO149.out (fun _ hk => hk.1)), fun _ => (by (with_reducible repeat (first | apply Kd.R_alloc | apply Kd.R_drewN | apply Kd.R_drew)); first | exact HO152.out | exact Kd.R_mono HO152.out (fun _ _ => trivial) | exact Kd.R_mono HO152.out (fun _ hk => hk.1)), fun h0_ => absurd ((hoff 5 (by kernel_rfl)).symm.trans h0_) (by decide), fun h0_ => absurd ((hoff 7 (by kernel_rfl)).symm.trans h0_) (by decide), z_HO166, fun h0_ => absurd ((hoff 14 (by kernel_rfl)).symm.trans h0_) (by decide), fun h0_ => absurd ((hoff 24 (by kernel_rfl)).symm.trans h0_) (by decide), fun h0_ => absurd ((hoff 8 (by kernel_rfl)).symm.trans h0_) (by decide)⟩
          refine steps_cons ?_ ?_
          ·
           rintro b a w' ⟨v148, v151, v157, v162, v165, v169, v175, m8_, ha, Q_HO_2, Q_BK119, Q_HB, Q_HO149, Q_HO152, Q_HO158, Q_HO163, Q_HO166, Q_HO170, Q_HO176, Q_X8_⟩ hb_ hon hoff
           refine ⟨_, rfl, fun K hK => ?_⟩
           have e37 : a.tmps[37]? = some (.agg #[.int .i64 t154, .int .i64 t155]) := by rw [ha]; exact putSel_on (e := (4, 37, .agg #[.int .i64 t154, .int .i64 t155])) 4 rfl rfl (hon 4 (by kernel_rfl)) rfl
           have e36 : a.tmps[36]? = some (.bool true) := by rw [ha]; exact putSel_on (e := (3, 36, .bool true)) 3 rfl rfl (hon 3 (by kernel_rfl)) rfl
           replace ha := Aside0.mk ha
           have HO_2 := Aside0.mk Q_HO_2
           have BK119 := Aside0.mk Q_BK119
           have HB := Aside0.mk Q_HB
           have HO149 := Aside0.mk (Q_HO149 (hon 0 (by kernel_rfl)))
           have HO152 := Aside0.mk (Q_HO152 (hon 1 (by kernel_rfl)))
           refine Kd.R_lit_step k36 _ 36 ?hg (N := 38) ?hd (xs := ([(⟨t154, t155⟩ : S36)] : List (S36))) (inner := [.int .i64 t154, .int .i64 t155]) (ok := fun _ => True) (okp := fun _ => True) ?hr ?hp (fun _ hk => hk) trivial (Below.refl _ _) (Nat.le_refl _) (by simp) ?_; (case hd => rfl); (case hg => first | rfl | exact wanted_on rfl rfl rfl (e36.trans (by first | rfl | (simp [*]; done)))); (case hr => first | (go_simp; done) | (go_simp; rfl)); (case hp => exact (Reps.c2 (show Kd.M k36 _ _ _ (⟨t154, t155⟩ : S36) [.int .i64 t154, .int .i64 t155] from (k36_mkM _ _ _ (⟨t154, t155⟩ : S36) )) (Reps.none _ _)))
           intro v157 w96 ho97 hb hg_ hnew_
           clear hg_ hnew_
           (first | rw [← Ny156.out] at ho97 | (simp only [Int.reduceToNat] at ho97; rw [← Ny156.out] at ho97))
           have n0_ := Aside0.mk (Kd.R_below (by (with_reducible repeat (first | apply Kd.R_alloc | apply Kd.R_drewN | apply Kd.R_drew)); exact HO_2.out) hb)
           have n1_ := Aside0.mk (Kd.R_below (by (with_reducible repeat (first | apply Kd.R_alloc | apply Kd.R_drewN | apply Kd.R_drew)); exact HO149.out) hb)
           have n2_ := Aside0.mk (Kd.R_below (by (with_reducible repeat (first | apply Kd.R_alloc | apply Kd.R_drewN | apply Kd.R_drew)); exact HO152.out) hb)
           have n3_ := Aside0.mk (Kd.R_lower ho97 (below_size (by repeat (first | (with_reducible first | exact HB.out | apply below_alloc | apply pw_below_drewN | apply below_drew1 | refine below_set ?_ GE119.out) | exact HB.out))))
           have n4_ := Aside0.mk (blk_below (g := gb119) (o := .cells #[.int .i64 t117, .int .i64 t118, .int .i64 0, .int .i64 0, .int .i64 1, .int .i32 97] 38 (0, 0)) (by (with_reducible repeat (first | refine blk_drewN ?_ _ | refine blk_drew ?_ | refine blk_alloc ?_ _)); exact BK119.out) hb)
           have n5_ := Aside0.mk (below_step (by repeat (first | (with_reducible first | exact HB.out | apply below_alloc | apply pw_below_drewN | apply below_drew1 | refine below_set ?_ GE119.out) | exact HB.out)) hb)
           have z_HO163 := fun (h0_ : b 7 = true) => (show Kd.R k36 36 w96 w.heap.size (fun _ => True) v162 y161 from by first | exact (Kd.R_elder' (by (with_reducible repeat (first | apply Kd.R_alloc | apply Kd.R_drewN | apply Kd.R_drew)); exact (Q_HO163 h0_)) (Kd.R_base ho97) hb) | exact Kd.R_mono (Kd.R_elder' (by (with_reducible repeat (first | apply Kd.R_alloc | apply Kd.R_drewN | apply Kd.R_drew)); exact (Q_HO163 h0_)) (Kd.R_base ho97) hb) (fun _ h_ => by first | trivial | exact h_ | exact h_.1))
           have z_HO166 := fun (h0_ : b 9 = true) => (show Kd.R (Kd.int .u8) 5 w96 w.heap.size (fun _ => True) v165 y164 from by first | exact (Kd.R_below (by (with_reducible repeat (first | apply Kd.R_alloc | apply Kd.R_drewN | apply Kd.R_drew)); exact (Q_HO166 h0_)) hb) | exact Kd.R_mono (Kd.R_below (by (with_reducible repeat (first | apply Kd.R_alloc | apply Kd.R_drewN | apply Kd.R_drew)); exact (Q_HO166 h0_)) hb) (fun _ h_ => by first | trivial | exact h_ | exact h_.1))
           clear HO_2
           clear HO149
           clear HO152
           clear BK119
           clear HB
           have HO_2 := n0_
           have HO149 := n1_
           have HO152 := n2_
           have HO158 := n3_
           have BK119 := n4_
           have HB := n5_
           clear n0_ n1_ n2_ n3_ n4_ n5_
           clear hb ho97
           refine hK.out _ _ ⟨v148, v151, v157, v162, v165, v169, v175, m8_, (by rw [ha.out]; exact putSel_upk 5 hb_ rfl rfl rfl), (by (with_reducible repeat (first | apply Kd.R_alloc | apply Kd.R_drewN | apply Kd.R_drew)); first | exact HO_2.out | exact Kd.R_mono HO_2.out (fun _ _ => trivial) | exact Kd.R_mono HO_2.out (fun _ hk => hk.1)), (by (with_reducible repeat (first | refine blk_drewN ?_ _ | refine blk_drew ?_ | refine blk_alloc ?_ _)); exact BK119.out), (by repeat (first | (with_reducible first | exact HB.out | apply below_alloc | apply pw_below_drewN | apply below_drew1 | refine below_set ?_ GE119.out) | exact HB.out)), fun _ => (by (with_reducible repeat (first | apply Kd.R_alloc | apply Kd.R_drewN | apply Kd.R_drew)); first | exact HO149.out | exact Kd.R_mono HO149.out (fun _ _ => trivial) | exact Kd.R_mono HO149.out (fun _ hk => hk.1)), fun _ => (by (with_reducible repeat (first | apply Kd.R_alloc | apply Kd.R_drewN | apply Kd.R_drew)); first | exact HO152.out | exact Kd.R_mono HO152.out (fun _ _ => trivial) | exact Kd.R_mono HO152.out (fun _ hk => hk.1)), fun _ => (by (with_reducible repeat (first | apply Kd.R_alloc | apply Kd.R_drewN | apply Kd.R_drew)); first | exact HO158.out | exact Kd.R_mono HO158.out (fun _ _ => trivial) | exact Kd.R_mono HO158.out (fun _ hk => hk.1)), z_HO163, z_HO166, fun h0_ => absurd ((hoff 14 (by kernel_rfl)).symm.trans h0_) (by decide), fun h0_ => absurd ((hoff 24 (by kernel_rfl)).symm.trans h0_) (by decide), fun h0_ => absurd ((hoff 8 (by kernel_rfl)).symm.trans h0_) (by decide)⟩
          refine steps_cons ?_ ?_
          ·
           rintro b a w' ⟨v148, v151, v157, v162, v165, v169, v175, m8_, ha, Q_HO_2, Q_BK119, Q_HB, Q_HO149, Q_HO152, Q_HO158, Q_HO163, Q_HO166, Q_HO170, Q_HO176, Q_X8_⟩ hb_ hon hoff
           refine ⟨_, rfl, fun K hK => ?_⟩
           have e36 : a.tmps[36]? = some (.bool true) := by rw [ha]; exact putSel_on (e := (3, 36, .bool true)) 3 rfl rfl (hon 3 (by kernel_rfl)) rfl
           replace ha := Aside0.mk ha
           have HO_2 := Aside0.mk Q_HO_2
           have BK119 := Aside0.mk Q_BK119
           have HB := Aside0.mk Q_HB
           have HO149 := Aside0.mk (Q_HO149 (hon 0 (by kernel_rfl)))
           have HO152 := Aside0.mk (Q_HO152 (hon 1 (by kernel_rfl)))
           refine goes_ Try.func21 (by kernel_rfl) rfl #[.int .i64 3, .int .i64 300] (by first | rfl | exact wanted_on rfl rfl rfl (e36.trans (by first | rfl | (simp [*]; done)))) rfl rfl (by first | (simp only [List.map_toArray, List.map_cons, List.map_nil, Act.eval, Array.getD_eq_getD_getElem?, Option.getD_some, e36]; done) | (simp only [List.map_toArray, List.map_cons, List.map_nil, Act.eval, Array.getD_eq_getD_getElem?, Option.getD_some, e36]; rfl)) ?_
           with_reducible refine (redpencillaw17_dot.calls 3 300 t159 t160 _ A78.out).mono ?_
           rintro e w96 ⟨rfl, hb⟩
           refine ⟨_, rfl, ?_⟩
           have n0_ := Aside0.mk (Kd.R_below (by (with_reducible repeat (first | apply Kd.R_alloc | apply Kd.R_drewN | apply Kd.R_drew)); exact HO_2.out) hb)
           have n1_ := Aside0.mk (Kd.R_below (by (with_reducible repeat (first | apply Kd.R_alloc | apply Kd.R_drewN | apply Kd.R_drew)); exact HO149.out) hb)
           have n2_ := Aside0.mk (Kd.R_below (by (with_reducible repeat (first | apply Kd.R_alloc | apply Kd.R_drewN | apply Kd.R_drew)); exact HO152.out) hb)
           have n3_ := Aside0.mk (blk_below (g := gb119) (o := .cells #[.int .i64 t117, .int .i64 t118, .int .i64 0, .int .i64 0, .int .i64 1, .int .i32 97] 38 (0, 0)) (by (with_reducible repeat (first | refine blk_drewN ?_ _ | refine blk_drew ?_ | refine blk_alloc ?_ _)); exact BK119.out) hb)
           have n4_ := Aside0.mk (below_step (by repeat (first | (with_reducible first | exact HB.out | apply below_alloc | apply pw_below_drewN | apply below_drew1 | refine below_set ?_ GE119.out) | exact HB.out)) hb)
           have z_HO158 := fun (h0_ : b 5 = true) => (show Kd.R k36 36 w96 w.heap.size (fun _ => True) v157 y156 from by first | exact (Kd.R_below (by (with_reducible repeat (first | apply Kd.R_alloc | apply Kd.R_drewN | apply Kd.R_drew)); exact (Q_HO158 h0_)) hb) | exact Kd.R_mono (Kd.R_below (by (with_reducible repeat (first | apply Kd.R_alloc | apply Kd.R_drewN | apply Kd.R_drew)); exact (Q_HO158 h0_)) hb) (fun _ h_ => by first | trivial | exact h_ | exact h_.1))
           have z_HO166 := fun (h0_ : b 9 = true) => (show Kd.R (Kd.int .u8) 5 w96 w.heap.size (fun _ => True) v165 y164 from by first | exact (Kd.R_below (by (with_reducible repeat (first | apply Kd.R_alloc | apply Kd.R_drewN | apply Kd.R_drew)); exact (Q_HO166 h0_)) hb) | exact Kd.R_mono (Kd.R_below (by (with_reducible repeat (first | apply Kd.R_alloc | apply Kd.R_drewN | apply Kd.R_drew)); exact (Q_HO166 h0_)) hb) (fun _ h_ => by first | trivial | exact h_ | exact h_.1))
           clear HO_2
           clear HO149
           clear HO152
           clear BK119
           clear HB
           have HO_2 := n0_
           have HO149 := n1_
           have HO152 := n2_
           have BK119 := n3_
           have HB := n4_
           clear n0_ n1_ n2_ n3_ n4_
           (try clear hb)
           (try clear hb2)
           (try clear hk)
           (try clear hi)
           refine hK.out _ _ ⟨v148, v151, v157, v162, v165, v169, v175, m8_, (by rw [ha.out]; exact putSel_upk 6 hb_ rfl rfl rfl), (by (with_reducible repeat (first | apply Kd.R_alloc | apply Kd.R_drewN | apply Kd.R_drew)); first | exact HO_2.out | exact Kd.R_mono HO_2.out (fun _ _ => trivial) | exact Kd.R_mono HO_2.out (fun _ hk => hk.1)), (by (with_reducible repeat (first | refine blk_drewN ?_ _ | refine blk_drew ?_ | refine blk_alloc ?_ _)); exact BK119.out), (by repeat (first | (with_reducible first | exact HB.out | apply below_alloc | apply pw_below_drewN | apply below_drew1 | refine below_set ?_ GE119.out) | exact HB.out)), fun _ => (by (with_reducible repeat (first | apply Kd.R_alloc | apply Kd.R_drewN | apply Kd.R_drew)); first | exact HO149.out | exact Kd.R_mono HO149.out (fun _ _ => trivial) | exact Kd.R_mono HO149.out (fun _ hk => hk.1)), fun _ => (by (with_reducible repeat (first | apply Kd.R_alloc | apply Kd.R_drewN | apply Kd.R_drew)); first | exact HO152.out | exact Kd.R_mono HO152.out (fun _ _ => trivial) | exact Kd.R_mono HO152.out (fun _ hk => hk.1)), z_HO158, fun h0_ => absurd ((hoff 7 (by kernel_rfl)).symm.trans h0_) (by decide), z_HO166, fun h0_ => absurd ((hoff 14 (by kernel_rfl)).symm.trans h0_) (by decide), fun h0_ => absurd ((hoff 24 (by kernel_rfl)).symm.trans h0_) (by decide), fun h0_ => absurd ((hoff 8 (by kernel_rfl)).symm.trans h0_) (by decide)⟩
          refine steps_cons ?_ ?_
          ·
           rintro b a w' ⟨v148, v151, v157, v162, v165, v169, v175, m8_, ha, Q_HO_2, Q_BK119, Q_HB, Q_HO149, Q_HO152, Q_HO158, Q_HO163, Q_HO166, Q_HO170, Q_HO176, Q_X8_⟩ hb_ hon hoff
           refine ⟨_, rfl, fun K hK => ?_⟩
           have e39 : a.tmps[39]? = some (.agg #[.int .i64 t159, .int .i64 t160]) := by rw [ha]; exact putSel_on (e := (6, 39, .agg #[.int .i64 t159, .int .i64 t160])) 6 rfl rfl (hon 6 (by kernel_rfl)) rfl
           have e36 : a.tmps[36]? = some (.bool true) := by rw [ha]; exact putSel_on (e := (3, 36, .bool true)) 3 rfl rfl (hon 3 (by kernel_rfl)) rfl
           replace ha := Aside0.mk ha
           have HO_2 := Aside0.mk Q_HO_2
           have BK119 := Aside0.mk Q_BK119
           have HB := Aside0.mk Q_HB
           have HO149 := Aside0.mk (Q_HO149 (hon 0 (by kernel_rfl)))
           have HO152 := Aside0.mk (Q_HO152 (hon 1 (by kernel_rfl)))
           refine Kd.R_lit_step k36 _ 36 ?hg (N := 40) ?hd (xs := ([(⟨t159, t160⟩ : S36)] : List (S36))) (inner := [.int .i64 t159, .int .i64 t160]) (ok := fun _ => True) (okp := fun _ => True) ?hr ?hp (fun _ hk => hk) trivial (Below.refl _ _) (Nat.le_refl _) (by simp) ?_; (case hd => rfl); (case hg => first | rfl | exact wanted_on rfl rfl rfl (e36.trans (by first | rfl | (simp [*]; done)))); (case hr => first | (go_simp; done) | (go_simp; rfl)); (case hp => exact (Reps.c2 (show Kd.M k36 _ _ _ (⟨t159, t160⟩ : S36) [.int .i64 t159, .int .i64 t160] from (k36_mkM _ _ _ (⟨t159, t160⟩ : S36) )) (Reps.none _ _)))
           intro v162 w97 ho98 hb hg_ hnew_
           clear hg_ hnew_
           (first | rw [← Ny161.out] at ho98 | (simp only [Int.reduceToNat] at ho98; rw [← Ny161.out] at ho98))
           have n0_ := Aside0.mk (Kd.R_below (by (with_reducible repeat (first | apply Kd.R_alloc | apply Kd.R_drewN | apply Kd.R_drew)); exact HO_2.out) hb)
           have n1_ := Aside0.mk (Kd.R_below (by (with_reducible repeat (first | apply Kd.R_alloc | apply Kd.R_drewN | apply Kd.R_drew)); exact HO149.out) hb)
           have n2_ := Aside0.mk (Kd.R_below (by (with_reducible repeat (first | apply Kd.R_alloc | apply Kd.R_drewN | apply Kd.R_drew)); exact HO152.out) hb)
           have n3_ := Aside0.mk (Kd.R_lower ho98 (below_size (by repeat (first | (with_reducible first | exact HB.out | apply below_alloc | apply pw_below_drewN | apply below_drew1 | refine below_set ?_ GE119.out) | exact HB.out))))
           have n4_ := Aside0.mk (blk_below (g := gb119) (o := .cells #[.int .i64 t117, .int .i64 t118, .int .i64 0, .int .i64 0, .int .i64 1, .int .i32 97] 38 (0, 0)) (by (with_reducible repeat (first | refine blk_drewN ?_ _ | refine blk_drew ?_ | refine blk_alloc ?_ _)); exact BK119.out) hb)
           have n5_ := Aside0.mk (below_step (by repeat (first | (with_reducible first | exact HB.out | apply below_alloc | apply pw_below_drewN | apply below_drew1 | refine below_set ?_ GE119.out) | exact HB.out)) hb)
           have z_HO158 := fun (h0_ : b 5 = true) => (show Kd.R k36 36 w97 w.heap.size (fun _ => True) v157 y156 from by first | exact (Kd.R_elder' (by (with_reducible repeat (first | apply Kd.R_alloc | apply Kd.R_drewN | apply Kd.R_drew)); exact (Q_HO158 h0_)) (Kd.R_base ho98) hb) | exact Kd.R_mono (Kd.R_elder' (by (with_reducible repeat (first | apply Kd.R_alloc | apply Kd.R_drewN | apply Kd.R_drew)); exact (Q_HO158 h0_)) (Kd.R_base ho98) hb) (fun _ h_ => by first | trivial | exact h_ | exact h_.1))
           have z_HO166 := fun (h0_ : b 9 = true) => (show Kd.R (Kd.int .u8) 5 w97 w.heap.size (fun _ => True) v165 y164 from by first | exact (Kd.R_below (by (with_reducible repeat (first | apply Kd.R_alloc | apply Kd.R_drewN | apply Kd.R_drew)); exact (Q_HO166 h0_)) hb) | exact Kd.R_mono (Kd.R_below (by (with_reducible repeat (first | apply Kd.R_alloc | apply Kd.R_drewN | apply Kd.R_drew)); exact (Q_HO166 h0_)) hb) (fun _ h_ => by first | trivial | exact h_ | exact h_.1))
           clear HO_2
           clear HO149
           clear HO152
           clear BK119
           clear HB
           have HO_2 := n0_
           have HO149 := n1_
           have HO152 := n2_
           have HO163 := n3_
           have BK119 := n4_
           have HB := n5_
           clear n0_ n1_ n2_ n3_ n4_ n5_
           clear hb ho98
           refine hK.out _ _ ⟨v148, v151, v157, v162, v165, v169, v175, m8_, (by rw [ha.out]; exact putSel_upk 7 hb_ rfl rfl rfl), (by (with_reducible repeat (first | apply Kd.R_alloc | apply Kd.R_drewN | apply Kd.R_drew)); first | exact HO_2.out | exact Kd.R_mono HO_2.out (fun _ _ => trivial) | exact Kd.R_mono HO_2.out (fun _ hk => hk.1)), (by (with_reducible repeat (first | refine blk_drewN ?_ _ | refine blk_drew ?_ | refine blk_alloc ?_ _)); exact BK119.out), (by repeat (first | (with_reducible first | exact HB.out | apply below_alloc | apply pw_below_drewN | apply below_drew1 | refine below_set ?_ GE119.out) | exact HB.out)), fun _ => (by (with_reducible repeat (first | apply Kd.R_alloc | apply Kd.R_drewN | apply Kd.R_drew)); first | exact HO149.out | exact Kd.R_mono HO149.out (fun _ _ => trivial) | exact Kd.R_mono HO149.out (fun _ hk => hk.1)), fun _ => (by (with_reducible repeat (first | apply Kd.R_alloc | apply Kd.R_drewN | apply Kd.R_drew)); first | exact HO152.out | exact Kd.R_mono HO152.out (fun _ _ => trivial) | exact Kd.R_mono HO152.out (fun _ hk => hk.1)), z_HO158, fun _ => (by (with_reducible repeat (first | apply Kd.R_alloc | apply Kd.R_drewN | apply Kd.R_drew)); first | exact HO163.out | exact Kd.R_mono HO163.out (fun _ _ => trivial) | exact Kd.R_mono HO163.out (fun _ hk => hk.1)), z_HO166, fun h0_ => absurd ((hoff 14 (by kernel_rfl)).symm.trans h0_) (by decide), fun h0_ => absurd ((hoff 24 (by kernel_rfl)).symm.trans h0_) (by decide), fun h0_ => absurd ((hoff 8 (by kernel_rfl)).symm.trans h0_) (by decide)⟩
          refine steps_cons ?_ ?_
          ·
           rintro b a w' ⟨v148, v151, v157, v162, v165, v169, v175, m8_, ha, Q_HO_2, Q_BK119, Q_HB, Q_HO149, Q_HO152, Q_HO158, Q_HO163, Q_HO166, Q_HO170, Q_HO176, Q_X8_⟩ hb_ hon hoff
           refine ⟨_, rfl, fun K hK => ?_⟩
           have e38 : a.tmps[38]? = some (v157) := by rw [ha]; exact putSel_on (e := (5, 38, v157)) 5 rfl rfl (hon 5 (by kernel_rfl)) rfl
           have e40 : a.tmps[40]? = some (v162) := by rw [ha]; exact putSel_on (e := (7, 40, v162)) 7 rfl rfl (hon 7 (by kernel_rfl)) rfl
           have e36 : a.tmps[36]? = some (.bool true) := by rw [ha]; exact putSel_on (e := (3, 36, .bool true)) 3 rfl rfl (hon 3 (by kernel_rfl)) rfl
           replace ha := Aside0.mk ha
           have HO_2 := Aside0.mk Q_HO_2
           have BK119 := Aside0.mk Q_BK119
           have HB := Aside0.mk Q_HB
           have HO149 := Aside0.mk (Q_HO149 (hon 0 (by kernel_rfl)))
           have HO152 := Aside0.mk (Q_HO152 (hon 1 (by kernel_rfl)))
           have HO158 := Aside0.mk (Q_HO158 (hon 5 (by kernel_rfl)))
           have HO163 := Aside0.mk (Q_HO163 (hon 7 (by kernel_rfl)))
           obtain ⟨Ao8_0, co8_0, eo_⟩ := Kd.R_slice HO158.out
           subst eo_
           obtain ⟨Ao8_1, co8_1, eo_⟩ := Kd.R_slice HO163.out
           subst eo_
           refine value_ (w1 := w') (v := .agg #[.slice Ao8_0 y156.length co8_0, .slice Ao8_1 y161.length co8_1]) (wanted_on rfl rfl rfl (e36.trans (by first | rfl | (simp [*]; done)))) rfl ?_ ?_
           ·
            go_simp
            (try simp only [i64_w])
            try rfl
           refine hK.out _ _ ⟨v148, v151, .slice Ao8_0 y156.length co8_0, .slice Ao8_1 y161.length co8_1, v165, v169, v175, (.agg #[.slice Ao8_0 y156.length co8_0, .slice Ao8_1 y161.length co8_1]), (by rw [ha.out]; exact putSel_upk 8 hb_ rfl rfl rfl), Q_HO_2, Q_BK119, Q_HB, Q_HO149, Q_HO152, Q_HO158, Q_HO163, Q_HO166, fun h0_ => absurd ((hoff 14 (by kernel_rfl)).symm.trans h0_) (by decide), fun h0_ => absurd ((hoff 24 (by kernel_rfl)).symm.trans h0_) (by decide), fun _ => rfl⟩
          refine steps_cons ?_ ?_
          ·
           rintro b a w' ⟨v148, v151, v157, v162, v165, v169, v175, m8_, ha, Q_HO_2, Q_BK119, Q_HB, Q_HO149, Q_HO152, Q_HO158, Q_HO163, Q_HO166, Q_HO170, Q_HO176, Q_X8_⟩ hb_ hon hoff
           refine ⟨_, rfl, fun K hK => ?_⟩
           have e36 : a.tmps[36]? = some (.bool true) := by rw [ha]; exact putSel_on (e := (3, 36, .bool true)) 3 rfl rfl (hon 3 (by kernel_rfl)) rfl
           replace ha := Aside0.mk ha
           have HO_2 := Aside0.mk Q_HO_2
           have BK119 := Aside0.mk Q_BK119
           have HB := Aside0.mk Q_HB
           have HO149 := Aside0.mk (Q_HO149 (hon 0 (by kernel_rfl)))
           have HO152 := Aside0.mk (Q_HO152 (hon 1 (by kernel_rfl)))
           refine Kd.R_lit_step (Kd.int .u8) _ 5 ?hg (N := 42) ?hd (xs := ([1, 1, 2, 1, 3, 172, 2] : List Int)) (inner := [.int .u8 1, .int .u8 1, .int .u8 2, .int .u8 1, .int .u8 3, .int .u8 172, .int .u8 2]) (ok := fun _ => True) (okp := fun _ => True) ?hr ?hp (fun _ hk => hk) trivial (Below.refl _ _) (Nat.le_refl _) (by simp) ?_; (case hd => rfl); (case hg => first | rfl | exact wanted_on rfl rfl rfl (e36.trans (by first | rfl | (simp [*]; done)))); (case hr => first | (go_simp; done) | (go_simp; rfl)); (case hp => exact (Reps.one (show Kd.M (Kd.int .u8) _ _ _ 1 [.int .u8 1] from rfl) (Reps.one (show Kd.M (Kd.int .u8) _ _ _ 1 [.int .u8 1] from rfl) (Reps.one (show Kd.M (Kd.int .u8) _ _ _ 2 [.int .u8 2] from rfl) (Reps.one (show Kd.M (Kd.int .u8) _ _ _ 1 [.int .u8 1] from rfl) (Reps.one (show Kd.M (Kd.int .u8) _ _ _ 3 [.int .u8 3] from rfl) (Reps.one (show Kd.M (Kd.int .u8) _ _ _ 172 [.int .u8 172] from rfl) (Reps.one (show Kd.M (Kd.int .u8) _ _ _ 2 [.int .u8 2] from rfl) (Reps.none _ _)))))))))
           intro v165 w95 ho96 hb hg_ hnew_
           clear hg_ hnew_
           (first | rw [← Ny164.out] at ho96 | (simp only [Int.reduceToNat] at ho96; rw [← Ny164.out] at ho96))
           have n0_ := Aside0.mk (Kd.R_below (by (with_reducible repeat (first | apply Kd.R_alloc | apply Kd.R_drewN | apply Kd.R_drew)); exact HO_2.out) hb)
           have n1_ := Aside0.mk (Kd.R_elder' (by (with_reducible repeat (first | apply Kd.R_alloc | apply Kd.R_drewN | apply Kd.R_drew)); exact HO149.out) (Kd.R_base ho96) hb)
           have n2_ := Aside0.mk (Kd.R_elder' (by (with_reducible repeat (first | apply Kd.R_alloc | apply Kd.R_drewN | apply Kd.R_drew)); exact HO152.out) (Kd.R_base ho96) hb)
           have n3_ := Aside0.mk (Kd.R_lower (Kd.R_new' (Kd.R_new' ho96 (Kd.R_lt (by (with_reducible repeat (first | apply Kd.R_alloc | apply Kd.R_drewN | apply Kd.R_drew)); exact HO149.out))) (Kd.R_lt (by (with_reducible repeat (first | apply Kd.R_alloc | apply Kd.R_drewN | apply Kd.R_drew)); exact HO152.out))) (below_size (by repeat (first | (with_reducible first | exact HB.out | apply below_alloc | apply pw_below_drewN | apply below_drew1 | refine below_set ?_ GE119.out) | exact HB.out))))
           have n4_ := Aside0.mk (blk_below (g := gb119) (o := .cells #[.int .i64 t117, .int .i64 t118, .int .i64 0, .int .i64 0, .int .i64 1, .int .i32 97] 38 (0, 0)) (by (with_reducible repeat (first | refine blk_drewN ?_ _ | refine blk_drew ?_ | refine blk_alloc ?_ _)); exact BK119.out) hb)
           have n5_ := Aside0.mk (below_step (by repeat (first | (with_reducible first | exact HB.out | apply below_alloc | apply pw_below_drewN | apply below_drew1 | refine below_set ?_ GE119.out) | exact HB.out)) hb)
           have z_HO158 := fun (h0_ : b 5 = true) => (show Kd.R k36 36 w95 w.heap.size (fun _ => True) v157 y156 from by first | exact (Kd.R_below (by (with_reducible repeat (first | apply Kd.R_alloc | apply Kd.R_drewN | apply Kd.R_drew)); exact (Q_HO158 h0_)) hb) | exact Kd.R_mono (Kd.R_below (by (with_reducible repeat (first | apply Kd.R_alloc | apply Kd.R_drewN | apply Kd.R_drew)); exact (Q_HO158 h0_)) hb) (fun _ h_ => by first | trivial | exact h_ | exact h_.1))
           have z_HO163 := fun (h0_ : b 7 = true) => (show Kd.R k36 36 w95 w.heap.size (fun _ => True) v162 y161 from by first | exact (Kd.R_below (by (with_reducible repeat (first | apply Kd.R_alloc | apply Kd.R_drewN | apply Kd.R_drew)); exact (Q_HO163 h0_)) hb) | exact Kd.R_mono (Kd.R_below (by (with_reducible repeat (first | apply Kd.R_alloc | apply Kd.R_drewN | apply Kd.R_drew)); exact (Q_HO163 h0_)) hb) (fun _ h_ => by first | trivial | exact h_ | exact h_.1))
           clear HO_2
           clear HO149
           clear HO152
           clear BK119
           clear HB
           have HO_2 := n0_
           have HO149 := n1_
           have HO152 := n2_
           have HO166 := n3_
           have BK119 := n4_
           have HB := n5_
           clear n0_ n1_ n2_ n3_ n4_ n5_
           clear hb ho96
           refine hK.out _ _ ⟨v148, v151, v157, v162, v165, v169, v175, m8_, (by rw [ha.out]; exact putSel_upk 9 hb_ rfl rfl rfl), (by (with_reducible repeat (first | apply Kd.R_alloc | apply Kd.R_drewN | apply Kd.R_drew)); first | exact HO_2.out | exact Kd.R_mono HO_2.out (fun _ _ => trivial) | exact Kd.R_mono HO_2.out (fun _ hk => hk.1)), (by (with_reducible repeat (first | refine blk_drewN ?_ _ | refine blk_drew ?_ | refine blk_alloc ?_ _)); exact BK119.out), (by repeat (first | (with_reducible first | exact HB.out | apply below_alloc | apply pw_below_drewN | apply below_drew1 | refine below_set ?_ GE119.out) | exact HB.out)), fun _ => (by (with_reducible repeat (first | apply Kd.R_alloc | apply Kd.R_drewN | apply Kd.R_drew)); first | exact HO149.out | exact Kd.R_mono HO149.out (fun _ _ => trivial) | exact Kd.R_mono HO149.out (fun _ hk => hk.1)), fun _ => (by (with_reducible repeat (first | apply Kd.R_alloc | apply Kd.R_drewN | apply Kd.R_drew)); first | exact HO152.out | exact Kd.R_mono HO152.out (fun _ _ => trivial) | exact Kd.R_mono HO152.out (fun _ hk => hk.1)), z_HO158, z_HO163, fun _ => (by (with_reducible repeat (first | apply Kd.R_alloc | apply Kd.R_drewN | apply Kd.R_drew)); first | exact Kd.R_mono HO166.out (fun _ hk => ⟨hk.1.2, hk.2⟩) | exact Kd.R_mono HO166.out (fun _ _ => trivial) | exact Kd.R_mono HO166.out (fun _ hk => hk.2) | exact Kd.R_mono HO166.out (fun _ hk => hk.1)), fun h0_ => absurd ((hoff 14 (by kernel_rfl)).symm.trans h0_) (by decide), fun h0_ => absurd ((hoff 24 (by kernel_rfl)).symm.trans h0_) (by decide), Q_X8_⟩
          refine steps_cons ?_ ?_
          ·
           rintro b a w' ⟨v148, v151, v157, v162, v165, v169, v175, m8_, ha, Q_HO_2, Q_BK119, Q_HB, Q_HO149, Q_HO152, Q_HO158, Q_HO163, Q_HO166, Q_HO170, Q_HO176, Q_X8_⟩ hb_ hon hoff
           refine ⟨_, rfl, fun K hK => ?_⟩
           have e41 : a.tmps[41]? = some (m8_) := by rw [ha]; exact putSel_on (e := (8, 41, m8_)) 8 rfl rfl (hon 8 (by kernel_rfl)) rfl
           rw [Q_X8_ (hon 8 (by kernel_rfl))] at e41
           have e42 : a.tmps[42]? = some (v165) := by rw [ha]; exact putSel_on (e := (9, 42, v165)) 9 rfl rfl (hon 9 (by kernel_rfl)) rfl
           have e36 : a.tmps[36]? = some (.bool true) := by rw [ha]; exact putSel_on (e := (3, 36, .bool true)) 3 rfl rfl (hon 3 (by kernel_rfl)) rfl
           replace ha := Aside0.mk ha
           have HO_2 := Aside0.mk Q_HO_2
           have BK119 := Aside0.mk Q_BK119
           have HB := Aside0.mk Q_HB
           have HO149 := Aside0.mk (Q_HO149 (hon 0 (by kernel_rfl)))
           have HO152 := Aside0.mk (Q_HO152 (hon 1 (by kernel_rfl)))
           have HO158 := Aside0.mk (Q_HO158 (hon 5 (by kernel_rfl)))
           have HO163 := Aside0.mk (Q_HO163 (hon 7 (by kernel_rfl)))
           have HO166 := Aside0.mk (Q_HO166 (hon 9 (by kernel_rfl)))
           obtain ⟨Ao105, co105, eo105⟩ := Kd.R_slice HO163.out
           (first | subst eo105 | (injection eo105 with f1_ f2_ f3_; have f4_ := f1_.symm; have f5_ := f3_.symm; clear f1_ f2_ f3_; subst f4_; subst f5_))
           obtain ⟨Ao106, co106, eo106⟩ := Kd.R_slice HO158.out
           (first | subst eo106 | (injection eo106 with f1_ f2_ f3_; have f4_ := f1_.symm; have f5_ := f3_.symm; clear f1_ f2_ f3_; subst f4_; subst f5_))
           obtain ⟨Ao107, co107, eo107⟩ := Kd.R_slice HO166.out
           (first | subst eo107 | (injection eo107 with f1_ f2_ f3_; have f4_ := f1_.symm; have f5_ := f3_.symm; clear f1_ f2_ f3_; subst f4_; subst f5_))
           refine goes_ Try.func19 (by kernel_rfl) rfl #[.agg #[.slice Ao106 y156.length co106, .slice Ao105 y161.length co105], .slice Ao107 y164.length co107, .int .i64 0] (by first | rfl | exact wanted_on rfl rfl rfl (e36.trans (by first | rfl | (simp [*]; done)))) rfl rfl (by first | (simp only [List.map_toArray, List.map_cons, List.map_nil, Act.eval, Array.getD_eq_getD_getElem?, Option.getD_some, e41, e42, e36]; done) | (simp only [List.map_toArray, List.map_cons, List.map_nil, Act.eval, Array.getD_eq_getD_getElem?, Option.getD_some, e41, e42, e36]; rfl)) ?_
           with_reducible refine (redpencillaw17_contexts.calls _ _ y156 _ _ y161 _ _ y164 0 true _ ?side1 ?side2 ?side3 ?side4 ?side5 ?side6 A79.out).mono ?_
           (case side1 => repeat (first | exact (Kd.R_reads' HO158.out).2.2 | (with_reducible refine Kd.C_alloc ?_ _) | (with_reducible refine Kd.C_drewN ?_ _) | (with_reducible refine Kd.C_drew ?_)))
           (case side2 => exact (Kd.R_reads' HO158.out).2.1)
           (case side3 => repeat (first | exact (Kd.R_reads' HO163.out).2.2 | (with_reducible refine Kd.C_alloc ?_ _) | (with_reducible refine Kd.C_drewN ?_ _) | (with_reducible refine Kd.C_drew ?_)))
           (case side4 => exact (Kd.R_reads' HO163.out).2.1)
           (case side5 => repeat (first | exact (Kd.R_reads' HO166.out).2.2 | (with_reducible refine Kd.C_alloc ?_ _) | (with_reducible refine Kd.C_drewN ?_ _) | (with_reducible refine Kd.C_drew ?_)))
           (case side6 => exact (Kd.R_reads' HO166.out).2.1)
           rintro e w108 ⟨rfl, hb⟩
           refine ⟨_, rfl, ?_⟩
           have n0_ := Aside0.mk (Kd.R_below (by (with_reducible repeat (first | apply Kd.R_alloc | apply Kd.R_drewN | apply Kd.R_drew)); exact HO_2.out) hb)
           have n1_ := Aside0.mk (Kd.R_below (by (with_reducible repeat (first | apply Kd.R_alloc | apply Kd.R_drewN | apply Kd.R_drew)); exact HO149.out) hb)
           have n2_ := Aside0.mk (Kd.R_below (by (with_reducible repeat (first | apply Kd.R_alloc | apply Kd.R_drewN | apply Kd.R_drew)); exact HO152.out) hb)
           have n3_ := Aside0.mk (Kd.R_below (by (with_reducible repeat (first | apply Kd.R_alloc | apply Kd.R_drewN | apply Kd.R_drew)); exact HO158.out) hb)
           have n4_ := Aside0.mk (Kd.R_below (by (with_reducible repeat (first | apply Kd.R_alloc | apply Kd.R_drewN | apply Kd.R_drew)); exact HO163.out) hb)
           have n5_ := Aside0.mk (Kd.R_below (by (with_reducible repeat (first | apply Kd.R_alloc | apply Kd.R_drewN | apply Kd.R_drew)); exact HO166.out) hb)
           have n6_ := Aside0.mk (blk_below (g := gb119) (o := .cells #[.int .i64 t117, .int .i64 t118, .int .i64 0, .int .i64 0, .int .i64 1, .int .i32 97] 38 (0, 0)) (by (with_reducible repeat (first | refine blk_drewN ?_ _ | refine blk_drew ?_ | refine blk_alloc ?_ _)); exact BK119.out) hb)
           have n7_ := Aside0.mk (below_step (by repeat (first | (with_reducible first | exact HB.out | apply below_alloc | apply pw_below_drewN | apply below_drew1 | refine below_set ?_ GE119.out) | exact HB.out)) hb)
           clear HO_2
           clear HO149
           clear HO152
           clear HO158
           clear HO163
           clear HO166
           clear BK119
           clear HB
           have HO_2 := n0_
           have HO149 := n1_
           have HO152 := n2_
           have HO158 := n3_
           have HO163 := n4_
           have HO166 := n5_
           have BK119 := n6_
           have HB := n7_
           clear n0_ n1_ n2_ n3_ n4_ n5_ n6_ n7_
           (try clear hb)
           (try clear hb2)
           (try clear hk)
           (try clear hi)
           refine hK.out _ _ ⟨v148, v151, .slice Ao106 y156.length co106, .slice Ao105 y161.length co105, .slice Ao107 y164.length co107, v169, v175, m8_, (by rw [ha.out]; exact putSel_upk 10 hb_ rfl rfl rfl), (by (with_reducible repeat (first | apply Kd.R_alloc | apply Kd.R_drewN | apply Kd.R_drew)); first | exact HO_2.out | exact Kd.R_mono HO_2.out (fun _ _ => trivial) | exact Kd.R_mono HO_2.out (fun _ hk => hk.1)), (by (with_reducible repeat (first | refine blk_drewN ?_ _ | refine blk_drew ?_ | refine blk_alloc ?_ _)); exact BK119.out), (by repeat (first | (with_reducible first | exact HB.out | apply below_alloc | apply pw_below_drewN | apply below_drew1 | refine below_set ?_ GE119.out) | exact HB.out)), fun _ => (by (with_reducible repeat (first | apply Kd.R_alloc | apply Kd.R_drewN | apply Kd.R_drew)); first | exact HO149.out | exact Kd.R_mono HO149.out (fun _ _ => trivial) | exact Kd.R_mono HO149.out (fun _ hk => hk.1)), fun _ => (by (with_reducible repeat (first | apply Kd.R_alloc | apply Kd.R_drewN | apply Kd.R_drew)); first | exact HO152.out | exact Kd.R_mono HO152.out (fun _ _ => trivial) | exact Kd.R_mono HO152.out (fun _ hk => hk.1)), fun _ => (by (with_reducible repeat (first | apply Kd.R_alloc | apply Kd.R_drewN | apply Kd.R_drew)); first | exact HO158.out | exact Kd.R_mono HO158.out (fun _ _ => trivial) | exact Kd.R_mono HO158.out (fun _ hk => hk.1)), fun _ => (by (with_reducible repeat (first | apply Kd.R_alloc | apply Kd.R_drewN | apply Kd.R_drew)); first | exact HO163.out | exact Kd.R_mono HO163.out (fun _ _ => trivial) | exact Kd.R_mono HO163.out (fun _ hk => hk.1)), fun _ => (by (with_reducible repeat (first | apply Kd.R_alloc | apply Kd.R_drewN | apply Kd.R_drew)); first | exact HO166.out | exact Kd.R_mono HO166.out (fun _ _ => trivial) | exact Kd.R_mono HO166.out (fun _ hk => hk.1)), fun h0_ => absurd ((hoff 14 (by kernel_rfl)).symm.trans h0_) (by decide), fun h0_ => absurd ((hoff 24 (by kernel_rfl)).symm.trans h0_) (by decide), Q_X8_⟩
          refine steps_cons ?_ ?_
          ·
           rintro b a w' ⟨v148, v151, v157, v162, v165, v169, v175, m8_, ha, Q_HO_2, Q_BK119, Q_HB, Q_HO149, Q_HO152, Q_HO158, Q_HO163, Q_HO166, Q_HO170, Q_HO176, Q_X8_⟩ hb_ hon hoff
           refine ⟨_, rfl, fun K hK => ?_⟩
           have e36 : a.tmps[36]? = some (.bool true) := by rw [ha]; exact putSel_on (e := (3, 36, .bool true)) 3 rfl rfl (hon 3 (by kernel_rfl)) rfl
           have e43 : a.tmps[43]? = some (.bool true) := by rw [ha]; exact putSel_on (e := (10, 43, .bool true)) 10 rfl rfl (hon 10 (by kernel_rfl)) rfl
           replace ha := Aside0.mk ha
           have HO_2 := Aside0.mk Q_HO_2
           have BK119 := Aside0.mk Q_BK119
           have HB := Aside0.mk Q_HB
           have HO149 := Aside0.mk (Q_HO149 (hon 0 (by kernel_rfl)))
           have HO152 := Aside0.mk (Q_HO152 (hon 1 (by kernel_rfl)))
           have HO158 := Aside0.mk (Q_HO158 (hon 5 (by kernel_rfl)))
           have HO163 := Aside0.mk (Q_HO163 (hon 7 (by kernel_rfl)))
           have HO166 := Aside0.mk (Q_HO166 (hon 9 (by kernel_rfl)))
           refine value_ (w1 := w') (v := .bool true) (by rfl) rfl ?_ ?_
           ·
            go_simp
            (try simp only [i64_w])
            try rfl
           refine hK.out _ _ ⟨v148, v151, v157, v162, v165, v169, v175, m8_, (by rw [ha.out]; exact putSel_upk 11 hb_ rfl rfl rfl), Q_HO_2, Q_BK119, Q_HB, Q_HO149, Q_HO152, Q_HO158, Q_HO163, Q_HO166, fun h0_ => absurd ((hoff 14 (by kernel_rfl)).symm.trans h0_) (by decide), fun h0_ => absurd ((hoff 24 (by kernel_rfl)).symm.trans h0_) (by decide), Q_X8_⟩
          refine steps_cons ?_ ?_
          ·
           rintro b a w' ⟨v148, v151, v157, v162, v165, v169, v175, m8_, ha, Q_HO_2, Q_BK119, Q_HB, Q_HO149, Q_HO152, Q_HO158, Q_HO163, Q_HO166, Q_HO170, Q_HO176, Q_X8_⟩ hb_ hon hoff
           refine ⟨_, rfl, fun K hK => ?_⟩
           have e44 : a.tmps[44]? = some (.bool true) := by rw [ha]; exact putSel_on (e := (11, 44, .bool true)) 11 rfl rfl (hon 11 (by kernel_rfl)) rfl
           replace ha := Aside0.mk ha
           have HO_2 := Aside0.mk Q_HO_2
           have BK119 := Aside0.mk Q_BK119
           have HB := Aside0.mk Q_HB
           have HO149 := Aside0.mk (Q_HO149 (hon 0 (by kernel_rfl)))
           have HO152 := Aside0.mk (Q_HO152 (hon 1 (by kernel_rfl)))
           have HO158 := Aside0.mk (Q_HO158 (hon 5 (by kernel_rfl)))
           have HO163 := Aside0.mk (Q_HO163 (hon 7 (by kernel_rfl)))
           have HO166 := Aside0.mk (Q_HO166 (hon 9 (by kernel_rfl)))
           refine value_ (w1 := w') (v := .bool true) (by rfl) rfl ?_ ?_
           ·
            go_simp
            (try simp only [i64_w])
            try rfl
           refine hK.out _ _ ⟨v148, v151, v157, v162, v165, v169, v175, m8_, (by rw [ha.out]; exact putSel_upk 12 hb_ rfl rfl rfl), Q_HO_2, Q_BK119, Q_HB, Q_HO149, Q_HO152, Q_HO158, Q_HO163, Q_HO166, fun h0_ => absurd ((hoff 14 (by kernel_rfl)).symm.trans h0_) (by decide), fun h0_ => absurd ((hoff 24 (by kernel_rfl)).symm.trans h0_) (by decide), Q_X8_⟩
          refine steps_cons ?_ ?_
          ·
           rintro b a w' ⟨v148, v151, v157, v162, v165, v169, v175, m8_, ha, Q_HO_2, Q_BK119, Q_HB, Q_HO149, Q_HO152, Q_HO158, Q_HO163, Q_HO166, Q_HO170, Q_HO176, Q_X8_⟩ hb_ hon hoff
           refine ⟨_, rfl, fun K hK => ?_⟩
           have e45 : a.tmps[45]? = some (.bool true) := by rw [ha]; exact putSel_on (e := (12, 45, .bool true)) 12 rfl rfl (hon 12 (by kernel_rfl)) rfl
           replace ha := Aside0.mk ha
           have HO_2 := Aside0.mk Q_HO_2
           have BK119 := Aside0.mk Q_BK119
           have HB := Aside0.mk Q_HB
           have HO149 := Aside0.mk (Q_HO149 (hon 0 (by kernel_rfl)))
           have HO152 := Aside0.mk (Q_HO152 (hon 1 (by kernel_rfl)))
           have HO158 := Aside0.mk (Q_HO158 (hon 5 (by kernel_rfl)))
           have HO163 := Aside0.mk (Q_HO163 (hon 7 (by kernel_rfl)))
           have HO166 := Aside0.mk (Q_HO166 (hon 9 (by kernel_rfl)))
           refine value_ (w1 := w') (v := .agg #[.slice none 0 0, .slice none 0 0]) (wanted_on rfl rfl rfl (e45.trans (by first | rfl | (simp [*]; done)))) rfl ?_ ?_
           ·
            go_simp
            (try simp only [i64_w])
            try rfl
           refine hK.out _ _ ⟨v148, v151, v157, v162, v165, v169, v175, m8_, (by rw [ha.out]; exact putSel_upk 13 hb_ rfl rfl rfl), Q_HO_2, Q_BK119, Q_HB, Q_HO149, Q_HO152, Q_HO158, Q_HO163, Q_HO166, Q_HO170, fun h0_ => absurd ((hoff 24 (by kernel_rfl)).symm.trans h0_) (by decide), Q_X8_⟩
          refine steps_cons ?_ ?_
          ·
           rintro b a w' ⟨v148, v151, v157, v162, v165, v169, v175, m8_, ha, Q_HO_2, Q_BK119, Q_HB, Q_HO149, Q_HO152, Q_HO158, Q_HO163, Q_HO166, Q_HO170, Q_HO176, Q_X8_⟩ hb_ hon hoff
           refine ⟨_, rfl, fun K hK => ?_⟩
           have e45 : a.tmps[45]? = some (.bool true) := by rw [ha]; exact putSel_on (e := (12, 45, .bool true)) 12 rfl rfl (hon 12 (by kernel_rfl)) rfl
           replace ha := Aside0.mk ha
           have HO_2 := Aside0.mk Q_HO_2
           have BK119 := Aside0.mk Q_BK119
           have HB := Aside0.mk Q_HB
           have HO149 := Aside0.mk (Q_HO149 (hon 0 (by kernel_rfl)))
           have HO152 := Aside0.mk (Q_HO152 (hon 1 (by kernel_rfl)))
           have HO158 := Aside0.mk (Q_HO158 (hon 5 (by kernel_rfl)))
           have HO163 := Aside0.mk (Q_HO163 (hon 7 (by kernel_rfl)))
           have HO166 := Aside0.mk (Q_HO166 (hon 9 (by kernel_rfl)))
           obtain ⟨Ao107, co107, eo107⟩ := Kd.R_slice HO163.out
           (first | subst eo107 | (injection eo107 with f1_ f2_ f3_; have f4_ := f1_.symm; have f5_ := f3_.symm; clear f1_ f2_ f3_; subst f4_; subst f5_))
           obtain ⟨Ao108, co108, eo108⟩ := Kd.R_slice HO158.out
           (first | subst eo108 | (injection eo108 with f1_ f2_ f3_; have f4_ := f1_.symm; have f5_ := f3_.symm; clear f1_ f2_ f3_; subst f4_; subst f5_))
           refine Kd.R_lit_step (Kd.int .u8) _ 5 ?hg (N := 47) ?hd (xs := ([0, 0] : List Int)) (inner := [.int .u8 0, .int .u8 0]) (ok := fun _ => True) (okp := fun _ => True) ?hr ?hp (fun _ hk => hk) trivial (Below.refl _ _) (Nat.le_refl _) (by simp) ?_; (case hd => rfl); (case hg => first | rfl | exact wanted_on rfl rfl rfl (e45.trans (by first | rfl | (simp [*]; done)))); (case hr => first | (go_simp; done) | (go_simp; rfl)); (case hp => exact (Reps.one (show Kd.M (Kd.int .u8) _ _ _ 0 [.int .u8 0] from rfl) (Reps.one (show Kd.M (Kd.int .u8) _ _ _ 0 [.int .u8 0] from rfl) (Reps.none _ _))))
           intro v169 w109 ho110 hb hg_ hnew_
           clear hg_ hnew_
           (first | rw [← Ny168.out] at ho110 | (simp only [Int.reduceToNat] at ho110; rw [← Ny168.out] at ho110))
           have n0_ := Aside0.mk (Kd.R_below (by (with_reducible repeat (first | apply Kd.R_alloc | apply Kd.R_drewN | apply Kd.R_drew)); exact HO_2.out) hb)
           have n1_ := Aside0.mk (Kd.R_elder' (by (with_reducible repeat (first | apply Kd.R_alloc | apply Kd.R_drewN | apply Kd.R_drew)); exact HO149.out) (Kd.R_base ho110) hb)
           have n2_ := Aside0.mk (Kd.R_elder' (by (with_reducible repeat (first | apply Kd.R_alloc | apply Kd.R_drewN | apply Kd.R_drew)); exact HO152.out) (Kd.R_base ho110) hb)
           have n3_ := Aside0.mk (Kd.R_below (by (with_reducible repeat (first | apply Kd.R_alloc | apply Kd.R_drewN | apply Kd.R_drew)); exact HO158.out) hb)
           have n4_ := Aside0.mk (Kd.R_below (by (with_reducible repeat (first | apply Kd.R_alloc | apply Kd.R_drewN | apply Kd.R_drew)); exact HO163.out) hb)
           have n5_ := Aside0.mk (Kd.R_elder' (by (with_reducible repeat (first | apply Kd.R_alloc | apply Kd.R_drewN | apply Kd.R_drew)); exact HO166.out) (Kd.R_base ho110) hb)
           have n6_ := Aside0.mk (Kd.R_lower (Kd.R_new' (Kd.R_new' (Kd.R_new' ho110 (Kd.R_lt (by (with_reducible repeat (first | apply Kd.R_alloc | apply Kd.R_drewN | apply Kd.R_drew)); exact HO149.out))) (Kd.R_lt (by (with_reducible repeat (first | apply Kd.R_alloc | apply Kd.R_drewN | apply Kd.R_drew)); exact HO152.out))) (Kd.R_lt (by (with_reducible repeat (first | apply Kd.R_alloc | apply Kd.R_drewN | apply Kd.R_drew)); exact HO166.out))) (below_size (by repeat (first | (with_reducible first | exact HB.out | apply below_alloc | apply pw_below_drewN | apply below_drew1 | refine below_set ?_ GE119.out) | exact HB.out))))
           have n7_ := Aside0.mk (blk_below (g := gb119) (o := .cells #[.int .i64 t117, .int .i64 t118, .int .i64 0, .int .i64 0, .int .i64 1, .int .i32 97] 38 (0, 0)) (by (with_reducible repeat (first | refine blk_drewN ?_ _ | refine blk_drew ?_ | refine blk_alloc ?_ _)); exact BK119.out) hb)
           have n8_ := Aside0.mk (below_step (by repeat (first | (with_reducible first | exact HB.out | apply below_alloc | apply pw_below_drewN | apply below_drew1 | refine below_set ?_ GE119.out) | exact HB.out)) hb)
           clear HO_2
           clear HO149
           clear HO152
           clear HO158
           clear HO163
           clear HO166
           clear BK119
           clear HB
           have HO_2 := n0_
           have HO149 := n1_
           have HO152 := n2_
           have HO158 := n3_
           have HO163 := n4_
           have HO166 := n5_
           have HO170 := n6_
           have BK119 := n7_
           have HB := n8_
           clear n0_ n1_ n2_ n3_ n4_ n5_ n6_ n7_ n8_
           clear hb ho110
           refine hK.out _ _ ⟨v148, v151, .slice Ao108 y156.length co108, .slice Ao107 y161.length co107, v165, v169, v175, m8_, (by rw [ha.out]; exact putSel_upk 14 hb_ rfl rfl rfl), (by (with_reducible repeat (first | apply Kd.R_alloc | apply Kd.R_drewN | apply Kd.R_drew)); first | exact HO_2.out | exact Kd.R_mono HO_2.out (fun _ _ => trivial) | exact Kd.R_mono HO_2.out (fun _ hk => hk.1)), (by (with_reducible repeat (first | refine blk_drewN ?_ _ | refine blk_drew ?_ | refine blk_alloc ?_ _)); exact BK119.out), (by repeat (first | (with_reducible first | exact HB.out | apply below_alloc | apply pw_below_drewN | apply below_drew1 | refine below_set ?_ GE119.out) | exact HB.out)), fun _ => (by (with_reducible repeat (first | apply Kd.R_alloc | apply Kd.R_drewN | apply Kd.R_drew)); first | exact Kd.R_mono HO149.out (fun _ hk => ⟨hk.1.1, ⟨hk.1.2, hk.2⟩⟩) | exact Kd.R_mono HO149.out (fun _ _ => trivial) | exact Kd.R_mono HO149.out (fun _ hk => hk.2) | exact Kd.R_mono HO149.out (fun _ hk => hk.1)), fun _ => (by (with_reducible repeat (first | apply Kd.R_alloc | apply Kd.R_drewN | apply Kd.R_drew)); first | exact Kd.R_mono HO152.out (fun _ hk => ⟨hk.1.1, ⟨hk.1.2, hk.2⟩⟩) | exact Kd.R_mono HO152.out (fun _ _ => trivial) | exact Kd.R_mono HO152.out (fun _ hk => hk.2) | exact Kd.R_mono HO152.out (fun _ hk => hk.1)), fun _ => (by (with_reducible repeat (first | apply Kd.R_alloc | apply Kd.R_drewN | apply Kd.R_drew)); first | exact HO158.out | exact Kd.R_mono HO158.out (fun _ _ => trivial) | exact Kd.R_mono HO158.out (fun _ hk => hk.1)), fun _ => (by (with_reducible repeat (first | apply Kd.R_alloc | apply Kd.R_drewN | apply Kd.R_drew)); first | exact HO163.out | exact Kd.R_mono HO163.out (fun _ _ => trivial) | exact Kd.R_mono HO163.out (fun _ hk => hk.1)), fun _ => (by (with_reducible repeat (first | apply Kd.R_alloc | apply Kd.R_drewN | apply Kd.R_drew)); first | exact Kd.R_mono HO166.out (fun _ hk => ⟨hk.1.1, ⟨hk.1.2, hk.2⟩⟩) | exact Kd.R_mono HO166.out (fun _ _ => trivial) | exact Kd.R_mono HO166.out (fun _ hk => hk.2) | exact Kd.R_mono HO166.out (fun _ hk => hk.1)), fun _ => (by (with_reducible repeat (first | apply Kd.R_alloc | apply Kd.R_drewN | apply Kd.R_drew)); first | exact Kd.R_mono HO170.out (fun _ hk => ⟨hk.1.1.2, ⟨hk.1.2, hk.2⟩⟩) | exact Kd.R_mono HO170.out (fun _ _ => trivial) | exact Kd.R_mono HO170.out (fun _ hk => hk.2) | exact Kd.R_mono HO170.out (fun _ hk => hk.1)), fun h0_ => absurd ((hoff 24 (by kernel_rfl)).symm.trans h0_) (by decide), Q_X8_⟩
          refine steps_cons ?_ ?_
          ·
           rintro b a w' ⟨v148, v151, v157, v162, v165, v169, v175, m8_, ha, Q_HO_2, Q_BK119, Q_HB, Q_HO149, Q_HO152, Q_HO158, Q_HO163, Q_HO166, Q_HO170, Q_HO176, Q_X8_⟩ hb_ hon hoff
           refine ⟨_, rfl, fun K hK => ?_⟩
           have e46 : a.tmps[46]? = some (.agg #[.slice none 0 0, .slice none 0 0]) := by rw [ha]; exact putSel_on (e := (13, 46, .agg #[.slice none 0 0, .slice none 0 0])) 13 rfl rfl (hon 13 (by kernel_rfl)) rfl
           have e47 : a.tmps[47]? = some (v169) := by rw [ha]; exact putSel_on (e := (14, 47, v169)) 14 rfl rfl (hon 14 (by kernel_rfl)) rfl
           have e45 : a.tmps[45]? = some (.bool true) := by rw [ha]; exact putSel_on (e := (12, 45, .bool true)) 12 rfl rfl (hon 12 (by kernel_rfl)) rfl
           replace ha := Aside0.mk ha
           have HO_2 := Aside0.mk Q_HO_2
           have BK119 := Aside0.mk Q_BK119
           have HB := Aside0.mk Q_HB
           have HO149 := Aside0.mk (Q_HO149 (hon 0 (by kernel_rfl)))
           have HO152 := Aside0.mk (Q_HO152 (hon 1 (by kernel_rfl)))
           have HO158 := Aside0.mk (Q_HO158 (hon 5 (by kernel_rfl)))
           have HO163 := Aside0.mk (Q_HO163 (hon 7 (by kernel_rfl)))
           have HO166 := Aside0.mk (Q_HO166 (hon 9 (by kernel_rfl)))
           have HO170 := Aside0.mk (Q_HO170 (hon 14 (by kernel_rfl)))
           obtain ⟨Ao109, co109, eo109⟩ := Kd.R_slice HO163.out
           (first | subst eo109 | (injection eo109 with f1_ f2_ f3_; have f4_ := f1_.symm; have f5_ := f3_.symm; clear f1_ f2_ f3_; subst f4_; subst f5_))
           obtain ⟨Ao110, co110, eo110⟩ := Kd.R_slice HO158.out
           (first | subst eo110 | (injection eo110 with f1_ f2_ f3_; have f4_ := f1_.symm; have f5_ := f3_.symm; clear f1_ f2_ f3_; subst f4_; subst f5_))
           obtain ⟨Ao111, co111, eo111⟩ := Kd.R_slice HO170.out
           (first | subst eo111 | (injection eo111 with f1_ f2_ f3_; have f4_ := f1_.symm; have f5_ := f3_.symm; clear f1_ f2_ f3_; subst f4_; subst f5_))
           refine goes_ Try.func19 (by kernel_rfl) rfl #[.agg #[.slice none 0 0, .slice none 0 0], .slice Ao111 y168.length co111, .int .i64 0] (by first | rfl | exact wanted_on rfl rfl rfl (e45.trans (by first | rfl | (simp [*]; done)))) rfl rfl (by first | (simp only [List.map_toArray, List.map_cons, List.map_nil, Act.eval, Array.getD_eq_getD_getElem?, Option.getD_some, e46, e47, e45]; done) | (simp only [List.map_toArray, List.map_cons, List.map_nil, Act.eval, Array.getD_eq_getD_getElem?, Option.getD_some, e46, e47, e45]; rfl)) ?_
           refine (redpencillaw17_contexts.calls _ _ ([] : List (S36)) _ _ ([] : List (S36)) _ _ y168 0 true _ ?side1 ?side2 ?side3 ?side4 ?side5 ?side6 A81.out).mono ?_
           (case side1 => exact Kd.C_nil _ _)
           (case side2 => exact Nat.le_refl _)
           (case side3 => exact Kd.C_nil _ _)
           (case side4 => exact Nat.le_refl _)
           (case side5 => repeat (first | exact (Kd.R_reads' HO170.out).2.2 | (with_reducible refine Kd.C_alloc ?_ _) | (with_reducible refine Kd.C_drewN ?_ _) | (with_reducible refine Kd.C_drew ?_)))
           (case side6 => exact (Kd.R_reads' HO170.out).2.1)
           rintro e w112 ⟨rfl, hb⟩
           refine ⟨_, rfl, ?_⟩
           have n0_ := Aside0.mk (Kd.R_below (by (with_reducible repeat (first | apply Kd.R_alloc | apply Kd.R_drewN | apply Kd.R_drew)); exact HO_2.out) hb)
           have n1_ := Aside0.mk (Kd.R_below (by (with_reducible repeat (first | apply Kd.R_alloc | apply Kd.R_drewN | apply Kd.R_drew)); exact HO149.out) hb)
           have n2_ := Aside0.mk (Kd.R_below (by (with_reducible repeat (first | apply Kd.R_alloc | apply Kd.R_drewN | apply Kd.R_drew)); exact HO152.out) hb)
           have n3_ := Aside0.mk (Kd.R_below (by (with_reducible repeat (first | apply Kd.R_alloc | apply Kd.R_drewN | apply Kd.R_drew)); exact HO158.out) hb)
           have n4_ := Aside0.mk (Kd.R_below (by (with_reducible repeat (first | apply Kd.R_alloc | apply Kd.R_drewN | apply Kd.R_drew)); exact HO163.out) hb)
           have n5_ := Aside0.mk (Kd.R_below (by (with_reducible repeat (first | apply Kd.R_alloc | apply Kd.R_drewN | apply Kd.R_drew)); exact HO166.out) hb)
           have n6_ := Aside0.mk (Kd.R_below (by (with_reducible repeat (first | apply Kd.R_alloc | apply Kd.R_drewN | apply Kd.R_drew)); exact HO170.out) hb)
           have n7_ := Aside0.mk (blk_below (g := gb119) (o := .cells #[.int .i64 t117, .int .i64 t118, .int .i64 0, .int .i64 0, .int .i64 1, .int .i32 97] 38 (0, 0)) (by (with_reducible repeat (first | refine blk_drewN ?_ _ | refine blk_drew ?_ | refine blk_alloc ?_ _)); exact BK119.out) hb)
           have n8_ := Aside0.mk (below_step (by repeat (first | (with_reducible first | exact HB.out | apply below_alloc | apply pw_below_drewN | apply below_drew1 | refine below_set ?_ GE119.out) | exact HB.out)) hb)
           clear HO_2
           clear HO149
           clear HO152
           clear HO158
           clear HO163
           clear HO166
           clear HO170
           clear BK119
           clear HB
           have HO_2 := n0_
           have HO149 := n1_
           have HO152 := n2_
           have HO158 := n3_
           have HO163 := n4_
           have HO166 := n5_
           have HO170 := n6_
           have BK119 := n7_
           have HB := n8_
           clear n0_ n1_ n2_ n3_ n4_ n5_ n6_ n7_ n8_
           (try clear hb)
           (try clear hb2)
           (try clear hk)
           (try clear hi)
           refine hK.out _ _ ⟨v148, v151, .slice Ao110 y156.length co110, .slice Ao109 y161.length co109, v165, .slice Ao111 y168.length co111, v175, m8_, (by rw [ha.out]; exact putSel_upk 15 hb_ rfl rfl rfl), (by (with_reducible repeat (first | apply Kd.R_alloc | apply Kd.R_drewN | apply Kd.R_drew)); first | exact HO_2.out | exact Kd.R_mono HO_2.out (fun _ _ => trivial) | exact Kd.R_mono HO_2.out (fun _ hk => hk.1)), (by (with_reducible repeat (first | refine blk_drewN ?_ _ | refine blk_drew ?_ | refine blk_alloc ?_ _)); exact BK119.out), (by repeat (first | (with_reducible first | exact HB.out | apply below_alloc | apply pw_below_drewN | apply below_drew1 | refine below_set ?_ GE119.out) | exact HB.out)), fun _ => (by (with_reducible repeat (first | apply Kd.R_alloc | apply Kd.R_drewN | apply Kd.R_drew)); first | exact HO149.out | exact Kd.R_mono HO149.out (fun _ _ => trivial) | exact Kd.R_mono HO149.out (fun _ hk => hk.1)), fun _ => (by (with_reducible repeat (first | apply Kd.R_alloc | apply Kd.R_drewN | apply Kd.R_drew)); first | exact HO152.out | exact Kd.R_mono HO152.out (fun _ _ => trivial) | exact Kd.R_mono HO152.out (fun _ hk => hk.1)), fun _ => (by (with_reducible repeat (first | apply Kd.R_alloc | apply Kd.R_drewN | apply Kd.R_drew)); first | exact HO158.out | exact Kd.R_mono HO158.out (fun _ _ => trivial) | exact Kd.R_mono HO158.out (fun _ hk => hk.1)), fun _ => (by (with_reducible repeat (first | apply Kd.R_alloc | apply Kd.R_drewN | apply Kd.R_drew)); first | exact HO163.out | exact Kd.R_mono HO163.out (fun _ _ => trivial) | exact Kd.R_mono HO163.out (fun _ hk => hk.1)), fun _ => (by (with_reducible repeat (first | apply Kd.R_alloc | apply Kd.R_drewN | apply Kd.R_drew)); first | exact HO166.out | exact Kd.R_mono HO166.out (fun _ _ => trivial) | exact Kd.R_mono HO166.out (fun _ hk => hk.1)), fun _ => (by (with_reducible repeat (first | apply Kd.R_alloc | apply Kd.R_drewN | apply Kd.R_drew)); first | exact HO170.out | exact Kd.R_mono HO170.out (fun _ _ => trivial) | exact Kd.R_mono HO170.out (fun _ hk => hk.1)), fun h0_ => absurd ((hoff 24 (by kernel_rfl)).symm.trans h0_) (by decide), Q_X8_⟩
          refine steps_cons ?_ ?_
          ·
           rintro b a w' ⟨v148, v151, v157, v162, v165, v169, v175, m8_, ha, Q_HO_2, Q_BK119, Q_HB, Q_HO149, Q_HO152, Q_HO158, Q_HO163, Q_HO166, Q_HO170, Q_HO176, Q_X8_⟩ hb_ hon hoff
           refine ⟨_, rfl, fun K hK => ?_⟩
           have e45 : a.tmps[45]? = some (.bool true) := by rw [ha]; exact putSel_on (e := (12, 45, .bool true)) 12 rfl rfl (hon 12 (by kernel_rfl)) rfl
           have e48 : a.tmps[48]? = some (.bool true) := by rw [ha]; exact putSel_on (e := (15, 48, .bool true)) 15 rfl rfl (hon 15 (by kernel_rfl)) rfl
           replace ha := Aside0.mk ha
           have HO_2 := Aside0.mk Q_HO_2
           have BK119 := Aside0.mk Q_BK119
           have HB := Aside0.mk Q_HB
           have HO149 := Aside0.mk (Q_HO149 (hon 0 (by kernel_rfl)))
           have HO152 := Aside0.mk (Q_HO152 (hon 1 (by kernel_rfl)))
           have HO158 := Aside0.mk (Q_HO158 (hon 5 (by kernel_rfl)))
           have HO163 := Aside0.mk (Q_HO163 (hon 7 (by kernel_rfl)))
           have HO166 := Aside0.mk (Q_HO166 (hon 9 (by kernel_rfl)))
           have HO170 := Aside0.mk (Q_HO170 (hon 14 (by kernel_rfl)))
           refine value_ (w1 := w') (v := .bool true) (by rfl) rfl ?_ ?_
           ·
            go_simp
            (try simp only [i64_w])
            try rfl
           refine hK.out _ _ ⟨v148, v151, v157, v162, v165, v169, v175, m8_, (by rw [ha.out]; exact putSel_upk 16 hb_ rfl rfl rfl), Q_HO_2, Q_BK119, Q_HB, Q_HO149, Q_HO152, Q_HO158, Q_HO163, Q_HO166, Q_HO170, fun h0_ => absurd ((hoff 24 (by kernel_rfl)).symm.trans h0_) (by decide), Q_X8_⟩
          refine steps_cons ?_ ?_
          ·
           rintro b a w' ⟨v148, v151, v157, v162, v165, v169, v175, m8_, ha, Q_HO_2, Q_BK119, Q_HB, Q_HO149, Q_HO152, Q_HO158, Q_HO163, Q_HO166, Q_HO170, Q_HO176, Q_X8_⟩ hb_ hon hoff
           refine ⟨_, rfl, fun K hK => ?_⟩
           have e49 : a.tmps[49]? = some (.bool true) := by rw [ha]; exact putSel_on (e := (16, 49, .bool true)) 16 rfl rfl (hon 16 (by kernel_rfl)) rfl
           replace ha := Aside0.mk ha
           have HO_2 := Aside0.mk Q_HO_2
           have BK119 := Aside0.mk Q_BK119
           have HB := Aside0.mk Q_HB
           have HO149 := Aside0.mk (Q_HO149 (hon 0 (by kernel_rfl)))
           have HO152 := Aside0.mk (Q_HO152 (hon 1 (by kernel_rfl)))
           have HO158 := Aside0.mk (Q_HO158 (hon 5 (by kernel_rfl)))
           have HO163 := Aside0.mk (Q_HO163 (hon 7 (by kernel_rfl)))
           have HO166 := Aside0.mk (Q_HO166 (hon 9 (by kernel_rfl)))
           have HO170 := Aside0.mk (Q_HO170 (hon 14 (by kernel_rfl)))
           refine value_ (w1 := w') (v := .bool true) (by rfl) rfl ?_ ?_
           ·
            go_simp
            (try simp only [i64_w])
            try rfl
           refine hK.out _ _ ⟨v148, v151, v157, v162, v165, v169, v175, m8_, (by rw [ha.out]; exact putSel_upk 17 hb_ rfl rfl rfl), Q_HO_2, Q_BK119, Q_HB, Q_HO149, Q_HO152, Q_HO158, Q_HO163, Q_HO166, Q_HO170, fun h0_ => absurd ((hoff 24 (by kernel_rfl)).symm.trans h0_) (by decide), Q_X8_⟩
          refine steps_cons ?_ ?_
          ·
           rintro b a w' ⟨v148, v151, v157, v162, v165, v169, v175, m8_, ha, Q_HO_2, Q_BK119, Q_HB, Q_HO149, Q_HO152, Q_HO158, Q_HO163, Q_HO166, Q_HO170, Q_HO176, Q_X8_⟩ hb_ hon hoff
           refine ⟨_, rfl, fun K hK => ?_⟩
           have e2 : a.tmps[2]? = some (.slice (some ad172) y128.length co117) := by rw [ha]; exact (putSel_off rfl).trans rfl
           have e50 : a.tmps[50]? = some (.bool true) := by rw [ha]; exact putSel_on (e := (17, 50, .bool true)) 17 rfl rfl (hon 17 (by kernel_rfl)) rfl
           replace ha := Aside0.mk ha
           have HO_2 := Aside0.mk Q_HO_2
           have BK119 := Aside0.mk Q_BK119
           have HB := Aside0.mk Q_HB
           have HO149 := Aside0.mk (Q_HO149 (hon 0 (by kernel_rfl)))
           have HO152 := Aside0.mk (Q_HO152 (hon 1 (by kernel_rfl)))
           have HO158 := Aside0.mk (Q_HO158 (hon 5 (by kernel_rfl)))
           have HO163 := Aside0.mk (Q_HO163 (hon 7 (by kernel_rfl)))
           have HO166 := Aside0.mk (Q_HO166 (hon 9 (by kernel_rfl)))
           have HO170 := Aside0.mk (Q_HO170 (hon 14 (by kernel_rfl)))
           refine value_ (w1 := w') (v := .slice (some ad172) y128.length co117) (wanted_on rfl rfl rfl (e50.trans (by first | rfl | (simp [*]; done)))) rfl ?_ ?_
           ·
            go_simp
            (try simp only [i64_w])
            try rfl
           refine hK.out _ _ ⟨v148, v151, v157, v162, v165, v169, v175, m8_, (by rw [ha.out]; exact putSel_upk 18 hb_ rfl rfl rfl), Q_HO_2, Q_BK119, Q_HB, Q_HO149, Q_HO152, Q_HO158, Q_HO163, Q_HO166, Q_HO170, fun h0_ => absurd ((hoff 24 (by kernel_rfl)).symm.trans h0_) (by decide), Q_X8_⟩
          refine steps_cons ?_ ?_
          ·
           rintro b a w' ⟨v148, v151, v157, v162, v165, v169, v175, m8_, ha, Q_HO_2, Q_BK119, Q_HB, Q_HO149, Q_HO152, Q_HO158, Q_HO163, Q_HO166, Q_HO170, Q_HO176, Q_X8_⟩ hb_ hon hoff
           refine ⟨_, rfl, fun K hK => ?_⟩
           have e51 : a.tmps[51]? = some (.slice (some ad172) y128.length co117) := by rw [ha]; exact putSel_on (e := (18, 51, .slice (some ad172) y128.length co117)) 18 rfl rfl (hon 18 (by kernel_rfl)) rfl
           have e50 : a.tmps[50]? = some (.bool true) := by rw [ha]; exact putSel_on (e := (17, 50, .bool true)) 17 rfl rfl (hon 17 (by kernel_rfl)) rfl
           replace ha := Aside0.mk ha
           have HO_2 := Aside0.mk Q_HO_2
           have BK119 := Aside0.mk Q_BK119
           have HB := Aside0.mk Q_HB
           have HO149 := Aside0.mk (Q_HO149 (hon 0 (by kernel_rfl)))
           have HO152 := Aside0.mk (Q_HO152 (hon 1 (by kernel_rfl)))
           have HO158 := Aside0.mk (Q_HO158 (hon 5 (by kernel_rfl)))
           have HO163 := Aside0.mk (Q_HO163 (hon 7 (by kernel_rfl)))
           have HO166 := Aside0.mk (Q_HO166 (hon 9 (by kernel_rfl)))
           have HO170 := Aside0.mk (Q_HO170 (hon 14 (by kernel_rfl)))
           refine value_ (w1 := w') (v := .pointer (some (ad172.add 6))) (wanted_on rfl rfl rfl (e50.trans (by first | rfl | (simp [*]; done)))) rfl ?_ ?_
           ·
            go_simp
            (try simp only [i64_w])
            try rfl
           refine hK.out _ _ ⟨v148, v151, v157, v162, v165, v169, v175, m8_, (by rw [ha.out]; exact putSel_upk 19 hb_ rfl rfl rfl), Q_HO_2, Q_BK119, Q_HB, Q_HO149, Q_HO152, Q_HO158, Q_HO163, Q_HO166, Q_HO170, fun h0_ => absurd ((hoff 24 (by kernel_rfl)).symm.trans h0_) (by decide), Q_X8_⟩
          refine steps_cons ?_ ?_
          ·
           rintro b a w' ⟨v148, v151, v157, v162, v165, v169, v175, m8_, ha, Q_HO_2, Q_BK119, Q_HB, Q_HO149, Q_HO152, Q_HO158, Q_HO163, Q_HO166, Q_HO170, Q_HO176, Q_X8_⟩ hb_ hon hoff
           refine ⟨_, rfl, fun K hK => ?_⟩
           have e52 : a.tmps[52]? = some (.pointer (some (ad172.add 6))) := by rw [ha]; exact putSel_on (e := (19, 52, .pointer (some (ad172.add 6)))) 19 rfl rfl (hon 19 (by kernel_rfl)) rfl
           have e50 : a.tmps[50]? = some (.bool true) := by rw [ha]; exact putSel_on (e := (17, 50, .bool true)) 17 rfl rfl (hon 17 (by kernel_rfl)) rfl
           replace ha := Aside0.mk ha
           have HO_2 := Aside0.mk Q_HO_2
           have BK119 := Aside0.mk Q_BK119
           have HB := Aside0.mk Q_HB
           have HO149 := Aside0.mk (Q_HO149 (hon 0 (by kernel_rfl)))
           have HO152 := Aside0.mk (Q_HO152 (hon 1 (by kernel_rfl)))
           have HO158 := Aside0.mk (Q_HO158 (hon 5 (by kernel_rfl)))
           have HO163 := Aside0.mk (Q_HO163 (hon 7 (by kernel_rfl)))
           have HO166 := Aside0.mk (Q_HO166 (hon 9 (by kernel_rfl)))
           have HO170 := Aside0.mk (Q_HO170 (hon 14 (by kernel_rfl)))
           obtain ⟨ad172_z, e172_z, hx172_0_z, hx172_1_z, hx172_2_z, hx172_3_z, hx172_4_z, hx172_5_z⟩ := at_T38 (Kd.R_reads' HO_2.out).2.2 1 (of_eq_true p172) (of_eq_true q172)
           cases e172_z
           have hs0_ : w'.cell? ⟨ad172.block, ad172.off + 6, none⟩ = some (.int .i64 ((rd_T38 y128 1).f0.f0)) := (by first | exact hx172_0_z | (have h_ := hx172_0_z; (try simp only [Int.reduceToNat, Nat.zero_mul, Nat.reduceMul, Nat.reduceEqDiff, Go.Addr.add, ↓reduceIte, Addr.add_zero'] at h_); exact h_))
           have hs1_ : w'.cell? ⟨ad172.block, ad172.off + 6 + 1, none⟩ = some (.int .i64 ((rd_T38 y128 1).f0.f1)) := (by first | exact hx172_1_z | (have h_ := hx172_1_z; (try simp only [Int.reduceToNat, Nat.zero_mul, Nat.reduceMul, Nat.reduceEqDiff, Go.Addr.add, ↓reduceIte, Addr.add_zero'] at h_); exact h_))
           have hs2_ : w'.cell? ⟨ad172.block, ad172.off + 6 + 2, none⟩ = some (.int .i64 ((rd_T38 y128 1).f1.f0)) := (by first | exact hx172_2_z | (have h_ := hx172_2_z; (try simp only [Int.reduceToNat, Nat.zero_mul, Nat.reduceMul, Nat.reduceEqDiff, Go.Addr.add, ↓reduceIte, Addr.add_zero'] at h_); exact h_))
           have hs3_ : w'.cell? ⟨ad172.block, ad172.off + 6 + 3, none⟩ = some (.int .i64 ((rd_T38 y128 1).f1.f1)) := (by first | exact hx172_3_z | (have h_ := hx172_3_z; (try simp only [Int.reduceToNat, Nat.zero_mul, Nat.reduceMul, Nat.reduceEqDiff, Go.Addr.add, ↓reduceIte, Addr.add_zero'] at h_); exact h_))
           have hs4_ : w'.cell? ⟨ad172.block, ad172.off + 6 + 4, none⟩ = some (.int .i64 ((rd_T38 y128 1).f2)) := (by first | exact hx172_4_z | (have h_ := hx172_4_z; (try simp only [Int.reduceToNat, Nat.zero_mul, Nat.reduceMul, Nat.reduceEqDiff, Go.Addr.add, ↓reduceIte, Addr.add_zero'] at h_); exact h_))
           have hs5_ : w'.cell? ⟨ad172.block, ad172.off + 6 + 5, none⟩ = some (.int .i32 ((rd_T38 y128 1).f3)) := (by first | exact hx172_5_z | (have h_ := hx172_5_z; (try simp only [Int.reduceToNat, Nat.zero_mul, Nat.reduceMul, Nat.reduceEqDiff, Go.Addr.add, ↓reduceIte, Addr.add_zero'] at h_); exact h_))
           refine value_ (w1 := w') (v := .agg #[.int .i64 ((rd_T38 y128 1).f0.f0), .int .i64 ((rd_T38 y128 1).f0.f1), .int .i64 ((rd_T38 y128 1).f1.f0), .int .i64 ((rd_T38 y128 1).f1.f1), .int .i64 ((rd_T38 y128 1).f2), .int .i32 ((rd_T38 y128 1).f3)]) (wanted_on rfl rfl rfl (e50.trans (by first | rfl | (simp [*]; done)))) rfl ?_ ?_
           ·
            go_simp
            (try simp only [i64_w])
            try rfl
           refine hK.out _ _ ⟨v148, v151, v157, v162, v165, v169, v175, m8_, (by rw [ha.out]; exact putSel_upk 20 hb_ rfl rfl rfl), Q_HO_2, Q_BK119, Q_HB, Q_HO149, Q_HO152, Q_HO158, Q_HO163, Q_HO166, Q_HO170, fun h0_ => absurd ((hoff 24 (by kernel_rfl)).symm.trans h0_) (by decide), Q_X8_⟩
          refine steps_cons ?_ ?_
          ·
           rintro b a w' ⟨v148, v151, v157, v162, v165, v169, v175, m8_, ha, Q_HO_2, Q_BK119, Q_HB, Q_HO149, Q_HO152, Q_HO158, Q_HO163, Q_HO166, Q_HO170, Q_HO176, Q_X8_⟩ hb_ hon hoff
           refine ⟨_, rfl, fun K hK => ?_⟩
           have e2 : a.tmps[2]? = some (.slice (some ad172) y128.length co117) := by rw [ha]; exact (putSel_off rfl).trans rfl
           have e50 : a.tmps[50]? = some (.bool true) := by rw [ha]; exact putSel_on (e := (17, 50, .bool true)) 17 rfl rfl (hon 17 (by kernel_rfl)) rfl
           replace ha := Aside0.mk ha
           have HO_2 := Aside0.mk Q_HO_2
           have BK119 := Aside0.mk Q_BK119
           have HB := Aside0.mk Q_HB
           have HO149 := Aside0.mk (Q_HO149 (hon 0 (by kernel_rfl)))
           have HO152 := Aside0.mk (Q_HO152 (hon 1 (by kernel_rfl)))
           have HO158 := Aside0.mk (Q_HO158 (hon 5 (by kernel_rfl)))
           have HO163 := Aside0.mk (Q_HO163 (hon 7 (by kernel_rfl)))
           have HO166 := Aside0.mk (Q_HO166 (hon 9 (by kernel_rfl)))
           have HO170 := Aside0.mk (Q_HO170 (hon 14 (by kernel_rfl)))
           refine value_ (w1 := w') (v := .slice (some ad172) y128.length co117) (wanted_on rfl rfl rfl (e50.trans (by first | rfl | (simp [*]; done)))) rfl ?_ ?_
           ·
            go_simp
            (try simp only [i64_w])
            try rfl
           refine hK.out _ _ ⟨v148, v151, v157, v162, v165, v169, v175, m8_, (by rw [ha.out]; exact putSel_upk 21 hb_ rfl rfl rfl), Q_HO_2, Q_BK119, Q_HB, Q_HO149, Q_HO152, Q_HO158, Q_HO163, Q_HO166, Q_HO170, fun h0_ => absurd ((hoff 24 (by kernel_rfl)).symm.trans h0_) (by decide), Q_X8_⟩
          refine steps_cons ?_ ?_
          ·
           rintro b a w' ⟨v148, v151, v157, v162, v165, v169, v175, m8_, ha, Q_HO_2, Q_BK119, Q_HB, Q_HO149, Q_HO152, Q_HO158, Q_HO163, Q_HO166, Q_HO170, Q_HO176, Q_X8_⟩ hb_ hon hoff
           refine ⟨_, rfl, fun K hK => ?_⟩
           have e54 : a.tmps[54]? = some (.slice (some ad172) y128.length co117) := by rw [ha]; exact putSel_on (e := (21, 54, .slice (some ad172) y128.length co117)) 21 rfl rfl (hon 21 (by kernel_rfl)) rfl
           have e50 : a.tmps[50]? = some (.bool true) := by rw [ha]; exact putSel_on (e := (17, 50, .bool true)) 17 rfl rfl (hon 17 (by kernel_rfl)) rfl
           replace ha := Aside0.mk ha
           have HO_2 := Aside0.mk Q_HO_2
           have BK119 := Aside0.mk Q_BK119
           have HB := Aside0.mk Q_HB
           have HO149 := Aside0.mk (Q_HO149 (hon 0 (by kernel_rfl)))
           have HO152 := Aside0.mk (Q_HO152 (hon 1 (by kernel_rfl)))
           have HO158 := Aside0.mk (Q_HO158 (hon 5 (by kernel_rfl)))
           have HO163 := Aside0.mk (Q_HO163 (hon 7 (by kernel_rfl)))
           have HO166 := Aside0.mk (Q_HO166 (hon 9 (by kernel_rfl)))
           have HO170 := Aside0.mk (Q_HO170 (hon 14 (by kernel_rfl)))
           refine value_ (w1 := w') (v := .pointer (some ad172)) (wanted_on rfl rfl rfl (e50.trans (by first | rfl | (simp [*]; done)))) rfl ?_ ?_
           ·
            go_simp
            (try simp only [i64_w])
            try rfl
           refine hK.out _ _ ⟨v148, v151, v157, v162, v165, v169, v175, m8_, (by rw [ha.out]; exact putSel_upk 22 hb_ rfl rfl rfl), Q_HO_2, Q_BK119, Q_HB, Q_HO149, Q_HO152, Q_HO158, Q_HO163, Q_HO166, Q_HO170, fun h0_ => absurd ((hoff 24 (by kernel_rfl)).symm.trans h0_) (by decide), Q_X8_⟩
          refine steps_cons ?_ ?_
          ·
           rintro b a w' ⟨v148, v151, v157, v162, v165, v169, v175, m8_, ha, Q_HO_2, Q_BK119, Q_HB, Q_HO149, Q_HO152, Q_HO158, Q_HO163, Q_HO166, Q_HO170, Q_HO176, Q_X8_⟩ hb_ hon hoff
           refine ⟨_, rfl, fun K hK => ?_⟩
           have e55 : a.tmps[55]? = some (.pointer (some ad172)) := by rw [ha]; exact putSel_on (e := (22, 55, .pointer (some ad172))) 22 rfl rfl (hon 22 (by kernel_rfl)) rfl
           have e50 : a.tmps[50]? = some (.bool true) := by rw [ha]; exact putSel_on (e := (17, 50, .bool true)) 17 rfl rfl (hon 17 (by kernel_rfl)) rfl
           replace ha := Aside0.mk ha
           have HO_2 := Aside0.mk Q_HO_2
           have BK119 := Aside0.mk Q_BK119
           have HB := Aside0.mk Q_HB
           have HO149 := Aside0.mk (Q_HO149 (hon 0 (by kernel_rfl)))
           have HO152 := Aside0.mk (Q_HO152 (hon 1 (by kernel_rfl)))
           have HO158 := Aside0.mk (Q_HO158 (hon 5 (by kernel_rfl)))
           have HO163 := Aside0.mk (Q_HO163 (hon 7 (by kernel_rfl)))
           have HO166 := Aside0.mk (Q_HO166 (hon 9 (by kernel_rfl)))
           have HO170 := Aside0.mk (Q_HO170 (hon 14 (by kernel_rfl)))
           obtain ⟨ad173_z, e173_z, hx173_0_z, hx173_1_z, hx173_2_z, hx173_3_z, hx173_4_z, hx173_5_z⟩ := at_T38 (Kd.R_reads' HO_2.out).2.2 0 (of_eq_true p173) (of_eq_true q173)
           cases e173_z
           have hs6_ : w'.cell? ad172 = some (.int .i64 ((rd_T38 y128 0).f0.f0)) := (by first | exact hx173_0_z | (have h_ := hx173_0_z; (try simp only [Int.reduceToNat, Nat.zero_mul, Nat.reduceMul, Nat.reduceEqDiff, Go.Addr.add, ↓reduceIte, Addr.add_zero'] at h_); exact h_))
           have hs7_ : w'.cell? ⟨ad172.block, ad172.off + 1, none⟩ = some (.int .i64 ((rd_T38 y128 0).f0.f1)) := (by first | exact hx173_1_z | (have h_ := hx173_1_z; (try simp only [Int.reduceToNat, Nat.zero_mul, Nat.reduceMul, Nat.reduceEqDiff, Go.Addr.add, ↓reduceIte, Addr.add_zero'] at h_); exact h_))
           have hs8_ : w'.cell? ⟨ad172.block, ad172.off + 2, none⟩ = some (.int .i64 ((rd_T38 y128 0).f1.f0)) := (by first | exact hx173_2_z | (have h_ := hx173_2_z; (try simp only [Int.reduceToNat, Nat.zero_mul, Nat.reduceMul, Nat.reduceEqDiff, Go.Addr.add, ↓reduceIte, Addr.add_zero'] at h_); exact h_))
           have hs9_ : w'.cell? ⟨ad172.block, ad172.off + 3, none⟩ = some (.int .i64 ((rd_T38 y128 0).f1.f1)) := (by first | exact hx173_3_z | (have h_ := hx173_3_z; (try simp only [Int.reduceToNat, Nat.zero_mul, Nat.reduceMul, Nat.reduceEqDiff, Go.Addr.add, ↓reduceIte, Addr.add_zero'] at h_); exact h_))
           have hs10_ : w'.cell? ⟨ad172.block, ad172.off + 4, none⟩ = some (.int .i64 ((rd_T38 y128 0).f2)) := (by first | exact hx173_4_z | (have h_ := hx173_4_z; (try simp only [Int.reduceToNat, Nat.zero_mul, Nat.reduceMul, Nat.reduceEqDiff, Go.Addr.add, ↓reduceIte, Addr.add_zero'] at h_); exact h_))
           have hs11_ : w'.cell? ⟨ad172.block, ad172.off + 5, none⟩ = some (.int .i32 ((rd_T38 y128 0).f3)) := (by first | exact hx173_5_z | (have h_ := hx173_5_z; (try simp only [Int.reduceToNat, Nat.zero_mul, Nat.reduceMul, Nat.reduceEqDiff, Go.Addr.add, ↓reduceIte, Addr.add_zero'] at h_); exact h_))
           refine value_ (w1 := w') (v := .agg #[.int .i64 ((rd_T38 y128 0).f0.f0), .int .i64 ((rd_T38 y128 0).f0.f1), .int .i64 ((rd_T38 y128 0).f1.f0), .int .i64 ((rd_T38 y128 0).f1.f1), .int .i64 ((rd_T38 y128 0).f2), .int .i32 ((rd_T38 y128 0).f3)]) (wanted_on rfl rfl rfl (e50.trans (by first | rfl | (simp [*]; done)))) rfl ?_ ?_
           ·
            go_simp
            (try simp only [i64_w])
            try rfl
           refine hK.out _ _ ⟨v148, v151, v157, v162, v165, v169, v175, m8_, (by rw [ha.out]; exact putSel_upk 23 hb_ rfl rfl rfl), Q_HO_2, Q_BK119, Q_HB, Q_HO149, Q_HO152, Q_HO158, Q_HO163, Q_HO166, Q_HO170, fun h0_ => absurd ((hoff 24 (by kernel_rfl)).symm.trans h0_) (by decide), Q_X8_⟩
          refine steps_cons ?_ ?_
          ·
           rintro b a w' ⟨v148, v151, v157, v162, v165, v169, v175, m8_, ha, Q_HO_2, Q_BK119, Q_HB, Q_HO149, Q_HO152, Q_HO158, Q_HO163, Q_HO166, Q_HO170, Q_HO176, Q_X8_⟩ hb_ hon hoff
           refine ⟨_, rfl, fun K hK => ?_⟩
           have e53 : a.tmps[53]? = some (.agg #[.int .i64 ((rd_T38 y128 1).f0.f0), .int .i64 ((rd_T38 y128 1).f0.f1), .int .i64 ((rd_T38 y128 1).f1.f0), .int .i64 ((rd_T38 y128 1).f1.f1), .int .i64 ((rd_T38 y128 1).f2), .int .i32 ((rd_T38 y128 1).f3)]) := by rw [ha]; exact putSel_on (e := (20, 53, .agg #[.int .i64 ((rd_T38 y128 1).f0.f0), .int .i64 ((rd_T38 y128 1).f0.f1), .int .i64 ((rd_T38 y128 1).f1.f0), .int .i64 ((rd_T38 y128 1).f1.f1), .int .i64 ((rd_T38 y128 1).f2), .int .i32 ((rd_T38 y128 1).f3)])) 20 rfl rfl (hon 20 (by kernel_rfl)) rfl
           have e56 : a.tmps[56]? = some (.agg #[.int .i64 ((rd_T38 y128 0).f0.f0), .int .i64 ((rd_T38 y128 0).f0.f1), .int .i64 ((rd_T38 y128 0).f1.f0), .int .i64 ((rd_T38 y128 0).f1.f1), .int .i64 ((rd_T38 y128 0).f2), .int .i32 ((rd_T38 y128 0).f3)]) := by rw [ha]; exact putSel_on (e := (23, 56, .agg #[.int .i64 ((rd_T38 y128 0).f0.f0), .int .i64 ((rd_T38 y128 0).f0.f1), .int .i64 ((rd_T38 y128 0).f1.f0), .int .i64 ((rd_T38 y128 0).f1.f1), .int .i64 ((rd_T38 y128 0).f2), .int .i32 ((rd_T38 y128 0).f3)])) 23 rfl rfl (hon 23 (by kernel_rfl)) rfl
           have e50 : a.tmps[50]? = some (.bool true) := by rw [ha]; exact putSel_on (e := (17, 50, .bool true)) 17 rfl rfl (hon 17 (by kernel_rfl)) rfl
           replace ha := Aside0.mk ha
           have HO_2 := Aside0.mk Q_HO_2
           have BK119 := Aside0.mk Q_BK119
           have HB := Aside0.mk Q_HB
           have HO149 := Aside0.mk (Q_HO149 (hon 0 (by kernel_rfl)))
           have HO152 := Aside0.mk (Q_HO152 (hon 1 (by kernel_rfl)))
           have HO158 := Aside0.mk (Q_HO158 (hon 5 (by kernel_rfl)))
           have HO163 := Aside0.mk (Q_HO163 (hon 7 (by kernel_rfl)))
           have HO166 := Aside0.mk (Q_HO166 (hon 9 (by kernel_rfl)))
           have HO170 := Aside0.mk (Q_HO170 (hon 14 (by kernel_rfl)))
           obtain ⟨Ao111, co111, eo111⟩ := Kd.R_slice HO163.out
           (first | subst eo111 | (injection eo111 with f1_ f2_ f3_; have f4_ := f1_.symm; have f5_ := f3_.symm; clear f1_ f2_ f3_; subst f4_; subst f5_))
           obtain ⟨Ao112, co112, eo112⟩ := Kd.R_slice HO158.out
           (first | subst eo112 | (injection eo112 with f1_ f2_ f3_; have f4_ := f1_.symm; have f5_ := f3_.symm; clear f1_ f2_ f3_; subst f4_; subst f5_))
           refine Kd.R_lit_step k38 _ 38 ?hg (N := 57) ?hd (xs := ([(⟨(⟨(rd_T38 y128 1).f0.f0, (rd_T38 y128 1).f0.f1⟩ : S36), (⟨(rd_T38 y128 1).f1.f0, (rd_T38 y128 1).f1.f1⟩ : S36), (rd_T38 y128 1).f2, (rd_T38 y128 1).f3⟩ : S38), (⟨(⟨(rd_T38 y128 0).f0.f0, (rd_T38 y128 0).f0.f1⟩ : S36), (⟨(rd_T38 y128 0).f1.f0, (rd_T38 y128 0).f1.f1⟩ : S36), (rd_T38 y128 0).f2, (rd_T38 y128 0).f3⟩ : S38)] : List (S38))) (inner := [.int .i64 ((rd_T38 y128 1).f0.f0), .int .i64 ((rd_T38 y128 1).f0.f1), .int .i64 ((rd_T38 y128 1).f1.f0), .int .i64 ((rd_T38 y128 1).f1.f1), .int .i64 ((rd_T38 y128 1).f2), .int .i32 ((rd_T38 y128 1).f3), .int .i64 ((rd_T38 y128 0).f0.f0), .int .i64 ((rd_T38 y128 0).f0.f1), .int .i64 ((rd_T38 y128 0).f1.f0), .int .i64 ((rd_T38 y128 0).f1.f1), .int .i64 ((rd_T38 y128 0).f2), .int .i32 ((rd_T38 y128 0).f3)]) (ok := fun _ => True) (okp := fun _ => True) ?hr ?hp (fun _ hk => hk) trivial (Below.refl _ _) (Nat.le_refl _) (by simp) ?_; (case hd => rfl); (case hg => first | rfl | exact wanted_on rfl rfl rfl (e50.trans (by first | rfl | (simp [*]; done)))); (case hr => first | (go_simp; done) | (go_simp; rfl)); (case hp => exact (Reps.c6 (show Kd.M k38 _ _ _ (⟨(⟨(rd_T38 y128 1).f0.f0, (rd_T38 y128 1).f0.f1⟩ : S36), (⟨(rd_T38 y128 1).f1.f0, (rd_T38 y128 1).f1.f1⟩ : S36), (rd_T38 y128 1).f2, (rd_T38 y128 1).f3⟩ : S38) [.int .i64 ((rd_T38 y128 1).f0.f0), .int .i64 ((rd_T38 y128 1).f0.f1), .int .i64 ((rd_T38 y128 1).f1.f0), .int .i64 ((rd_T38 y128 1).f1.f1), .int .i64 ((rd_T38 y128 1).f2), .int .i32 ((rd_T38 y128 1).f3)] from (k38_mkM _ _ _ (⟨(⟨(rd_T38 y128 1).f0.f0, (rd_T38 y128 1).f0.f1⟩ : S36), (⟨(rd_T38 y128 1).f1.f0, (rd_T38 y128 1).f1.f1⟩ : S36), (rd_T38 y128 1).f2, (rd_T38 y128 1).f3⟩ : S38) )) (Reps.c6 (show Kd.M k38 _ _ _ (⟨(⟨(rd_T38 y128 0).f0.f0, (rd_T38 y128 0).f0.f1⟩ : S36), (⟨(rd_T38 y128 0).f1.f0, (rd_T38 y128 0).f1.f1⟩ : S36), (rd_T38 y128 0).f2, (rd_T38 y128 0).f3⟩ : S38) [.int .i64 ((rd_T38 y128 0).f0.f0), .int .i64 ((rd_T38 y128 0).f0.f1), .int .i64 ((rd_T38 y128 0).f1.f0), .int .i64 ((rd_T38 y128 0).f1.f1), .int .i64 ((rd_T38 y128 0).f2), .int .i32 ((rd_T38 y128 0).f3)] from (k38_mkM _ _ _ (⟨(⟨(rd_T38 y128 0).f0.f0, (rd_T38 y128 0).f0.f1⟩ : S36), (⟨(rd_T38 y128 0).f1.f0, (rd_T38 y128 0).f1.f1⟩ : S36), (rd_T38 y128 0).f2, (rd_T38 y128 0).f3⟩ : S38) )) (Reps.none _ _))))
           intro v175 w113 ho114 hb hg_ hnew_
           clear hg_ hnew_
           (first | rw [← Ny174.out] at ho114 | (simp only [Int.reduceToNat] at ho114; rw [← Ny174.out] at ho114))
           have n0_ := Aside0.mk (Kd.R_elder' (by (with_reducible repeat (first | apply Kd.R_alloc | apply Kd.R_drewN | apply Kd.R_drew)); exact HO_2.out) (Kd.R_base ho114) hb)
           have n1_ := Aside0.mk (Kd.R_below (by (with_reducible repeat (first | apply Kd.R_alloc | apply Kd.R_drewN | apply Kd.R_drew)); exact HO149.out) hb)
           have n2_ := Aside0.mk (Kd.R_below (by (with_reducible repeat (first | apply Kd.R_alloc | apply Kd.R_drewN | apply Kd.R_drew)); exact HO152.out) hb)
           have n3_ := Aside0.mk (Kd.R_below (by (with_reducible repeat (first | apply Kd.R_alloc | apply Kd.R_drewN | apply Kd.R_drew)); exact HO158.out) hb)
           have n4_ := Aside0.mk (Kd.R_below (by (with_reducible repeat (first | apply Kd.R_alloc | apply Kd.R_drewN | apply Kd.R_drew)); exact HO163.out) hb)
           have n5_ := Aside0.mk (Kd.R_below (by (with_reducible repeat (first | apply Kd.R_alloc | apply Kd.R_drewN | apply Kd.R_drew)); exact HO166.out) hb)
           have n6_ := Aside0.mk (Kd.R_below (by (with_reducible repeat (first | apply Kd.R_alloc | apply Kd.R_drewN | apply Kd.R_drew)); exact HO170.out) hb)
           have n7_ := Aside0.mk (Kd.R_lower (Kd.R_newB (Kd.R_new' ho114 (Kd.R_lt (by (with_reducible repeat (first | apply Kd.R_alloc | apply Kd.R_drewN | apply Kd.R_drew)); exact HO_2.out))) (g := gb119) (o := .cells #[.int .i64 t117, .int .i64 t118, .int .i64 0, .int .i64 0, .int .i64 1, .int .i32 97] 38 (0, 0)) (by (with_reducible repeat (first | refine blk_drewN ?_ _ | refine blk_drew ?_ | refine blk_alloc ?_ _)); exact BK119.out)) (below_size (by repeat (first | (with_reducible first | exact HB.out | apply below_alloc | apply pw_below_drewN | apply below_drew1 | refine below_set ?_ GE119.out) | exact HB.out))))
           have n8_ := Aside0.mk (blk_below (g := gb119) (o := .cells #[.int .i64 t117, .int .i64 t118, .int .i64 0, .int .i64 0, .int .i64 1, .int .i32 97] 38 (0, 0)) (by (with_reducible repeat (first | refine blk_drewN ?_ _ | refine blk_drew ?_ | refine blk_alloc ?_ _)); exact BK119.out) hb)
           have n9_ := Aside0.mk (below_step (by repeat (first | (with_reducible first | exact HB.out | apply below_alloc | apply pw_below_drewN | apply below_drew1 | refine below_set ?_ GE119.out) | exact HB.out)) hb)
           clear HO_2
           clear HO149
           clear HO152
           clear HO158
           clear HO163
           clear HO166
           clear HO170
           clear BK119
           clear HB
           have HO_2 := n0_
           have HO149 := n1_
           have HO152 := n2_
           have HO158 := n3_
           have HO163 := n4_
           have HO166 := n5_
           have HO170 := n6_
           have HO176 := n7_
           have BK119 := n8_
           have HB := n9_
           clear n0_ n1_ n2_ n3_ n4_ n5_ n6_ n7_ n8_ n9_
           clear hb ho114
           refine hK.out _ _ ⟨v148, v151, .slice Ao112 y156.length co112, .slice Ao111 y161.length co111, v165, v169, v175, m8_, (by rw [ha.out]; exact putSel_upk 24 hb_ rfl rfl rfl), (by (with_reducible repeat (first | apply Kd.R_alloc | apply Kd.R_drewN | apply Kd.R_drew)); first | exact Kd.R_mono HO_2.out (fun _ hk => ⟨hk.2, hk.1⟩) | exact Kd.R_mono HO_2.out (fun _ _ => trivial) | exact Kd.R_mono HO_2.out (fun _ hk => hk.2) | exact Kd.R_mono HO_2.out (fun _ hk => hk.1)), (by (with_reducible repeat (first | refine blk_drewN ?_ _ | refine blk_drew ?_ | refine blk_alloc ?_ _)); exact BK119.out), (by repeat (first | (with_reducible first | exact HB.out | apply below_alloc | apply pw_below_drewN | apply below_drew1 | refine below_set ?_ GE119.out) | exact HB.out)), fun _ => (by (with_reducible repeat (first | apply Kd.R_alloc | apply Kd.R_drewN | apply Kd.R_drew)); first | exact HO149.out | exact Kd.R_mono HO149.out (fun _ _ => trivial) | exact Kd.R_mono HO149.out (fun _ hk => hk.1)), fun _ => (by (with_reducible repeat (first | apply Kd.R_alloc | apply Kd.R_drewN | apply Kd.R_drew)); first | exact HO152.out | exact Kd.R_mono HO152.out (fun _ _ => trivial) | exact Kd.R_mono HO152.out (fun _ hk => hk.1)), fun _ => (by (with_reducible repeat (first | apply Kd.R_alloc | apply Kd.R_drewN | apply Kd.R_drew)); first | exact HO158.out | exact Kd.R_mono HO158.out (fun _ _ => trivial) | exact Kd.R_mono HO158.out (fun _ hk => hk.1)), fun _ => (by (with_reducible repeat (first | apply Kd.R_alloc | apply Kd.R_drewN | apply Kd.R_drew)); first | exact HO163.out | exact Kd.R_mono HO163.out (fun _ _ => trivial) | exact Kd.R_mono HO163.out (fun _ hk => hk.1)), fun _ => (by (with_reducible repeat (first | apply Kd.R_alloc | apply Kd.R_drewN | apply Kd.R_drew)); first | exact HO166.out | exact Kd.R_mono HO166.out (fun _ _ => trivial) | exact Kd.R_mono HO166.out (fun _ hk => hk.1)), fun _ => (by (with_reducible repeat (first | apply Kd.R_alloc | apply Kd.R_drewN | apply Kd.R_drew)); first | exact HO170.out | exact Kd.R_mono HO170.out (fun _ _ => trivial) | exact Kd.R_mono HO170.out (fun _ hk => hk.1)), fun _ => (by (with_reducible repeat (first | apply Kd.R_alloc | apply Kd.R_drewN | apply Kd.R_drew)); first | exact Kd.R_mono HO176.out (fun _ hk => ⟨hk.1.2, hk.2⟩) | exact Kd.R_mono HO176.out (fun _ _ => trivial) | exact Kd.R_mono HO176.out (fun _ hk => hk.2) | exact Kd.R_mono HO176.out (fun _ hk => hk.1)), Q_X8_⟩
          refine steps_cons ?_ ?_
          ·
           rintro b a w' ⟨v148, v151, v157, v162, v165, v169, v175, m8_, ha, Q_HO_2, Q_BK119, Q_HB, Q_HO149, Q_HO152, Q_HO158, Q_HO163, Q_HO166, Q_HO170, Q_HO176, Q_X8_⟩ hb_ hon hoff
           refine ⟨_, rfl, fun K hK => ?_⟩
           have e57 : a.tmps[57]? = some (v175) := by rw [ha]; exact putSel_on (e := (24, 57, v175)) 24 rfl rfl (hon 24 (by kernel_rfl)) rfl
           have e50 : a.tmps[50]? = some (.bool true) := by rw [ha]; exact putSel_on (e := (17, 50, .bool true)) 17 rfl rfl (hon 17 (by kernel_rfl)) rfl
           replace ha := Aside0.mk ha
           have HO_2 := Aside0.mk Q_HO_2
           have BK119 := Aside0.mk Q_BK119
           have HB := Aside0.mk Q_HB
           have HO149 := Aside0.mk (Q_HO149 (hon 0 (by kernel_rfl)))
           have HO152 := Aside0.mk (Q_HO152 (hon 1 (by kernel_rfl)))
           have HO158 := Aside0.mk (Q_HO158 (hon 5 (by kernel_rfl)))
           have HO163 := Aside0.mk (Q_HO163 (hon 7 (by kernel_rfl)))
           have HO166 := Aside0.mk (Q_HO166 (hon 9 (by kernel_rfl)))
           have HO170 := Aside0.mk (Q_HO170 (hon 14 (by kernel_rfl)))
           have HO176 := Aside0.mk (Q_HO176 (hon 24 (by kernel_rfl)))
           obtain ⟨Ao113, co113, eo113⟩ := Kd.R_slice HO163.out
           (first | subst eo113 | (injection eo113 with f1_ f2_ f3_; have f4_ := f1_.symm; have f5_ := f3_.symm; clear f1_ f2_ f3_; subst f4_; subst f5_))
           obtain ⟨Ao114, co114, eo114⟩ := Kd.R_slice HO158.out
           (first | subst eo114 | (injection eo114 with f1_ f2_ f3_; have f4_ := f1_.symm; have f5_ := f3_.symm; clear f1_ f2_ f3_; subst f4_; subst f5_))
           obtain ⟨Ao115, co115, eo115⟩ := Kd.R_slice HO176.out
           (first | subst eo115 | (injection eo115 with f1_ f2_ f3_; have f4_ := f1_.symm; have f5_ := f3_.symm; clear f1_ f2_ f3_; subst f4_; subst f5_))
           refine goes_ Try.func10 (by kernel_rfl) rfl #[.slice Ao115 y174.length co115, .slice none 0 0, .int .i64 2] (by first | rfl | exact wanted_on rfl rfl rfl (e50.trans (by first | rfl | (simp [*]; done)))) rfl rfl (by first | (simp only [List.map_toArray, List.map_cons, List.map_nil, Act.eval, Array.getD_eq_getD_getElem?, Option.getD_some, e57, e50]; done) | (simp only [List.map_toArray, List.map_cons, List.map_nil, Act.eval, Array.getD_eq_getD_getElem?, Option.getD_some, e57, e50]; rfl)) ?_
           refine (redpencillaw17_encodes.calls _ _ y174 _ _ ([] : List Int) 2 true _ ?side1 ?side2 ?side3 ?side4 A85.out).mono ?_
           (case side1 => repeat (first | exact (Kd.R_reads' HO176.out).2.2 | (with_reducible refine Kd.C_alloc ?_ _) | (with_reducible refine Kd.C_drewN ?_ _) | (with_reducible refine Kd.C_drew ?_)))
           (case side2 => exact (Kd.R_reads' HO176.out).2.1)
           (case side3 => exact Kd.C_nil _ _)
           (case side4 => exact Nat.le_refl _)
           rintro e w116 ⟨rfl, hb⟩
           refine ⟨_, rfl, ?_⟩
           have n0_ := Aside0.mk (Kd.R_below (by (with_reducible repeat (first | apply Kd.R_alloc | apply Kd.R_drewN | apply Kd.R_drew)); exact HO_2.out) hb)
           have n1_ := Aside0.mk (Kd.R_below (by (with_reducible repeat (first | apply Kd.R_alloc | apply Kd.R_drewN | apply Kd.R_drew)); exact HO149.out) hb)
           have n2_ := Aside0.mk (Kd.R_below (by (with_reducible repeat (first | apply Kd.R_alloc | apply Kd.R_drewN | apply Kd.R_drew)); exact HO152.out) hb)
           have n3_ := Aside0.mk (Kd.R_below (by (with_reducible repeat (first | apply Kd.R_alloc | apply Kd.R_drewN | apply Kd.R_drew)); exact HO158.out) hb)
           have n4_ := Aside0.mk (Kd.R_below (by (with_reducible repeat (first | apply Kd.R_alloc | apply Kd.R_drewN | apply Kd.R_drew)); exact HO163.out) hb)
           have n5_ := Aside0.mk (Kd.R_below (by (with_reducible repeat (first | apply Kd.R_alloc | apply Kd.R_drewN | apply Kd.R_drew)); exact HO166.out) hb)
           have n6_ := Aside0.mk (Kd.R_below (by (with_reducible repeat (first | apply Kd.R_alloc | apply Kd.R_drewN | apply Kd.R_drew)); exact HO170.out) hb)
           have n7_ := Aside0.mk (Kd.R_below (by (with_reducible repeat (first | apply Kd.R_alloc | apply Kd.R_drewN | apply Kd.R_drew)); exact HO176.out) hb)
           have n8_ := Aside0.mk (blk_below (g := gb119) (o := .cells #[.int .i64 t117, .int .i64 t118, .int .i64 0, .int .i64 0, .int .i64 1, .int .i32 97] 38 (0, 0)) (by (with_reducible repeat (first | refine blk_drewN ?_ _ | refine blk_drew ?_ | refine blk_alloc ?_ _)); exact BK119.out) hb)
           have n9_ := Aside0.mk (below_step (by repeat (first | (with_reducible first | exact HB.out | apply below_alloc | apply pw_below_drewN | apply below_drew1 | refine below_set ?_ GE119.out) | exact HB.out)) hb)
           clear HO_2
           clear HO149
           clear HO152
           clear HO158
           clear HO163
           clear HO166
           clear HO170
           clear HO176
           clear BK119
           clear HB
           have HO_2 := n0_
           have HO149 := n1_
           have HO152 := n2_
           have HO158 := n3_
           have HO163 := n4_
           have HO166 := n5_
           have HO170 := n6_
           have HO176 := n7_
           have BK119 := n8_
           have HB := n9_
           clear n0_ n1_ n2_ n3_ n4_ n5_ n6_ n7_ n8_ n9_
           (try clear hb)
           (try clear hb2)
           (try clear hk)
           (try clear hi)
           refine hK.out _ _ ⟨v148, v151, .slice Ao114 y156.length co114, .slice Ao113 y161.length co113, v165, v169, .slice Ao115 y174.length co115, m8_, (by rw [ha.out]; exact putSel_upk 25 hb_ rfl rfl rfl), (by (with_reducible repeat (first | apply Kd.R_alloc | apply Kd.R_drewN | apply Kd.R_drew)); first | exact HO_2.out | exact Kd.R_mono HO_2.out (fun _ _ => trivial) | exact Kd.R_mono HO_2.out (fun _ hk => hk.1)), (by (with_reducible repeat (first | refine blk_drewN ?_ _ | refine blk_drew ?_ | refine blk_alloc ?_ _)); exact BK119.out), (by repeat (first | (with_reducible first | exact HB.out | apply below_alloc | apply pw_below_drewN | apply below_drew1 | refine below_set ?_ GE119.out) | exact HB.out)), fun _ => (by (with_reducible repeat (first | apply Kd.R_alloc | apply Kd.R_drewN | apply Kd.R_drew)); first | exact HO149.out | exact Kd.R_mono HO149.out (fun _ _ => trivial) | exact Kd.R_mono HO149.out (fun _ hk => hk.1)), fun _ => (by (with_reducible repeat (first | apply Kd.R_alloc | apply Kd.R_drewN | apply Kd.R_drew)); first | exact HO152.out | exact Kd.R_mono HO152.out (fun _ _ => trivial) | exact Kd.R_mono HO152.out (fun _ hk => hk.1)), fun _ => (by (with_reducible repeat (first | apply Kd.R_alloc | apply Kd.R_drewN | apply Kd.R_drew)); first | exact HO158.out | exact Kd.R_mono HO158.out (fun _ _ => trivial) | exact Kd.R_mono HO158.out (fun _ hk => hk.1)), fun _ => (by (with_reducible repeat (first | apply Kd.R_alloc | apply Kd.R_drewN | apply Kd.R_drew)); first | exact HO163.out | exact Kd.R_mono HO163.out (fun _ _ => trivial) | exact Kd.R_mono HO163.out (fun _ hk => hk.1)), fun _ => (by (with_reducible repeat (first | apply Kd.R_alloc | apply Kd.R_drewN | apply Kd.R_drew)); first | exact HO166.out | exact Kd.R_mono HO166.out (fun _ _ => trivial) | exact Kd.R_mono HO166.out (fun _ hk => hk.1)), fun _ => (by (with_reducible repeat (first | apply Kd.R_alloc | apply Kd.R_drewN | apply Kd.R_drew)); first | exact HO170.out | exact Kd.R_mono HO170.out (fun _ _ => trivial) | exact Kd.R_mono HO170.out (fun _ hk => hk.1)), fun _ => (by (with_reducible repeat (first | apply Kd.R_alloc | apply Kd.R_drewN | apply Kd.R_drew)); first | exact HO176.out | exact Kd.R_mono HO176.out (fun _ _ => trivial) | exact Kd.R_mono HO176.out (fun _ hk => hk.1)), Q_X8_⟩
          refine steps_cons ?_ ?_
          ·
           rintro b a w' ⟨v148, v151, v157, v162, v165, v169, v175, m8_, ha, Q_HO_2, Q_BK119, Q_HB, Q_HO149, Q_HO152, Q_HO158, Q_HO163, Q_HO166, Q_HO170, Q_HO176, Q_X8_⟩ hb_ hon hoff
           refine ⟨_, rfl, fun K hK => ?_⟩
           have e50 : a.tmps[50]? = some (.bool true) := by rw [ha]; exact putSel_on (e := (17, 50, .bool true)) 17 rfl rfl (hon 17 (by kernel_rfl)) rfl
           have e58 : a.tmps[58]? = some (.bool true) := by rw [ha]; exact putSel_on (e := (25, 58, .bool true)) 25 rfl rfl (hon 25 (by kernel_rfl)) rfl
           replace ha := Aside0.mk ha
           have HO_2 := Aside0.mk Q_HO_2
           have BK119 := Aside0.mk Q_BK119
           have HB := Aside0.mk Q_HB
           have HO149 := Aside0.mk (Q_HO149 (hon 0 (by kernel_rfl)))
           have HO152 := Aside0.mk (Q_HO152 (hon 1 (by kernel_rfl)))
           have HO158 := Aside0.mk (Q_HO158 (hon 5 (by kernel_rfl)))
           have HO163 := Aside0.mk (Q_HO163 (hon 7 (by kernel_rfl)))
           have HO166 := Aside0.mk (Q_HO166 (hon 9 (by kernel_rfl)))
           have HO170 := Aside0.mk (Q_HO170 (hon 14 (by kernel_rfl)))
           have HO176 := Aside0.mk (Q_HO176 (hon 24 (by kernel_rfl)))
           refine value_ (w1 := w') (v := .bool true) (by rfl) rfl ?_ ?_
           ·
            go_simp
            (try simp only [i64_w])
            try rfl
           refine hK.out _ _ ⟨v148, v151, v157, v162, v165, v169, v175, m8_, (by rw [ha.out]; exact putSel_upk 26 hb_ rfl rfl rfl), Q_HO_2, Q_BK119, Q_HB, Q_HO149, Q_HO152, Q_HO158, Q_HO163, Q_HO166, Q_HO170, Q_HO176, Q_X8_⟩
          refine steps_cons ?_ ?_
          ·
           rintro b a w' ⟨v148, v151, v157, v162, v165, v169, v175, m8_, ha, Q_HO_2, Q_BK119, Q_HB, Q_HO149, Q_HO152, Q_HO158, Q_HO163, Q_HO166, Q_HO170, Q_HO176, Q_X8_⟩ hb_ hon hoff
           refine ⟨_, rfl, fun K hK => ?_⟩
           have e59 : a.tmps[59]? = some (.bool true) := by rw [ha]; exact putSel_on (e := (26, 59, .bool true)) 26 rfl rfl (hon 26 (by kernel_rfl)) rfl
           replace ha := Aside0.mk ha
           have HO_2 := Aside0.mk Q_HO_2
           have BK119 := Aside0.mk Q_BK119
           have HB := Aside0.mk Q_HB
           have HO149 := Aside0.mk (Q_HO149 (hon 0 (by kernel_rfl)))
           have HO152 := Aside0.mk (Q_HO152 (hon 1 (by kernel_rfl)))
           have HO158 := Aside0.mk (Q_HO158 (hon 5 (by kernel_rfl)))
           have HO163 := Aside0.mk (Q_HO163 (hon 7 (by kernel_rfl)))
           have HO166 := Aside0.mk (Q_HO166 (hon 9 (by kernel_rfl)))
           have HO170 := Aside0.mk (Q_HO170 (hon 14 (by kernel_rfl)))
           have HO176 := Aside0.mk (Q_HO176 (hon 24 (by kernel_rfl)))
           refine value_ (w1 := w') (v := .bool true) (by rfl) rfl ?_ ?_
           ·
            go_simp
            (try simp only [i64_w])
            try rfl
           refine hK.out _ _ ⟨v148, v151, v157, v162, v165, v169, v175, m8_, (by rw [ha.out]; exact putSel_upk 27 hb_ rfl rfl rfl), Q_HO_2, Q_BK119, Q_HB, Q_HO149, Q_HO152, Q_HO158, Q_HO163, Q_HO166, Q_HO170, Q_HO176, Q_X8_⟩
          exact steps_nil
         rintro b a w114 hall ⟨v148, v151, v157, v162, v165, v169, v175, m8_, ha, Q_HO_2, Q_BK119, Q_HB, Q_HO149, Q_HO152, Q_HO158, Q_HO163, Q_HO166, Q_HO170, Q_HO176, Q_X8_⟩
         clear BK119 HB HO_2
         have hb0_ := hall 0 (by kernel_rfl)
         have hb1_ := hall 1 (by kernel_rfl)
         have hb2_ := hall 2 (by kernel_rfl)
         have hb3_ := hall 3 (by kernel_rfl)
         have hb4_ := hall 4 (by kernel_rfl)
         have hb5_ := hall 5 (by kernel_rfl)
         have hb6_ := hall 6 (by kernel_rfl)
         have hb7_ := hall 7 (by kernel_rfl)
         have hb8_ := hall 8 (by kernel_rfl)
         have hb9_ := hall 9 (by kernel_rfl)
         have hb10_ := hall 10 (by kernel_rfl)
         have hb11_ := hall 11 (by kernel_rfl)
         have hb12_ := hall 12 (by kernel_rfl)
         have hb13_ := hall 13 (by kernel_rfl)
         have hb14_ := hall 14 (by kernel_rfl)
         have hb15_ := hall 15 (by kernel_rfl)
         have hb16_ := hall 16 (by kernel_rfl)
         have hb17_ := hall 17 (by kernel_rfl)
         have hb18_ := hall 18 (by kernel_rfl)
         have hb19_ := hall 19 (by kernel_rfl)
         have hb20_ := hall 20 (by kernel_rfl)
         have hb21_ := hall 21 (by kernel_rfl)
         have hb22_ := hall 22 (by kernel_rfl)
         have hb23_ := hall 23 (by kernel_rfl)
         have hb24_ := hall 24 (by kernel_rfl)
         have hb25_ := hall 25 (by kernel_rfl)
         have hb26_ := hall 26 (by kernel_rfl)
         have hb27_ := hall 27 (by kernel_rfl)
         subst ha
         obtain rfl := Q_X8_ hb8_
         simp only [putSel, hb0_, hb1_, hb2_, hb3_, hb4_, hb5_, hb6_, hb7_, hb8_, hb9_, hb10_, hb11_, hb12_, hb13_, hb14_, hb15_, hb16_, hb17_, hb18_, hb19_, hb20_, hb21_, hb22_, hb23_, hb24_, hb25_, hb26_, hb27_, if_true, Act.put, List.setIfInBounds_toArray, List.set_cons_zero, List.set_cons_succ]
         have HO_2 := Aside0.mk Q_HO_2
         clear Q_HO_2
         have BK119 := Aside0.mk Q_BK119
         clear Q_BK119
         have HB := Aside0.mk Q_HB
         clear Q_HB
         have HO149 := Aside0.mk (Q_HO149 hb0_)
         clear Q_HO149
         have HO152 := Aside0.mk (Q_HO152 hb1_)
         clear Q_HO152
         have HO158 := Aside0.mk (Q_HO158 hb5_)
         clear Q_HO158
         have HO163 := Aside0.mk (Q_HO163 hb7_)
         clear Q_HO163
         have HO166 := Aside0.mk (Q_HO166 hb9_)
         clear Q_HO166
         have HO170 := Aside0.mk (Q_HO170 hb14_)
         clear Q_HO170
         have HO176 := Aside0.mk (Q_HO176 hb24_)
         clear Q_HO176
         clear hall hb0_ hb1_ hb2_ hb3_ hb4_ hb5_ hb6_ hb7_ hb8_ hb9_ hb10_ hb11_ hb12_ hb13_ hb14_ hb15_ hb16_ hb17_ hb18_ hb19_ hb20_ hb21_ hb22_ hb23_ hb24_ hb25_ hb26_ hb27_
         obtain ⟨Ao115, co115, eo115⟩ := Kd.R_slice HO163.out
         (first | subst eo115 | (injection eo115 with f1_ f2_ f3_; have f4_ := f1_.symm; have f5_ := f3_.symm; clear f1_ f2_ f3_; subst f4_; subst f5_))
         obtain ⟨Ao116, co116, eo116⟩ := Kd.R_slice HO158.out
         (first | subst eo116 | (injection eo116 with f1_ f2_ f3_; have f4_ := f1_.symm; have f5_ := f3_.symm; clear f1_ f2_ f3_; subst f4_; subst f5_))
         try go_wp2
         go_ret
         exact ⟨by first | rfl | (simp [errW_none, errW_some] <;> rfl) | (simp [*, errW_none, errW_some] <;> rfl), by repeat (first | (with_reducible first | exact HB.out | apply below_alloc | apply pw_below_drewN | apply below_drew1 | refine below_set ?_ GE119.out) | exact HB.out)⟩
        ·
         rw [if_neg c84] at H
         exact absurd H (by simp)
       ·
        rw [if_neg c83] at H
        exact absurd H (by simp)
      ·
       replace c82 := Bool.eq_false_iff.mpr c82
       subst c82
       have H1 : (some false) = some true := by rw [if_neg (show ¬ (false = true) by decide)] at H; exact H
       exact absurd H1 (by simp)
     ·
      replace c80 := Bool.eq_false_iff.mpr c80
      subst c80
      have H1 : (some false) = some true := by rw [if_neg (show ¬ (false = true) by decide)] at H; exact H
      exact absurd H1 (by simp)
    ·
     replace c76 := Bool.eq_false_iff.mpr c76
     subst c76
     have H1 : (some false) = some true := by rw [if_neg (show ¬ (false = true) by decide)] at H; exact H
     exact absurd H1 (by simp)
theorem redpencillaw17_known.at_ : redpencillaw17_known.f 60 = some true := by decide +kernel
theorem redpencillaw17_known.up_ : ∀ n, redpencillaw17_known.f (60 + n) = some true
  | 0 => redpencillaw17_known.at_
  | n + 1 => redpencillaw17_known.mono (60 + n) _ (redpencillaw17_known.up_ n)
theorem redpencillaw17_known.calls (k : Nat)  (r : Bool) (w : World) (h : redpencillaw17_known.f k  = some r) :
  Calls Try.prog 8 #[] w fun e w' => e = .returned (.bool r) ∧ Below w.heap.size w w' := by
  have hr : r = true := by
    have hm : ∀ n, redpencillaw17_known.f (k + n) = some r := by
      intro n
      induction n with
      | zero => exact h
      | succ n ih => exact redpencillaw17_known.mono (k + n) _ ih
    have h1 := hm 60
    have h2 := redpencillaw17_known.up_ k
    rw [Nat.add_comm] at h1
    rw [h1] at h2
    exact Option.some.inj h2
  subst hr
  exact redpencillaw17_known.callsT k w h
end Go.Proofs.Ytfbjbajbjlcjfaa.PCanonStates
