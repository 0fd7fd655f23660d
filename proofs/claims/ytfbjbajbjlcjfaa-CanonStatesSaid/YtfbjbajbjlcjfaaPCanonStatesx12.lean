-- Printed by a program of this session (wip/tools/mkprint2.py) out of the translation; Lean checks it. -- narrowed
import Derived.Test.YtfbjbajbjlcjfaaPCanonStatesx0
import Derived.Test.YtfbjbajbjlcjfaaPCanonStatesx10
import Derived.Test.YtfbjbajbjlcjfaaPCanonStatesx11
namespace Go.Proofs.Ytfbjbajbjlcjfaa.PCanonStates
open Go.RowKit Go.Proofs.YtfbjbajbjlcjfaaW.PrintWords Go.Proofs.YtfbjbajbjlcjfaaW.PrintLast Go.Proofs.YtfbjbajbjlcjfaaW.PrintMore
attribute [local go_sem] max2_int min2_int max_two min_two max_three min_three max_four min_four   -- for this text's walks alone
set_option linter.unusedVariables false
set_option linter.unusedSimpArgs false

/-! ### redpencilref17_Bytes: function 14 -/
mutual
def redpencilref17_Bytes.l0 : Nat → List (S38) → List Int → List Int → Int → Int → Option (List Int)
 | 0, _, _, _, _, _ => none
 | k + 1, x0, x3, x4, x5, x6 => if x6 < (x0.length : Int) then (if 0 ≤ x6 then ((redpencilref17_Number.f k (IntKind.u64.wrap ((rd_T38 x0 x6).f0.f0))).bind fun t224 => (if x3.length + t224.length < 140737488355328 then ((some (x3 ++ t224 : List Int)).bind fun y227 => ((redpencilref17_Number.f k (IntKind.u64.wrap (wrap64 (((rd_T38 x0 x6).f0.f1) - x5)))).bind fun t230 => (if y227.length + t230.length < 140737488355328 then ((some (y227 ++ t230 : List Int)).bind fun y233 => ((redpencilref17_Number.f k (IntKind.u64.wrap ((rd_T38 x0 x6).f1.f0))).bind fun t236 => (if y233.length + t236.length < 140737488355328 then ((some (y233 ++ t236 : List Int)).bind fun y239 => (if ((rd_T38 x0 x6).f1.f0) = 0 then (redpencilref17_Bytes.j1 k x0 y239 x4 ((rd_T38 x0 x6).f0.f1) x6 ((rd_T38 x0 x6).f0.f0) ((rd_T38 x0 x6).f0.f1) ((rd_T38 x0 x6).f1.f0) ((rd_T38 x0 x6).f1.f1) ((rd_T38 x0 x6).f2) ((rd_T38 x0 x6).f3)) else ((redpencilref17_Number.f k (IntKind.u64.wrap ((rd_T38 x0 x6).f1.f1))).bind fun t242 => (if y239.length + t242.length < 140737488355328 then (redpencilref17_Bytes.j1 k x0 (y239 ++ t242) x4 ((rd_T38 x0 x6).f0.f1) x6 ((rd_T38 x0 x6).f0.f0) ((rd_T38 x0 x6).f0.f1) ((rd_T38 x0 x6).f1.f0) ((rd_T38 x0 x6).f1.f1) ((rd_T38 x0 x6).f2) ((rd_T38 x0 x6).f3)) else (none))))) else (none)))) else (none)))) else (none))) else (none)) else ((redpencilref17_Number.f k (IntKind.u64.wrap ((x4.length : Int)))).bind fun t213 => (if x3.length + t213.length < 140737488355328 then ((some (x3 ++ t213 : List Int)).bind fun y216 => (if y216.length + x4.length < 140737488355328 then (some (y216 ++ x4)) else (none))) else (none)))
def redpencilref17_Bytes.j1 : Nat → List (S38) → List Int → List Int → Int → Int → Int → Int → Int → Int → Int → Int → Option (List Int)
 | 0, _, _, _, _, _, _, _, _, _, _, _ => none
 | k + 1, x0, x3, x4, x5, x6, x224000, x224001, x224002, x224003, x224004, x224005 => if x224005 = 0 then ((redpencilref17_Number.f k (IntKind.u64.wrap ((IntKind.u64.wrap (2 * (IntKind.u64.wrap (x224004)))) + 1))).bind fun t248 => (if x3.length + t248.length < 140737488355328 then (redpencilref17_Bytes.l0 k x0 (x3 ++ t248) x4 x5 (wrap64 (x6 + 1))) else (none))) else ((redpencilref17_Number.f k (IntKind.u64.wrap (2 * (IntKind.u64.wrap (x224004))))).bind fun t254 => (if x3.length + t254.length < 140737488355328 then ((redpencilref17_Rune.f x224005).bind fun t260 => (if x4.length + t260.length < 140737488355328 then (redpencilref17_Bytes.l0 k x0 (x3 ++ t254) (x4 ++ t260) x5 (wrap64 (x6 + 1))) else (none))) else (none)))
end
def redpencilref17_Bytes.f (k : Nat) (l0 : List (S38)) : Option (List Int) := (redpencilref17_Number.f k (IntKind.u64.wrap ((l0.length : Int)))).bind fun t210 => (redpencilref17_Bytes.l0 k l0 t210 ([] : List Int) 0 0)
theorem redpencilref17_Bytes.mono_l : ∀ k, (∀ y0 y1 y2 y3 y4, LeO (redpencilref17_Bytes.l0 k y0 y1 y2 y3 y4) (redpencilref17_Bytes.l0 (k + 1) y0 y1 y2 y3 y4)) ∧ (∀ y0 y1 y2 y3 y4 y5 y6 y7 y8 y9 y10, LeO (redpencilref17_Bytes.j1 k y0 y1 y2 y3 y4 y5 y6 y7 y8 y9 y10) (redpencilref17_Bytes.j1 (k + 1) y0 y1 y2 y3 y4 y5 y6 y7 y8 y9 y10))
 | 0 => ⟨fun _ _ _ _ _ r h => by simp [redpencilref17_Bytes.l0] at h, fun _ _ _ _ _ _ _ _ _ _ _ r h => by simp [redpencilref17_Bytes.j1] at h⟩
 | k + 1 => by
  obtain ⟨ih0, ih1⟩ := redpencilref17_Bytes.mono_l k
  refine ⟨?_, ?_⟩
  ·
   intro y0 y1 y2 y3 y4
   unfold redpencilref17_Bytes.l0
   repeat' first
   | (with_reducible exact ih0 _ _ _ _ _)
   | (with_reducible exact ih1 _ _ _ _ _ _ _ _ _ _ _)
   | (with_reducible exact redpencilref17_Number.mono _ _)
   | (with_reducible exact LeO.refl _)
   | (with_reducible exact LeO.none _)
   | (with_reducible refine LeO.ite ?_ ?_)
   | (with_reducible refine LeO.bind ?_ (fun _ => ?_))
   | exact ih0 _ _ _ _ _
   | exact ih1 _ _ _ _ _ _ _ _ _ _ _
   | exact redpencilref17_Number.mono _ _
   | exact LeO.none _
   | refine LeO.ite ?_ ?_
   | refine LeO.bind ?_ (fun _ => ?_)
  ·
   intro y0 y1 y2 y3 y4 y5 y6 y7 y8 y9 y10
   unfold redpencilref17_Bytes.j1
   repeat' first
   | (with_reducible exact ih0 _ _ _ _ _)
   | (with_reducible exact ih1 _ _ _ _ _ _ _ _ _ _ _)
   | (with_reducible exact redpencilref17_Number.mono _ _)
   | (with_reducible exact LeO.refl _)
   | (with_reducible exact LeO.none _)
   | (with_reducible refine LeO.ite ?_ ?_)
   | (with_reducible refine LeO.bind ?_ (fun _ => ?_))
   | exact ih0 _ _ _ _ _
   | exact ih1 _ _ _ _ _ _ _ _ _ _ _
   | exact redpencilref17_Number.mono _ _
   | exact LeO.none _
   | refine LeO.ite ?_ ?_
   | refine LeO.bind ?_ (fun _ => ?_)
theorem redpencilref17_Bytes.mono : ∀ a0 k, LeO (redpencilref17_Bytes.f k a0) (redpencilref17_Bytes.f (k + 1) a0) := by
 intro a0 k
 obtain ⟨ih0, ih1⟩ := redpencilref17_Bytes.mono_l k
 unfold redpencilref17_Bytes.f
 repeat' first
   | (with_reducible exact ih0 _ _ _ _ _)
   | (with_reducible exact ih1 _ _ _ _ _ _ _ _ _ _ _)
   | (with_reducible exact redpencilref17_Number.mono _ _)
   | (with_reducible exact LeO.refl _)
   | (with_reducible exact LeO.none _)
   | (with_reducible refine LeO.ite ?_ ?_)
   | (with_reducible refine LeO.bind ?_ (fun _ => ?_))
   | exact ih0 _ _ _ _ _
   | exact ih1 _ _ _ _ _ _ _ _ _ _ _
   | exact redpencilref17_Number.mono _ _
   | exact LeO.none _
   | refine LeO.ite ?_ ?_
   | refine LeO.bind ?_ (fun _ => ?_)
def redpencilref17_Bytes.T8 : Bool × List (List Nat × List Nat) := (true, [([], []), ([], []), ([1], [1]), ([2], [2]), ([3], [3]), ([4], [4]), ([0, 5, 5], [0, 5]), ([], []), ([7], [7]), ([8], [8]), ([], []), ([9, 10], [9, 10]), ([11], [11]), ([12, 6], [12]), ([6, 13, 13], [6, 13]), ([14, 14, 0, 1, 2, 3, 4, 5, 6, 7, 8, 9, 10, 11, 12, 13, 14], [0, 14])])
def redpencilref17_Bytes.B8 : List Nat := [0, 0, 2, 6, 14, 30, 63, 0, 128, 384, 0, 1920, 3968, 8191, 16383, 32767]
theorem redpencilref17_Bytes.tab8 : rtab .any (opsOf Try.f14 8) = redpencilref17_Bytes.T8 := by kernel_rfl
theorem redpencilref17_Bytes.bits8 : waitsOk redpencilref17_Bytes.T8.2 redpencilref17_Bytes.B8 = true := by kernel_rfl
set_option maxHeartbeats 8000000 in
set_option maxRecDepth 100000 in
theorem redpencilref17_Bytes.calls (k : Nat) (A0 : Option Addr) (c0 : Nat) (l0 : List (S38)) (r : List Int) (w : World) (hr0 : Kd.C k38 w A0 l0.length l0) (hc0 : l0.length ≤ c0) (h : redpencilref17_Bytes.f k l0 = some r) :
  Calls Try.prog 14 #[.slice A0 l0.length c0] w fun e w' => ∃ v0_ : Value, e = .returned (v0_) ∧ Kd.R (Kd.int .u8) 5 w' w.heap.size (fun _ => True) v0_ r ∧ Below w.heap.size w w' := by
 have hu38 := Try.underlying38
 have HR0 := Aside0.mk hr0
 have HC0 := Aside0.mk hc0
 clear hr0 hc0
 have HB := Aside0.mk (Below.refl w.heap.size w)
 have H : ((redpencilref17_Number.f k (IntKind.u64.wrap ((l0.length : Int)))).bind fun t210 => (redpencilref17_Bytes.l0 k l0 t210 ([] : List Int) 0 0)) = some r := h
 clear h
 replace H := Option.bind_eq_some_iff.mp H
 obtain ⟨t210, A20, H⟩ := H
 replace H : (redpencilref17_Bytes.l0 k l0 t210 ([] : List Int) 0 0) = some r := H
 have A2 := Aside0.mk A20
 clear A20
 have H' := Aside0.mk H
 clear H
 go_enter Try.func14, Try.ntmps14
 go_wp2_with (first | ((with_reducible refine gate_callee (f := 29) rfl ?_); refine goesL_ (some 11) rfl rfl Try.func29 (by kernel_rfl) rfl #[.int .u64 (IntKind.u64.wrap ((l0.length : Int)))] rfl (by (try simp only [List.map_toArray, List.map_cons, List.map_nil]); first | done | rfl | (simp only [List.length_drop, List.length_take]; rfl)) ?_; (with_reducible refine (redpencilref17_Number.calls k (IntKind.u64.wrap ((l0.length : Int))) t210 _ A2.out).mono ?_); rintro e w3 ⟨v211, rfl, ho0, hb⟩; refine ⟨_, rfl, ?_⟩; have n0_ := Aside0.mk (Kd.R_lower ho0 (below_size (by repeat (first | (with_reducible first | exact HB.out | apply below_alloc | apply pw_below_drewN | apply below_drew1) | exact HB.out)))); have n1_ := Aside0.mk (below_step (by repeat (first | (with_reducible first | exact HB.out | apply below_alloc | apply pw_below_drewN | apply below_drew1) | exact HB.out)) hb); clear HB; have HO212 := n0_; have HB := n1_; clear n0_ n1_; (try clear hb); (try clear hb2); (try clear hk); (try clear hi); (try clear ho0)))
 go_loopg [3, 4, 5, 6] k (fun kq v3 v4 v5 v6 w' => ∃ (x3_1 : List Int) (x4_1 : List Int) (x5_1 : Int) (x6_1 : Int), v5 = .int .i64 x5_1 ∧ v6 = .int .i64 x6_1 ∧ Aside0 (redpencilref17_Bytes.l0 kq l0 x3_1 x4_1 x5_1 x6_1 = some r) ∧ Aside0 (kq ≤ k) ∧ Aside0 (Kd.R (Kd.int .u8) 5 w' w.heap.size (fun k_ => some k_ ≠ (v4 : Value).ownBlock) v3 x3_1) ∧ Aside0 (Kd.R (Kd.int .u8) 5 w' w.heap.size (fun k_ => some k_ ≠ (v3 : Value).ownBlock) v4 x4_1) ∧ Aside0 (Below w.heap.size w w'))
 case atStart => exact ⟨(t210), (([] : List Int)), (0), (0), (by first | rfl | (simp; done) | (simp [*]; done)), (by first | rfl | (simp; done) | (simp [*]; done)), H', ⟨Nat.le_refl _⟩, ⟨by (with_reducible repeat (first | apply Kd.R_alloc | apply Kd.R_drewN | apply Kd.R_drew)); exact Kd.R_mono HO212.out (fun _ hk => (by simp [Value.ownBlock]))⟩, ⟨by first | exact Kd.R_nil _ _ _ _ _ | exact Kd.N_nil _ _ _ _ _ | exact Kd.V_nil _ _ _ _ _ | exact Kd.Q_nil _ _ _ _ _ | exact Kd.S_nil _ _ _ _ _⟩, ⟨by repeat (first | (with_reducible first | exact HB.out | apply below_alloc | apply pw_below_drewN | apply below_drew1) | exact HB.out)⟩⟩
 case round =>
  clear H'
  try clear c1
  try clear c2
  try clear p2
  obtain ⟨x3_1, x4_1, x5_1, x6_1, rfl, rfl, HA, HK1, HO_3, HO_4, HB⟩ := hrel
  cases gk with
  | zero => exact absurd HA.out (by simp [redpencilref17_Bytes.l0])
  | succ k1 =>
   have H := HA.out
   clear HA
   simp only [redpencilref17_Bytes.l0] at H
   by_cases c4 : x6_1 < (l0.length : Int)
   ·
    rw [if_pos c4] at H
    have c4b0 : decide (x6_1 < (l0.length : Int)) = true := decide_eq_true c4
    clear c4
    by_cases c5 : 0 ≤ x6_1
    ·
     rw [if_pos c5] at H
     have c5b0 : decide (0 ≤ x6_1) = true := decide_eq_true c5
     clear c5
     replace H := Option.bind_eq_some_iff.mp H
     obtain ⟨t224, A60, H⟩ := H
     replace H : (if x3_1.length + t224.length < 140737488355328 then ((some (x3_1 ++ t224 : List Int)).bind fun y227 => ((redpencilref17_Number.f k1 (IntKind.u64.wrap (wrap64 (((rd_T38 l0 x6_1).f0.f1) - x5_1)))).bind fun t230 => (if y227.length + t230.length < 140737488355328 then ((some (y227 ++ t230 : List Int)).bind fun y233 => ((redpencilref17_Number.f k1 (IntKind.u64.wrap ((rd_T38 l0 x6_1).f1.f0))).bind fun t236 => (if y233.length + t236.length < 140737488355328 then ((some (y233 ++ t236 : List Int)).bind fun y239 => (if ((rd_T38 l0 x6_1).f1.f0) = 0 then (redpencilref17_Bytes.j1 k1 l0 y239 x4_1 ((rd_T38 l0 x6_1).f0.f1) x6_1 ((rd_T38 l0 x6_1).f0.f0) ((rd_T38 l0 x6_1).f0.f1) ((rd_T38 l0 x6_1).f1.f0) ((rd_T38 l0 x6_1).f1.f1) ((rd_T38 l0 x6_1).f2) ((rd_T38 l0 x6_1).f3)) else ((redpencilref17_Number.f k1 (IntKind.u64.wrap ((rd_T38 l0 x6_1).f1.f1))).bind fun t242 => (if y239.length + t242.length < 140737488355328 then (redpencilref17_Bytes.j1 k1 l0 (y239 ++ t242) x4_1 ((rd_T38 l0 x6_1).f0.f1) x6_1 ((rd_T38 l0 x6_1).f0.f0) ((rd_T38 l0 x6_1).f0.f1) ((rd_T38 l0 x6_1).f1.f0) ((rd_T38 l0 x6_1).f1.f1) ((rd_T38 l0 x6_1).f2) ((rd_T38 l0 x6_1).f3)) else (none))))) else (none)))) else (none)))) else (none)) = some r := H
     have A6 := Aside0.mk A60
     clear A60
     by_cases c7 : x3_1.length + t224.length < 140737488355328
     ·
      rw [if_pos c7] at H
      have LMc7 := Aside0.mk c7
      clear c7
      obtain ⟨y227, hy227⟩ : ∃ y_ : List Int, y_ = (x3_1 ++ t224) := ⟨_, rfl⟩
      replace H : ((redpencilref17_Number.f k1 (IntKind.u64.wrap (wrap64 (((rd_T38 l0 x6_1).f0.f1) - x5_1)))).bind fun t230 => (if y227.length + t230.length < 140737488355328 then ((some (y227 ++ t230 : List Int)).bind fun y233 => ((redpencilref17_Number.f k1 (IntKind.u64.wrap ((rd_T38 l0 x6_1).f1.f0))).bind fun t236 => (if y233.length + t236.length < 140737488355328 then ((some (y233 ++ t236 : List Int)).bind fun y239 => (if ((rd_T38 l0 x6_1).f1.f0) = 0 then (redpencilref17_Bytes.j1 k1 l0 y239 x4_1 ((rd_T38 l0 x6_1).f0.f1) x6_1 ((rd_T38 l0 x6_1).f0.f0) ((rd_T38 l0 x6_1).f0.f1) ((rd_T38 l0 x6_1).f1.f0) ((rd_T38 l0 x6_1).f1.f1) ((rd_T38 l0 x6_1).f2) ((rd_T38 l0 x6_1).f3)) else ((redpencilref17_Number.f k1 (IntKind.u64.wrap ((rd_T38 l0 x6_1).f1.f1))).bind fun t242 => (if y239.length + t242.length < 140737488355328 then (redpencilref17_Bytes.j1 k1 l0 (y239 ++ t242) x4_1 ((rd_T38 l0 x6_1).f0.f1) x6_1 ((rd_T38 l0 x6_1).f0.f0) ((rd_T38 l0 x6_1).f0.f1) ((rd_T38 l0 x6_1).f1.f0) ((rd_T38 l0 x6_1).f1.f1) ((rd_T38 l0 x6_1).f2) ((rd_T38 l0 x6_1).f3)) else (none))))) else (none)))) else (none))) = some r := by first | (rw [hy227]; with_reducible exact H) | (have H2_ := (Option.bind_some _ _).symm.trans H; rw [hy227]; with_reducible exact H2_) | (have H2_ := (Option.bind_some _ _).symm.trans H; with_reducible exact H2_) | with_reducible exact H | (rw [hy227]; exact H) | exact H
      have Ny227 := Aside0.mk hy227
      clear hy227
      replace H := Option.bind_eq_some_iff.mp H
      obtain ⟨t230, A80, H⟩ := H
      replace H : (if y227.length + t230.length < 140737488355328 then ((some (y227 ++ t230 : List Int)).bind fun y233 => ((redpencilref17_Number.f k1 (IntKind.u64.wrap ((rd_T38 l0 x6_1).f1.f0))).bind fun t236 => (if y233.length + t236.length < 140737488355328 then ((some (y233 ++ t236 : List Int)).bind fun y239 => (if ((rd_T38 l0 x6_1).f1.f0) = 0 then (redpencilref17_Bytes.j1 k1 l0 y239 x4_1 ((rd_T38 l0 x6_1).f0.f1) x6_1 ((rd_T38 l0 x6_1).f0.f0) ((rd_T38 l0 x6_1).f0.f1) ((rd_T38 l0 x6_1).f1.f0) ((rd_T38 l0 x6_1).f1.f1) ((rd_T38 l0 x6_1).f2) ((rd_T38 l0 x6_1).f3)) else ((redpencilref17_Number.f k1 (IntKind.u64.wrap ((rd_T38 l0 x6_1).f1.f1))).bind fun t242 => (if y239.length + t242.length < 140737488355328 then (redpencilref17_Bytes.j1 k1 l0 (y239 ++ t242) x4_1 ((rd_T38 l0 x6_1).f0.f1) x6_1 ((rd_T38 l0 x6_1).f0.f0) ((rd_T38 l0 x6_1).f0.f1) ((rd_T38 l0 x6_1).f1.f0) ((rd_T38 l0 x6_1).f1.f1) ((rd_T38 l0 x6_1).f2) ((rd_T38 l0 x6_1).f3)) else (none))))) else (none)))) else (none)) = some r := H
      have A8 := Aside0.mk A80
      clear A80
      by_cases c9 : y227.length + t230.length < 140737488355328
      ·
       rw [if_pos c9] at H
       have LMc9 := Aside0.mk c9
       clear c9
       obtain ⟨y233, hy233⟩ : ∃ y_ : List Int, y_ = (y227 ++ t230) := ⟨_, rfl⟩
       replace H : ((redpencilref17_Number.f k1 (IntKind.u64.wrap ((rd_T38 l0 x6_1).f1.f0))).bind fun t236 => (if y233.length + t236.length < 140737488355328 then ((some (y233 ++ t236 : List Int)).bind fun y239 => (if ((rd_T38 l0 x6_1).f1.f0) = 0 then (redpencilref17_Bytes.j1 k1 l0 y239 x4_1 ((rd_T38 l0 x6_1).f0.f1) x6_1 ((rd_T38 l0 x6_1).f0.f0) ((rd_T38 l0 x6_1).f0.f1) ((rd_T38 l0 x6_1).f1.f0) ((rd_T38 l0 x6_1).f1.f1) ((rd_T38 l0 x6_1).f2) ((rd_T38 l0 x6_1).f3)) else ((redpencilref17_Number.f k1 (IntKind.u64.wrap ((rd_T38 l0 x6_1).f1.f1))).bind fun t242 => (if y239.length + t242.length < 140737488355328 then (redpencilref17_Bytes.j1 k1 l0 (y239 ++ t242) x4_1 ((rd_T38 l0 x6_1).f0.f1) x6_1 ((rd_T38 l0 x6_1).f0.f0) ((rd_T38 l0 x6_1).f0.f1) ((rd_T38 l0 x6_1).f1.f0) ((rd_T38 l0 x6_1).f1.f1) ((rd_T38 l0 x6_1).f2) ((rd_T38 l0 x6_1).f3)) else (none))))) else (none))) = some r := by first | (rw [hy233]; with_reducible exact H) | (have H2_ := (Option.bind_some _ _).symm.trans H; rw [hy233]; with_reducible exact H2_) | (have H2_ := (Option.bind_some _ _).symm.trans H; with_reducible exact H2_) | with_reducible exact H | (rw [hy233]; exact H) | exact H
       have Ny233 := Aside0.mk hy233
       clear hy233
       replace H := Option.bind_eq_some_iff.mp H
       obtain ⟨t236, A100, H⟩ := H
       replace H : (if y233.length + t236.length < 140737488355328 then ((some (y233 ++ t236 : List Int)).bind fun y239 => (if ((rd_T38 l0 x6_1).f1.f0) = 0 then (redpencilref17_Bytes.j1 k1 l0 y239 x4_1 ((rd_T38 l0 x6_1).f0.f1) x6_1 ((rd_T38 l0 x6_1).f0.f0) ((rd_T38 l0 x6_1).f0.f1) ((rd_T38 l0 x6_1).f1.f0) ((rd_T38 l0 x6_1).f1.f1) ((rd_T38 l0 x6_1).f2) ((rd_T38 l0 x6_1).f3)) else ((redpencilref17_Number.f k1 (IntKind.u64.wrap ((rd_T38 l0 x6_1).f1.f1))).bind fun t242 => (if y239.length + t242.length < 140737488355328 then (redpencilref17_Bytes.j1 k1 l0 (y239 ++ t242) x4_1 ((rd_T38 l0 x6_1).f0.f1) x6_1 ((rd_T38 l0 x6_1).f0.f0) ((rd_T38 l0 x6_1).f0.f1) ((rd_T38 l0 x6_1).f1.f0) ((rd_T38 l0 x6_1).f1.f1) ((rd_T38 l0 x6_1).f2) ((rd_T38 l0 x6_1).f3)) else (none))))) else (none)) = some r := H
       have A10 := Aside0.mk A100
       clear A100
       by_cases c11 : y233.length + t236.length < 140737488355328
       ·
        rw [if_pos c11] at H
        have LMc11 := Aside0.mk c11
        clear c11
        obtain ⟨y239, hy239⟩ : ∃ y_ : List Int, y_ = (y233 ++ t236) := ⟨_, rfl⟩
        replace H : (if ((rd_T38 l0 x6_1).f1.f0) = 0 then (redpencilref17_Bytes.j1 k1 l0 y239 x4_1 ((rd_T38 l0 x6_1).f0.f1) x6_1 ((rd_T38 l0 x6_1).f0.f0) ((rd_T38 l0 x6_1).f0.f1) ((rd_T38 l0 x6_1).f1.f0) ((rd_T38 l0 x6_1).f1.f1) ((rd_T38 l0 x6_1).f2) ((rd_T38 l0 x6_1).f3)) else ((redpencilref17_Number.f k1 (IntKind.u64.wrap ((rd_T38 l0 x6_1).f1.f1))).bind fun t242 => (if y239.length + t242.length < 140737488355328 then (redpencilref17_Bytes.j1 k1 l0 (y239 ++ t242) x4_1 ((rd_T38 l0 x6_1).f0.f1) x6_1 ((rd_T38 l0 x6_1).f0.f0) ((rd_T38 l0 x6_1).f0.f1) ((rd_T38 l0 x6_1).f1.f0) ((rd_T38 l0 x6_1).f1.f1) ((rd_T38 l0 x6_1).f2) ((rd_T38 l0 x6_1).f3)) else (none)))) = some r := by first | (rw [hy239]; with_reducible exact H) | (have H2_ := (Option.bind_some _ _).symm.trans H; rw [hy239]; with_reducible exact H2_) | (have H2_ := (Option.bind_some _ _).symm.trans H; with_reducible exact H2_) | with_reducible exact H | (rw [hy239]; exact H) | exact H
        have Ny239 := Aside0.mk hy239
        clear hy239
        have HC12 := Aside0.mk H
        clear H
        have p222 : 0 ≤ (x6_1 : Int) := of_decide_eq_true (by first | (with_reducible assumption) | assumption)
        have q222 : x6_1 < (l0.length : Int) := of_decide_eq_true (by first | (with_reducible assumption) | assumption)
        obtain ⟨ad222, e222, hx222_0, hx222_1, hx222_2, hx222_3, hx222_4, hx222_5⟩ := at_T38 HR0.out x6_1 p222 q222
        cases e222
        replace hx222_0 := (HB.out.cell (World.block_lt_of_cell? w _ hx222_0)).trans hx222_0
        replace hx222_1 := (HB.out.cell (World.block_lt_of_cell? w _ hx222_1)).trans hx222_1
        replace hx222_2 := (HB.out.cell (World.block_lt_of_cell? w _ hx222_2)).trans hx222_2
        replace hx222_3 := (HB.out.cell (World.block_lt_of_cell? w _ hx222_3)).trans hx222_3
        replace hx222_4 := (HB.out.cell (World.block_lt_of_cell? w _ hx222_4)).trans hx222_4
        replace hx222_5 := (HB.out.cell (World.block_lt_of_cell? w _ hx222_5)).trans hx222_5
        replace p222 := eq_true p222
        replace q222 := eq_true q222
        try go_wp2_with (first | ((with_reducible refine gate_dst (N := 7) rfl ?_); refine box_event ?hg (N := 7) ?hd (cs := #[.int .i64 0, .int .i64 0, .int .i64 0, .int .i64 0, .int .i64 0, .int .i32 0]) (t := 38) ?hr ?_; (case hd => rfl); (case hg => rfl); (case hr => first | (go_simp; done) | (go_simp; rfl)); intro gb223 hg w13 hbox hb; have n0_ := Aside0.mk (Kd.R_below (by (with_reducible repeat (first | apply Kd.R_alloc | apply Kd.R_drewN | apply Kd.R_drew)); exact HO_3.out) hb); have n1_ := Aside0.mk (Kd.R_below (by (with_reducible repeat (first | apply Kd.R_alloc | apply Kd.R_drewN | apply Kd.R_drew)); exact HO_4.out) hb); have n2_ := Aside0.mk (below_step (by repeat (first | (with_reducible first | exact HB.out | apply below_alloc | apply pw_below_drewN | apply below_drew1) | exact HB.out)) hb); have n3_ := Aside0.mk (hbox); have n4_ := Aside0.mk ((by rw [hg]; exact (below_size (by repeat (first | (with_reducible first | exact HB.out | apply below_alloc | apply pw_below_drewN | apply below_drew1) | exact HB.out))) : w.heap.size ≤ gb223)); have n5_ := Aside0.mk ((by rw [hg]; exact (below_size (by repeat (first | (with_reducible first | exact HB.out | apply below_alloc | apply pw_below_drewN | apply below_drew1) | exact HB.out))) : w.heap.size ≤ gb223)); clear HO_3; clear HO_4; clear HB; have HO_3 := n0_; have HO_4 := n1_; have HB := n2_; have BK223 := n3_; have GW223 := n4_; have GE223 := n5_; clear n0_ n1_ n2_ n3_ n4_ n5_; clear hb hbox hg; have hcz14_0 : w13.cell? ⟨gb223, 0, none⟩ = some (.int .i64 0) := (blk_cell BK223.out 0).trans rfl; have hcz14_1 : w13.cell? ⟨gb223, 1, none⟩ = some (.int .i64 0) := (blk_cell BK223.out 1).trans rfl; have hcz14_2 : w13.cell? ⟨gb223, 2, none⟩ = some (.int .i64 0) := (blk_cell BK223.out 2).trans rfl; have hcz14_3 : w13.cell? ⟨gb223, 3, none⟩ = some (.int .i64 0) := (blk_cell BK223.out 3).trans rfl; have hcz14_4 : w13.cell? ⟨gb223, 4, none⟩ = some (.int .i64 0) := (blk_cell BK223.out 4).trans rfl; have hcz14_5 : w13.cell? ⟨gb223, 5, none⟩ = some (.int .i32 0) := (blk_cell BK223.out 5).trans rfl; have hfz14_0 := blk_frozen BK223.out 0; have hfz14_1 := blk_frozen BK223.out 1; have hfz14_2 := blk_frozen BK223.out 2; have hfz14_3 := blk_frozen BK223.out 3; have hfz14_4 := blk_frozen BK223.out 4; have hfz14_5 := blk_frozen BK223.out 5))
        have n0_ : Aside0 (Kd.R (Kd.int .u8) 5 ((((((w13.setCell ⟨gb223, 0, none⟩ (.int .i64 ((rd_T38 l0 x6_1).f0.f0))).setCell ⟨gb223, 1, none⟩ (.int .i64 ((rd_T38 l0 x6_1).f0.f1))).setCell ⟨gb223, 2, none⟩ (.int .i64 ((rd_T38 l0 x6_1).f1.f0))).setCell ⟨gb223, 3, none⟩ (.int .i64 ((rd_T38 l0 x6_1).f1.f1))).setCell ⟨gb223, 4, none⟩ (.int .i64 ((rd_T38 l0 x6_1).f2))).setCell ⟨gb223, 5, none⟩ (.int .i32 ((rd_T38 l0 x6_1).f3))) w.heap.size (fun k_ => some k_ ≠ (u4 : Value).ownBlock) u3 x3_1) := ⟨by (with_reducible repeat (first | apply Kd.R_alloc | apply Kd.R_drewN | apply Kd.R_drew)); exact Kd.R_mono (Kd.R_far (p := ⟨gb223, 5, none⟩) (Kd.R_far (p := ⟨gb223, 4, none⟩) (Kd.R_far (p := ⟨gb223, 3, none⟩) (Kd.R_far (p := ⟨gb223, 2, none⟩) (Kd.R_far (p := ⟨gb223, 1, none⟩) (Kd.R_far (p := ⟨gb223, 0, none⟩) (Kd.R_types HO_3.out BK223.out (by decide)) (fun _ hk => hk.2) (.int .i64 ((rd_T38 l0 x6_1).f0.f0))) (fun _ hk => hk.2) (.int .i64 ((rd_T38 l0 x6_1).f0.f1))) (fun _ hk => hk.2) (.int .i64 ((rd_T38 l0 x6_1).f1.f0))) (fun _ hk => hk.2) (.int .i64 ((rd_T38 l0 x6_1).f1.f1))) (fun _ hk => hk.2) (.int .i64 ((rd_T38 l0 x6_1).f2))) (fun _ hk => hk.2) (.int .i32 ((rd_T38 l0 x6_1).f3))) (fun _ hk => hk.1)⟩
        have n1_ : Aside0 (Kd.R (Kd.int .u8) 5 ((((((w13.setCell ⟨gb223, 0, none⟩ (.int .i64 ((rd_T38 l0 x6_1).f0.f0))).setCell ⟨gb223, 1, none⟩ (.int .i64 ((rd_T38 l0 x6_1).f0.f1))).setCell ⟨gb223, 2, none⟩ (.int .i64 ((rd_T38 l0 x6_1).f1.f0))).setCell ⟨gb223, 3, none⟩ (.int .i64 ((rd_T38 l0 x6_1).f1.f1))).setCell ⟨gb223, 4, none⟩ (.int .i64 ((rd_T38 l0 x6_1).f2))).setCell ⟨gb223, 5, none⟩ (.int .i32 ((rd_T38 l0 x6_1).f3))) w.heap.size (fun k_ => some k_ ≠ (u3 : Value).ownBlock) u4 x4_1) := ⟨by (with_reducible repeat (first | apply Kd.R_alloc | apply Kd.R_drewN | apply Kd.R_drew)); exact Kd.R_mono (Kd.R_far (p := ⟨gb223, 5, none⟩) (Kd.R_far (p := ⟨gb223, 4, none⟩) (Kd.R_far (p := ⟨gb223, 3, none⟩) (Kd.R_far (p := ⟨gb223, 2, none⟩) (Kd.R_far (p := ⟨gb223, 1, none⟩) (Kd.R_far (p := ⟨gb223, 0, none⟩) (Kd.R_types HO_4.out BK223.out (by decide)) (fun _ hk => hk.2) (.int .i64 ((rd_T38 l0 x6_1).f0.f0))) (fun _ hk => hk.2) (.int .i64 ((rd_T38 l0 x6_1).f0.f1))) (fun _ hk => hk.2) (.int .i64 ((rd_T38 l0 x6_1).f1.f0))) (fun _ hk => hk.2) (.int .i64 ((rd_T38 l0 x6_1).f1.f1))) (fun _ hk => hk.2) (.int .i64 ((rd_T38 l0 x6_1).f2))) (fun _ hk => hk.2) (.int .i32 ((rd_T38 l0 x6_1).f3))) (fun _ hk => hk.1)⟩
        have n2_ : Aside0 (((((((w13.setCell ⟨gb223, 0, none⟩ (.int .i64 ((rd_T38 l0 x6_1).f0.f0))).setCell ⟨gb223, 1, none⟩ (.int .i64 ((rd_T38 l0 x6_1).f0.f1))).setCell ⟨gb223, 2, none⟩ (.int .i64 ((rd_T38 l0 x6_1).f1.f0))).setCell ⟨gb223, 3, none⟩ (.int .i64 ((rd_T38 l0 x6_1).f1.f1))).setCell ⟨gb223, 4, none⟩ (.int .i64 ((rd_T38 l0 x6_1).f2))).setCell ⟨gb223, 5, none⟩ (.int .i32 ((rd_T38 l0 x6_1).f3))).heap[gb223]? = some (.cells #[.int .i64 ((rd_T38 l0 x6_1).f0.f0), .int .i64 ((rd_T38 l0 x6_1).f0.f1), .int .i64 ((rd_T38 l0 x6_1).f1.f0), .int .i64 ((rd_T38 l0 x6_1).f1.f1), .int .i64 ((rd_T38 l0 x6_1).f2), .int .i32 ((rd_T38 l0 x6_1).f3)] 38 (0, 0))) := ⟨by (with_reducible repeat (first | refine blk_drewN ?_ _ | refine blk_drew ?_ | refine blk_alloc ?_ _)); refine blk_put (cs := #[.int .i64 ((rd_T38 l0 x6_1).f0.f0), .int .i64 ((rd_T38 l0 x6_1).f0.f1), .int .i64 ((rd_T38 l0 x6_1).f1.f0), .int .i64 ((rd_T38 l0 x6_1).f1.f1), .int .i64 ((rd_T38 l0 x6_1).f2), .int .i32 0]) ?_ 5 _ rfl; (with_reducible repeat (first | refine blk_drewN ?_ _ | refine blk_drew ?_ | refine blk_alloc ?_ _)); refine blk_put (cs := #[.int .i64 ((rd_T38 l0 x6_1).f0.f0), .int .i64 ((rd_T38 l0 x6_1).f0.f1), .int .i64 ((rd_T38 l0 x6_1).f1.f0), .int .i64 ((rd_T38 l0 x6_1).f1.f1), .int .i64 0, .int .i32 0]) ?_ 4 _ rfl; (with_reducible repeat (first | refine blk_drewN ?_ _ | refine blk_drew ?_ | refine blk_alloc ?_ _)); refine blk_put (cs := #[.int .i64 ((rd_T38 l0 x6_1).f0.f0), .int .i64 ((rd_T38 l0 x6_1).f0.f1), .int .i64 ((rd_T38 l0 x6_1).f1.f0), .int .i64 0, .int .i64 0, .int .i32 0]) ?_ 3 _ rfl; (with_reducible repeat (first | refine blk_drewN ?_ _ | refine blk_drew ?_ | refine blk_alloc ?_ _)); refine blk_put (cs := #[.int .i64 ((rd_T38 l0 x6_1).f0.f0), .int .i64 ((rd_T38 l0 x6_1).f0.f1), .int .i64 0, .int .i64 0, .int .i64 0, .int .i32 0]) ?_ 2 _ rfl; (with_reducible repeat (first | refine blk_drewN ?_ _ | refine blk_drew ?_ | refine blk_alloc ?_ _)); refine blk_put (cs := #[.int .i64 ((rd_T38 l0 x6_1).f0.f0), .int .i64 0, .int .i64 0, .int .i64 0, .int .i64 0, .int .i32 0]) ?_ 1 _ rfl; (with_reducible repeat (first | refine blk_drewN ?_ _ | refine blk_drew ?_ | refine blk_alloc ?_ _)); refine blk_put (cs := #[.int .i64 0, .int .i64 0, .int .i64 0, .int .i64 0, .int .i64 0, .int .i32 0]) ?_ 0 _ rfl; (with_reducible repeat (first | refine blk_drewN ?_ _ | refine blk_drew ?_ | refine blk_alloc ?_ _)); exact BK223.out⟩
        have n3_ : Aside0 (Below w.heap.size w ((((((w13.setCell ⟨gb223, 0, none⟩ (.int .i64 ((rd_T38 l0 x6_1).f0.f0))).setCell ⟨gb223, 1, none⟩ (.int .i64 ((rd_T38 l0 x6_1).f0.f1))).setCell ⟨gb223, 2, none⟩ (.int .i64 ((rd_T38 l0 x6_1).f1.f0))).setCell ⟨gb223, 3, none⟩ (.int .i64 ((rd_T38 l0 x6_1).f1.f1))).setCell ⟨gb223, 4, none⟩ (.int .i64 ((rd_T38 l0 x6_1).f2))).setCell ⟨gb223, 5, none⟩ (.int .i32 ((rd_T38 l0 x6_1).f3)))) := ⟨by repeat (first | (with_reducible first | exact HB.out | apply below_alloc | apply pw_below_drewN | apply below_drew1 | refine below_set ?_ GE223.out) | exact HB.out)⟩
        (try clear HO_3)
        (try clear HO_4)
        (try clear BK223)
        (try clear HB)
        generalize ((((((w13.setCell ⟨gb223, 0, none⟩ (.int .i64 ((rd_T38 l0 x6_1).f0.f0))).setCell ⟨gb223, 1, none⟩ (.int .i64 ((rd_T38 l0 x6_1).f0.f1))).setCell ⟨gb223, 2, none⟩ (.int .i64 ((rd_T38 l0 x6_1).f1.f0))).setCell ⟨gb223, 3, none⟩ (.int .i64 ((rd_T38 l0 x6_1).f1.f1))).setCell ⟨gb223, 4, none⟩ (.int .i64 ((rd_T38 l0 x6_1).f2))).setCell ⟨gb223, 5, none⟩ (.int .i32 ((rd_T38 l0 x6_1).f3))) = w15 at n0_ n1_ n2_ n3_ ⊢
        have HO_3 := n0_
        have HO_4 := n1_
        have BK223 := n2_
        have HB := n3_
        clear n0_ n1_ n2_ n3_
        have n0_ := Aside0.mk (Kd.R_drew HO_3.out)
        have n1_ := Aside0.mk (Kd.R_drew HO_4.out)
        have n2_ := Aside0.mk (blk_drew BK223.out)
        have n3_ := Aside0.mk (below_drew1 HB.out)
        clear HO_3
        clear HO_4
        clear BK223
        clear HB
        have HO_3 := n0_
        have HO_4 := n1_
        have BK223 := n2_
        have HB := n3_
        clear n0_ n1_ n2_ n3_
        refine start_ (n := 16) (S := fun w' => w'.cell? ⟨gb223, 0, none⟩ = some (.int .i64 ((rd_T38 l0 x6_1).f0.f0)) ∧ w'.cell? ⟨gb223, 1, none⟩ = some (.int .i64 ((rd_T38 l0 x6_1).f0.f1)) ∧ w'.cell? ⟨gb223, 2, none⟩ = some (.int .i64 ((rd_T38 l0 x6_1).f1.f0)) ∧ w'.cell? ⟨gb223, 3, none⟩ = some (.int .i64 ((rd_T38 l0 x6_1).f1.f1)) ∧ w'.cell? ⟨gb223, 4, none⟩ = some (.int .i64 ((rd_T38 l0 x6_1).f2)) ∧ w'.cell? ⟨gb223, 5, none⟩ = some (.int .i32 ((rd_T38 l0 x6_1).f3))) (ds := []) #[false, false, false, false, false, false, false, false, false, false, false, false, false, false, false, false] (by kernel_rfl) rfl rfl ⟨(blk_cell BK223.out 0).trans rfl, (blk_cell BK223.out 1).trans rfl, (blk_cell BK223.out 2).trans rfl, (blk_cell BK223.out 3).trans rfl, (blk_cell BK223.out 4).trans rfl, (blk_cell BK223.out 5).trans rfl⟩ (fun hHeld => ?_); refine with_tabW redpencilref17_Bytes.tab8 redpencilref17_Bytes.bits8 (fun HT_ HW_ => ?_)
        generalize w15.drew = w16 at HO_3 HO_4 BK223 HB hHeld ⊢
        refine pure_ (i := 0) (N := some 22) (v := ?_) (a' := ?_) #[true, false, false, false, false, false, false, false, false, false, false, false, false, false, false, false] rfl rfl (any_of HT_.out (by kernel_rfl)) (fun _ _ _ h => h) (Or.inl ⟨by rfl, ?_⟩) ?_ ?_
        rotate_left
        ·
         intro w'
         go_simp
         with_reducible rfl
        rotate_left
        ·
         simp only [Act.put, List.setIfInBounds_toArray, List.set_cons_zero, List.set_cons_succ, i64_w, i32_w]
         rfl
        refine pure_ (i := 1) (N := some 23) (v := ?_) (a' := ?_) #[true, true, false, false, false, false, false, false, false, false, false, false, false, false, false, false] rfl rfl (any_of HT_.out (by kernel_rfl)) (fun _ _ _ h => h) (Or.inl ⟨by rfl, ?_⟩) ?_ ?_
        rotate_left
        ·
         intro w'
         go_simp
         with_reducible rfl
        rotate_left
        ·
         simp only [Act.put, List.setIfInBounds_toArray, List.set_cons_zero, List.set_cons_succ, i64_w, i32_w]
         rfl
        refine pure_ (i := 2) (N := some 24) (v := ?_) (a' := ?_) #[true, true, true, false, false, false, false, false, false, false, false, false, false, false, false, false] rfl rfl (any_of HT_.out (by kernel_rfl)) (fun _ _ _ h => h) (Or.inl ⟨by rfl, ?_⟩) ?_ ?_
        rotate_left
        ·
         intro w'
         go_simp
         with_reducible rfl
        rotate_left
        ·
         simp only [Act.put, List.setIfInBounds_toArray, List.set_cons_zero, List.set_cons_succ, i64_w, i32_w]
         rfl
        refine pure_ (i := 7) (N := some 29) (v := ?_) (a' := ?_) #[true, true, true, false, false, false, false, true, false, false, false, false, false, false, false, false] rfl rfl (any_of HT_.out (by kernel_rfl)) (fun _ _ _ h => h) (Or.inl ⟨by rfl, ?_⟩) ?_ ?_
        rotate_left
        ·
         intro w'
         go_simp
         with_reducible rfl
        rotate_left
        ·
         simp only [Act.put, List.setIfInBounds_toArray, List.set_cons_zero, List.set_cons_succ, i64_w, i32_w]
         rfl
        refine pure_ (i := 8) (N := some 30) (v := ?_) (a' := ?_) #[true, true, true, false, false, false, false, true, true, false, false, false, false, false, false, false] rfl rfl (any_of HT_.out (by kernel_rfl)) (fun _ _ _ h => h) (Or.inl ⟨by rfl, ?_⟩) ?_ ?_
        rotate_left
        ·
         intro w'
         go_simp
         with_reducible rfl
        rotate_left
        ·
         simp only [Act.put, List.setIfInBounds_toArray, List.set_cons_zero, List.set_cons_succ, i64_w, i32_w]
         rfl
        refine pure_ (i := 10) (N := some 32) (v := ?_) (a' := ?_) #[true, true, true, false, false, false, false, true, true, false, true, false, false, false, false, false] rfl rfl (any_of HT_.out (by kernel_rfl)) (fun _ _ _ h => h) (Or.inl ⟨by rfl, ?_⟩) ?_ ?_
        rotate_left
        ·
         intro w'
         go_simp
         with_reducible rfl
        rotate_left
        ·
         simp only [Act.put, List.setIfInBounds_toArray, List.set_cons_zero, List.set_cons_succ, i64_w, i32_w]
         rfl
        refine take_ (i := 3) (N := some 25) (v := ?_) (a' := ?_) #[true, true, true, true, false, false, false, true, true, false, true, false, false, false, false, false] rfl rfl (take_ofW HT_.out HW_.out (by kernel_rfl)) (fun _ _ _ h => h) (Or.inl ⟨by rfl, ?_⟩) hHeld ?_ ?_
        rotate_left
        ·
         rintro w' ⟨s0, s1, s2, s3, s4, s5⟩
         go_simp
         with_reducible rfl
        rotate_left
        ·
         simp only [Act.put, List.setIfInBounds_toArray, List.set_cons_zero, List.set_cons_succ, i64_w, i32_w]
         rfl
        refine pure_ (i := 4) (N := some 26) (v := ?_) (a' := ?_) #[true, true, true, true, true, false, false, true, true, false, true, false, false, false, false, false] rfl rfl (any_of HT_.out (by kernel_rfl)) (fun _ _ _ h => h) (Or.inl ⟨by rfl, ?_⟩) ?_ ?_
        rotate_left
        ·
         intro w'
         go_simp
         with_reducible rfl
        rotate_left
        ·
         simp only [Act.put, List.setIfInBounds_toArray, List.set_cons_zero, List.set_cons_succ, i64_w, i32_w]
         rfl
        refine take_ (i := 9) (N := some 31) (v := ?_) (a' := ?_) #[true, true, true, true, true, false, false, true, true, true, true, false, false, false, false, false] rfl rfl (take_ofW HT_.out HW_.out (by kernel_rfl)) (fun _ _ _ h => h) (Or.inl ⟨by rfl, ?_⟩) hHeld ?_ ?_
        rotate_left
        ·
         rintro w' ⟨s0, s1, s2, s3, s4, s5⟩
         go_simp
         with_reducible rfl
        rotate_left
        ·
         simp only [Act.put, List.setIfInBounds_toArray, List.set_cons_zero, List.set_cons_succ, i64_w, i32_w]
         rfl
        refine pure_ (i := 11) (N := some 33) (v := ?_) (a' := ?_) #[true, true, true, true, true, false, false, true, true, true, true, true, false, false, false, false] rfl rfl (any_of HT_.out (by kernel_rfl)) (fun _ _ _ h => h) (Or.inl ⟨by rfl, ?_⟩) ?_ ?_
        rotate_left
        ·
         intro w'
         go_simp
         with_reducible rfl
        rotate_left
        ·
         simp only [Act.put, List.setIfInBounds_toArray, List.set_cons_zero, List.set_cons_succ, i64_w, i32_w]
         rfl
        refine pure_ (i := 12) (N := some 34) (v := ?_) (a' := ?_) #[true, true, true, true, true, false, false, true, true, true, true, true, true, false, false, false] rfl rfl (any_of HT_.out (by kernel_rfl)) (fun _ _ _ h => h) (Or.inl ⟨by rfl, ?_⟩) ?_ ?_
        rotate_left
        ·
         intro w'
         go_simp
         with_reducible rfl
        rotate_left
        ·
         simp only [Act.put, List.setIfInBounds_toArray, List.set_cons_zero, List.set_cons_succ, i64_w, i32_w]
         rfl
        refine one_ (i := 5) (N := some 27) #[true, true, true, true, true, true, false, true, true, true, true, true, true, false, false, false] rfl rfl (one_of HT_.out (by kernel_rfl)) (by decide) (fun K hK => ?_)
        refine goes_ Try.func29 (by kernel_rfl) rfl #[.int .u64 (IntKind.u64.wrap ((rd_T38 l0 x6_1).f0.f0))] (by rfl) rfl rfl (by (try simp only [List.map_toArray, List.map_cons, List.map_nil]); first | done | rfl | (simp only [List.length_drop, List.length_take]; rfl)) ?_
        with_reducible refine (redpencilref17_Number.calls k1 (IntKind.u64.wrap ((rd_T38 l0 x6_1).f0.f0)) t224 _ A6.out).mono ?_
        rintro e w17 ⟨v225, rfl, ho0, hb⟩
        refine ⟨_, rfl, ?_⟩
        have n0_ := Aside0.mk (Kd.R_elder' (by (with_reducible repeat (first | apply Kd.R_alloc | apply Kd.R_drewN | apply Kd.R_drew)); exact HO_3.out) (Kd.R_base ho0) hb)
        have n1_ := Aside0.mk (Kd.R_elder' (by (with_reducible repeat (first | apply Kd.R_alloc | apply Kd.R_drewN | apply Kd.R_drew)); exact HO_4.out) (Kd.R_base ho0) hb)
        have n2_ := Aside0.mk (Kd.R_lower (Kd.R_new' (Kd.R_new' ho0 (Kd.R_lt (by (with_reducible repeat (first | apply Kd.R_alloc | apply Kd.R_drewN | apply Kd.R_drew)); exact HO_3.out))) (Kd.R_lt (by (with_reducible repeat (first | apply Kd.R_alloc | apply Kd.R_drewN | apply Kd.R_drew)); exact HO_4.out))) (below_size (by repeat (first | (with_reducible first | exact HB.out | apply below_alloc | apply pw_below_drewN | apply below_drew1 | refine below_set ?_ GE223.out) | exact HB.out))))
        have n3_ := Aside0.mk (blk_below (g := gb223) (o := .cells #[.int .i64 ((rd_T38 l0 x6_1).f0.f0), .int .i64 ((rd_T38 l0 x6_1).f0.f1), .int .i64 ((rd_T38 l0 x6_1).f1.f0), .int .i64 ((rd_T38 l0 x6_1).f1.f1), .int .i64 ((rd_T38 l0 x6_1).f2), .int .i32 ((rd_T38 l0 x6_1).f3)] 38 (0, 0)) (by (with_reducible repeat (first | refine blk_drewN ?_ _ | refine blk_drew ?_ | refine blk_alloc ?_ _)); exact BK223.out) hb)
        have n4_ := Aside0.mk (below_step (by repeat (first | (with_reducible first | exact HB.out | apply below_alloc | apply pw_below_drewN | apply below_drew1 | refine below_set ?_ GE223.out) | exact HB.out)) hb)
        clear HO_3
        clear HO_4
        clear BK223
        clear HB
        have HO_3 := n0_
        have HO_4 := n1_
        have HO226 := n2_
        have BK223 := n3_
        have HB := n4_
        clear n0_ n1_ n2_ n3_ n4_
        (try clear hb)
        (try clear hb2)
        (try clear hk)
        (try clear hi)
        (try clear ho0)
        obtain ⟨Ao19, co19, eo19⟩ := Kd.R_slice HO226.out
        (first | subst eo19 | (injection eo19 with f1_ f2_ f3_; have f4_ := f1_.symm; have f5_ := f3_.symm; clear f1_ f2_ f3_; subst f4_; subst f5_))
        refine hK.out _ _ ⟨(blk_cell BK223.out 0).trans rfl, (blk_cell BK223.out 1).trans rfl, (blk_cell BK223.out 2).trans rfl, (blk_cell BK223.out 3).trans rfl, (blk_cell BK223.out 4).trans rfl, (blk_cell BK223.out 5).trans rfl⟩ (fun hHeld => ?_)
        clear hK K
        refine norm_ (a' := ?_) ?_ ?_
        rotate_left
        ·
         show Act.put _ (some 27) _ = _
         simp only [Act.put, List.setIfInBounds_toArray, List.set_cons_zero, List.set_cons_succ, i64_w, i32_w]
         rfl
        refine one_ (i := 6) (N := some 28) #[true, true, true, true, true, true, true, true, true, true, true, true, true, false, false, false] rfl rfl (one_of HT_.out (by kernel_rfl)) (by decide) (fun K hK => ?_)
        refine Kd.R_append_rows_step (Kd.int .u8) (w0 := w) w.heap.size (by rfl) (.tmp 22) (.tmp 27) 24 5 (.int .u8 0) 1 rfl Try.underlying24 info5 rfl (by decide) (by omega) u3 x3_1 t224 _ _ _ (fun k_ => some k_ ≠ (u4 : Value).ownBlock ∧ some k_ ≠ (.slice Ao19 t224.length co19 : Value).ownBlock) (fun _ => False) rfl rfl ?aO ?aR (fun _ _ h => h) (fun _ h => h.elim) ?aF ?aB ?aS ?aL ?_
        (case aR => repeat (first | exact (Kd.R_reads' HO226.out).2.2 | (with_reducible refine Kd.C_alloc ?_ _) | (with_reducible refine Kd.C_drewN ?_ _) | (with_reducible refine Kd.C_drew ?_)))
        (case aB => exact (by repeat (first | (with_reducible first | exact HB.out | apply below_alloc | apply pw_below_drewN | apply below_drew1 | refine below_set ?_ GE223.out) | exact HB.out)))
        (case aF => exact (fun k_ hk => ⟨Kd.fresh' (Kd.R_lt (by (with_reducible repeat (first | apply Kd.R_alloc | apply Kd.R_drewN | apply Kd.R_drew)); exact HO_4.out)) k_ hk, Kd.fresh' (Kd.R_lt (by (with_reducible repeat (first | apply Kd.R_alloc | apply Kd.R_drewN | apply Kd.R_drew)); exact HO226.out)) k_ hk⟩))
        (case aO => exact (by (with_reducible repeat (first | apply Kd.R_alloc | apply Kd.R_drewN | apply Kd.R_drew)); exact HO_3.out))
        (case aS => exact (below_size (by repeat (first | (with_reducible first | exact HB.out | apply below_alloc | apply pw_below_drewN | apply below_drew1 | refine below_set ?_ GE223.out) | exact HB.out))))
        (case aL => have := LMc7.out; omega)
        intro v228 w18 ho hb hg hat
        rw [← Ny227.out] at ho
        have n0_ := Aside0.mk (Kd.R_after (ok := (fun k_ => some k_ ≠ (.slice Ao19 t224.length co19 : Value).ownBlock)) (by (with_reducible repeat (first | apply Kd.R_alloc | apply Kd.R_drewN | apply Kd.R_drew)); exact Kd.R_mono HO_4.out (fun _ hk => ⟨hk.2, hk.1⟩)) hg hat)
        have n1_ := Aside0.mk (blk_grown (g := gb223) (o := .cells #[.int .i64 ((rd_T38 l0 x6_1).f0.f0), .int .i64 ((rd_T38 l0 x6_1).f0.f1), .int .i64 ((rd_T38 l0 x6_1).f1.f0), .int .i64 ((rd_T38 l0 x6_1).f1.f1), .int .i64 ((rd_T38 l0 x6_1).f2), .int .i32 ((rd_T38 l0 x6_1).f3)] 38 (0, 0)) (by (with_reducible repeat (first | refine blk_drewN ?_ _ | refine blk_drew ?_ | refine blk_alloc ?_ _)); exact BK223.out) hg (Kd.R_ne HO_3.out BK223.out (by decide)))
        have n2_ := Aside0.mk (Kd.R_after (ok := (fun k_ => some k_ ≠ (u4 : Value).ownBlock)) (by (with_reducible repeat (first | apply Kd.R_alloc | apply Kd.R_drewN | apply Kd.R_drew)); exact Kd.R_mono HO226.out (fun _ hk => ⟨hk.2, hk.1.2⟩)) hg hat)
        have n3_ := Aside0.mk (hb)
        have n4_ := Aside0.mk (ho)
        clear HO_4
        clear BK223
        clear HO226
        clear HB
        clear HO_3
        have HO_4 := n0_
        have BK223 := n1_
        have HO226 := n2_
        have HB := n3_
        have HO229 := n4_
        clear n0_ n1_ n2_ n3_ n4_
        clear ho hb hg hat
        refine hK.out _ _ ⟨(blk_cell BK223.out 0).trans rfl, (blk_cell BK223.out 1).trans rfl, (blk_cell BK223.out 2).trans rfl, (blk_cell BK223.out 3).trans rfl, (blk_cell BK223.out 4).trans rfl, (blk_cell BK223.out 5).trans rfl⟩ (fun hHeld => ?_)
        clear hK K
        refine norm_ (a' := ?_) ?_ ?_
        rotate_left
        ·
         show Act.put _ (some 28) _ = _
         simp only [Act.put, List.setIfInBounds_toArray, List.set_cons_zero, List.set_cons_succ, i64_w, i32_w]
         rfl
        refine one_ (i := 13) (N := some 35) #[true, true, true, true, true, true, true, true, true, true, true, true, true, true, false, false] rfl rfl (one_of HT_.out (by kernel_rfl)) (by decide) (fun K hK => ?_)
        refine goes_ Try.func29 (by kernel_rfl) rfl #[.int .u64 (IntKind.u64.wrap (wrap64 (((rd_T38 l0 x6_1).f0.f1) - x5_1)))] (by rfl) rfl rfl (by (try simp only [List.map_toArray, List.map_cons, List.map_nil]); first | done | rfl | (simp only [List.length_drop, List.length_take]; rfl)) ?_
        with_reducible refine (redpencilref17_Number.calls k1 (IntKind.u64.wrap (wrap64 (((rd_T38 l0 x6_1).f0.f1) - x5_1))) t230 _ A8.out).mono ?_
        rintro e w20 ⟨v231, rfl, ho0, hb⟩
        refine ⟨_, rfl, ?_⟩
        have n0_ := Aside0.mk (Kd.R_elder' (by (with_reducible repeat (first | apply Kd.R_alloc | apply Kd.R_drewN | apply Kd.R_drew)); exact HO_4.out) (Kd.R_base ho0) hb)
        have n1_ := Aside0.mk (Kd.R_elder' (by (with_reducible repeat (first | apply Kd.R_alloc | apply Kd.R_drewN | apply Kd.R_drew)); exact HO226.out) (Kd.R_base ho0) hb)
        have n2_ := Aside0.mk (Kd.R_elder' (by (with_reducible repeat (first | apply Kd.R_alloc | apply Kd.R_drewN | apply Kd.R_drew)); exact HO229.out) (Kd.R_base ho0) hb)
        have n3_ := Aside0.mk (Kd.R_lower (Kd.R_new' (Kd.R_new' (Kd.R_new' ho0 (Kd.R_lt (by (with_reducible repeat (first | apply Kd.R_alloc | apply Kd.R_drewN | apply Kd.R_drew)); exact HO_4.out))) (Kd.R_lt (by (with_reducible repeat (first | apply Kd.R_alloc | apply Kd.R_drewN | apply Kd.R_drew)); exact HO226.out))) (Kd.R_lt (by (with_reducible repeat (first | apply Kd.R_alloc | apply Kd.R_drewN | apply Kd.R_drew)); exact HO229.out))) (below_size (by repeat (first | (with_reducible first | exact HB.out | apply below_alloc | apply pw_below_drewN | apply below_drew1 | refine below_set ?_ GE223.out) | exact HB.out))))
        have n4_ := Aside0.mk (blk_below (g := gb223) (o := .cells #[.int .i64 ((rd_T38 l0 x6_1).f0.f0), .int .i64 ((rd_T38 l0 x6_1).f0.f1), .int .i64 ((rd_T38 l0 x6_1).f1.f0), .int .i64 ((rd_T38 l0 x6_1).f1.f1), .int .i64 ((rd_T38 l0 x6_1).f2), .int .i32 ((rd_T38 l0 x6_1).f3)] 38 (0, 0)) (by (with_reducible repeat (first | refine blk_drewN ?_ _ | refine blk_drew ?_ | refine blk_alloc ?_ _)); exact BK223.out) hb)
        have n5_ := Aside0.mk (below_step (by repeat (first | (with_reducible first | exact HB.out | apply below_alloc | apply pw_below_drewN | apply below_drew1 | refine below_set ?_ GE223.out) | exact HB.out)) hb)
        clear HO_4
        clear HO226
        clear HO229
        clear BK223
        clear HB
        have HO_4 := n0_
        have HO226 := n1_
        have HO229 := n2_
        have HO232 := n3_
        have BK223 := n4_
        have HB := n5_
        clear n0_ n1_ n2_ n3_ n4_ n5_
        (try clear hb)
        (try clear hb2)
        (try clear hk)
        (try clear hi)
        (try clear ho0)
        obtain ⟨Ao22, co22, eo22⟩ := Kd.R_slice HO232.out
        (first | subst eo22 | (injection eo22 with f1_ f2_ f3_; have f4_ := f1_.symm; have f5_ := f3_.symm; clear f1_ f2_ f3_; subst f4_; subst f5_))
        refine hK.out _ _ ⟨(blk_cell BK223.out 0).trans rfl, (blk_cell BK223.out 1).trans rfl, (blk_cell BK223.out 2).trans rfl, (blk_cell BK223.out 3).trans rfl, (blk_cell BK223.out 4).trans rfl, (blk_cell BK223.out 5).trans rfl⟩ (fun hHeld => ?_)
        clear hK K
        refine norm_ (a' := ?_) ?_ ?_
        rotate_left
        ·
         show Act.put _ (some 35) _ = _
         simp only [Act.put, List.setIfInBounds_toArray, List.set_cons_zero, List.set_cons_succ, i64_w, i32_w]
         rfl
        refine one_ (i := 14) (N := some 36) #[true, true, true, true, true, true, true, true, true, true, true, true, true, true, true, false] rfl rfl (one_of HT_.out (by kernel_rfl)) (by decide) (fun K hK => ?_)
        refine Kd.R_append_rows_step (Kd.int .u8) (w0 := w) w.heap.size (by rfl) (.tmp 28) (.tmp 35) 24 5 (.int .u8 0) 1 rfl Try.underlying24 info5 rfl (by decide) (by omega) v228 y227 t230 _ _ _ (fun k_ => some k_ ≠ (u4 : Value).ownBlock ∧ some k_ ≠ (.slice Ao19 t224.length co19 : Value).ownBlock ∧ some k_ ≠ (.slice Ao22 t230.length co22 : Value).ownBlock) (fun _ => False) rfl rfl ?aO ?aR (fun _ _ h => h) (fun _ h => h.elim) ?aF ?aB ?aS ?aL ?_
        (case aR => repeat (first | exact (Kd.R_reads' HO232.out).2.2 | (with_reducible refine Kd.C_alloc ?_ _) | (with_reducible refine Kd.C_drewN ?_ _) | (with_reducible refine Kd.C_drew ?_)))
        (case aB => exact (by repeat (first | (with_reducible first | exact HB.out | apply below_alloc | apply pw_below_drewN | apply below_drew1 | refine below_set ?_ GE223.out) | exact HB.out)))
        (case aF => exact (fun k_ hk => ⟨Kd.fresh' (Kd.R_lt (by (with_reducible repeat (first | apply Kd.R_alloc | apply Kd.R_drewN | apply Kd.R_drew)); exact HO_4.out)) k_ hk, Kd.fresh' (Kd.R_lt (by (with_reducible repeat (first | apply Kd.R_alloc | apply Kd.R_drewN | apply Kd.R_drew)); exact HO226.out)) k_ hk, Kd.fresh' (Kd.R_lt (by (with_reducible repeat (first | apply Kd.R_alloc | apply Kd.R_drewN | apply Kd.R_drew)); exact HO232.out)) k_ hk⟩))
        (case aO => exact (by (with_reducible repeat (first | apply Kd.R_alloc | apply Kd.R_drewN | apply Kd.R_drew)); exact Kd.R_mono HO229.out (fun _ hk => ⟨hk.1.1, ⟨hk.1.2, hk.2⟩⟩)))
        (case aS => exact (below_size (by repeat (first | (with_reducible first | exact HB.out | apply below_alloc | apply pw_below_drewN | apply below_drew1 | refine below_set ?_ GE223.out) | exact HB.out))))
        (case aL => have := LMc9.out; omega)
        intro v234 w21 ho hb hg hat
        rw [← Ny233.out] at ho
        have n0_ := Aside0.mk (Kd.R_after (ok := (fun k_ => some k_ ≠ (.slice Ao19 t224.length co19 : Value).ownBlock ∧ some k_ ≠ (.slice Ao22 t230.length co22 : Value).ownBlock)) (by (with_reducible repeat (first | apply Kd.R_alloc | apply Kd.R_drewN | apply Kd.R_drew)); exact Kd.R_mono HO_4.out (fun _ hk => ⟨⟨hk.1.1, hk.2⟩, hk.1.2⟩)) hg hat)
        have n1_ := Aside0.mk (blk_grown (g := gb223) (o := .cells #[.int .i64 ((rd_T38 l0 x6_1).f0.f0), .int .i64 ((rd_T38 l0 x6_1).f0.f1), .int .i64 ((rd_T38 l0 x6_1).f1.f0), .int .i64 ((rd_T38 l0 x6_1).f1.f1), .int .i64 ((rd_T38 l0 x6_1).f2), .int .i32 ((rd_T38 l0 x6_1).f3)] 38 (0, 0)) (by (with_reducible repeat (first | refine blk_drewN ?_ _ | refine blk_drew ?_ | refine blk_alloc ?_ _)); exact BK223.out) hg (Kd.R_ne HO229.out BK223.out (by decide)))
        have n2_ := Aside0.mk (Kd.R_after (ok := (fun k_ => some k_ ≠ (u4 : Value).ownBlock ∧ some k_ ≠ (.slice Ao22 t230.length co22 : Value).ownBlock)) (by (with_reducible repeat (first | apply Kd.R_alloc | apply Kd.R_drewN | apply Kd.R_drew)); exact Kd.R_mono HO226.out (fun _ hk => ⟨⟨hk.1.1, hk.2⟩, hk.1.2⟩)) hg hat)
        have n3_ := Aside0.mk (Kd.R_after (ok := (fun k_ => some k_ ≠ (u4 : Value).ownBlock ∧ some k_ ≠ (.slice Ao19 t224.length co19 : Value).ownBlock)) (by (with_reducible repeat (first | apply Kd.R_alloc | apply Kd.R_drewN | apply Kd.R_drew)); exact Kd.R_mono HO232.out (fun _ hk => ⟨⟨hk.1.1.2, hk.1.2⟩, hk.2⟩)) hg hat)
        have n4_ := Aside0.mk (hb)
        have n5_ := Aside0.mk (ho)
        clear HO_4
        clear BK223
        clear HO226
        clear HO232
        clear HB
        clear HO229
        have HO_4 := n0_
        have BK223 := n1_
        have HO226 := n2_
        have HO232 := n3_
        have HB := n4_
        have HO235 := n5_
        clear n0_ n1_ n2_ n3_ n4_ n5_
        clear ho hb hg hat
        refine hK.out _ _ ⟨(blk_cell BK223.out 0).trans rfl, (blk_cell BK223.out 1).trans rfl, (blk_cell BK223.out 2).trans rfl, (blk_cell BK223.out 3).trans rfl, (blk_cell BK223.out 4).trans rfl, (blk_cell BK223.out 5).trans rfl⟩ (fun hHeld => ?_)
        clear hK K
        refine norm_ (a' := ?_) ?_ ?_
        rotate_left
        ·
         show Act.put _ (some 36) _ = _
         simp only [Act.put, List.setIfInBounds_toArray, List.set_cons_zero, List.set_cons_succ, i64_w, i32_w]
         rfl
        refine pure_ (i := 15) (N := some 3) (v := ?_) (a' := ?_) #[true, true, true, true, true, true, true, true, true, true, true, true, true, true, true, true] rfl rfl (any_of HT_.out (by kernel_rfl)) (fun _ _ _ h => h) (Or.inl ⟨by rfl, ?_⟩) ?_ ?_
        rotate_left
        ·
         intro w'
         go_simp
         with_reducible rfl
        rotate_left
        ·
         simp only [Act.put, List.setIfInBounds_toArray, List.set_cons_zero, List.set_cons_succ, i64_w, i32_w]
         rfl
        refine done_ (done_of HT_.out (by kernel_rfl)) ?_
        have hcz23_0 : w21.cell? ⟨gb223, 0, none⟩ = some (.int .i64 ((rd_T38 l0 x6_1).f0.f0)) := (blk_cell BK223.out 0).trans rfl
        have hcz23_1 : w21.cell? ⟨gb223, 1, none⟩ = some (.int .i64 ((rd_T38 l0 x6_1).f0.f1)) := (blk_cell BK223.out 1).trans rfl
        have hcz23_2 : w21.cell? ⟨gb223, 2, none⟩ = some (.int .i64 ((rd_T38 l0 x6_1).f1.f0)) := (blk_cell BK223.out 2).trans rfl
        have hcz23_3 : w21.cell? ⟨gb223, 3, none⟩ = some (.int .i64 ((rd_T38 l0 x6_1).f1.f1)) := (blk_cell BK223.out 3).trans rfl
        have hcz23_4 : w21.cell? ⟨gb223, 4, none⟩ = some (.int .i64 ((rd_T38 l0 x6_1).f2)) := (blk_cell BK223.out 4).trans rfl
        have hcz23_5 : w21.cell? ⟨gb223, 5, none⟩ = some (.int .i32 ((rd_T38 l0 x6_1).f3)) := (blk_cell BK223.out 5).trans rfl
        have hfz23_0 := blk_frozen BK223.out 0
        have hfz23_1 := blk_frozen BK223.out 1
        have hfz23_2 := blk_frozen BK223.out 2
        have hfz23_3 := blk_frozen BK223.out 3
        have hfz23_4 := blk_frozen BK223.out 4
        have hfz23_5 := blk_frozen BK223.out 5
        go_upto_if 50 with (first | ((with_reducible refine gate_callee (f := 29) rfl ?_); refine goesL_ (some 45) rfl rfl Try.func29 (by kernel_rfl) rfl #[.int .u64 (IntKind.u64.wrap ((rd_T38 l0 x6_1).f1.f0))] rfl (by (try simp only [List.map_toArray, List.map_cons, List.map_nil]); first | done | rfl | (simp only [List.length_drop, List.length_take]; rfl)) ?_; (with_reducible refine (redpencilref17_Number.calls k1 (IntKind.u64.wrap ((rd_T38 l0 x6_1).f1.f0)) t236 _ A10.out).mono ?_); rintro e w24 ⟨v237, rfl, ho0, hb⟩; refine ⟨_, rfl, ?_⟩; have n0_ := Aside0.mk (Kd.R_elder' (by (with_reducible repeat (first | apply Kd.R_alloc | apply Kd.R_drewN | apply Kd.R_drew)); exact HO_4.out) (Kd.R_base ho0) hb); have n1_ := Aside0.mk (Kd.R_elder' (by (with_reducible repeat (first | apply Kd.R_alloc | apply Kd.R_drewN | apply Kd.R_drew)); exact HO226.out) (Kd.R_base ho0) hb); have n2_ := Aside0.mk (Kd.R_elder' (by (with_reducible repeat (first | apply Kd.R_alloc | apply Kd.R_drewN | apply Kd.R_drew)); exact HO232.out) (Kd.R_base ho0) hb); have n3_ := Aside0.mk (Kd.R_elder' (by (with_reducible repeat (first | apply Kd.R_alloc | apply Kd.R_drewN | apply Kd.R_drew)); exact HO235.out) (Kd.R_base ho0) hb); have n4_ := Aside0.mk (Kd.R_lower (Kd.R_new' (Kd.R_new' (Kd.R_new' (Kd.R_new' ho0 (Kd.R_lt (by (with_reducible repeat (first | apply Kd.R_alloc | apply Kd.R_drewN | apply Kd.R_drew)); exact HO_4.out))) (Kd.R_lt (by (with_reducible repeat (first | apply Kd.R_alloc | apply Kd.R_drewN | apply Kd.R_drew)); exact HO226.out))) (Kd.R_lt (by (with_reducible repeat (first | apply Kd.R_alloc | apply Kd.R_drewN | apply Kd.R_drew)); exact HO232.out))) (Kd.R_lt (by (with_reducible repeat (first | apply Kd.R_alloc | apply Kd.R_drewN | apply Kd.R_drew)); exact HO235.out))) (below_size (by repeat (first | (with_reducible first | exact HB.out | apply below_alloc | apply pw_below_drewN | apply below_drew1 | refine below_set ?_ GE223.out) | exact HB.out)))); have n5_ := Aside0.mk (blk_below (g := gb223) (o := .cells #[.int .i64 ((rd_T38 l0 x6_1).f0.f0), .int .i64 ((rd_T38 l0 x6_1).f0.f1), .int .i64 ((rd_T38 l0 x6_1).f1.f0), .int .i64 ((rd_T38 l0 x6_1).f1.f1), .int .i64 ((rd_T38 l0 x6_1).f2), .int .i32 ((rd_T38 l0 x6_1).f3)] 38 (0, 0)) (by (with_reducible repeat (first | refine blk_drewN ?_ _ | refine blk_drew ?_ | refine blk_alloc ?_ _)); exact BK223.out) hb); have n6_ := Aside0.mk (below_step (by repeat (first | (with_reducible first | exact HB.out | apply below_alloc | apply pw_below_drewN | apply below_drew1 | refine below_set ?_ GE223.out) | exact HB.out)) hb); clear HO_4; clear HO226; clear HO232; clear HO235; clear BK223; clear HB; have HO_4 := n0_; have HO226 := n1_; have HO232 := n2_; have HO235 := n3_; have HO238 := n4_; have BK223 := n5_; have HB := n6_; clear n0_ n1_ n2_ n3_ n4_ n5_ n6_; (try clear hb); (try clear hb2); (try clear hk); (try clear hi); (try clear ho0); obtain ⟨Ao26, co26, eo26⟩ := Kd.R_slice HO238.out; subst eo26) | ((with_reducible refine gate_builtin (b := .append) (xs := #[.tmp 40, .tmp 45]) rfl ?_); at_builtin; refine Kd.R_append_rows (Kd.int .u8) (w0 := w) w.heap.size rfl (.tmp 40) (.tmp 45) 24 5 (.int .u8 0) 1 rfl Try.underlying24 info5 rfl (by decide) (by omega) v234 y233 t236 _ _ _ (fun k_ => some k_ ≠ (u4 : Value).ownBlock ∧ some k_ ≠ (.slice Ao19 t224.length co19 : Value).ownBlock ∧ some k_ ≠ (.slice Ao22 t230.length co22 : Value).ownBlock ∧ some k_ ≠ (.slice Ao26 t236.length co26 : Value).ownBlock) (fun _ => False) rfl rfl ?aO ?aR (fun _ _ h => h) (fun _ h => h.elim) ?aF ?aB ?aS ?aL ?_; (case aR => repeat (first | exact (Kd.R_reads' HO238.out).2.2 | (with_reducible refine Kd.C_alloc ?_ _) | (with_reducible refine Kd.C_drewN ?_ _) | (with_reducible refine Kd.C_drew ?_))); (case aB => exact (by repeat (first | (with_reducible first | exact HB.out | apply below_alloc | apply pw_below_drewN | apply below_drew1 | refine below_set ?_ GE223.out) | exact HB.out))); (case aF => exact (fun k_ hk => ⟨Kd.fresh' (Kd.R_lt (by (with_reducible repeat (first | apply Kd.R_alloc | apply Kd.R_drewN | apply Kd.R_drew)); exact HO_4.out)) k_ hk, Kd.fresh' (Kd.R_lt (by (with_reducible repeat (first | apply Kd.R_alloc | apply Kd.R_drewN | apply Kd.R_drew)); exact HO226.out)) k_ hk, Kd.fresh' (Kd.R_lt (by (with_reducible repeat (first | apply Kd.R_alloc | apply Kd.R_drewN | apply Kd.R_drew)); exact HO232.out)) k_ hk, Kd.fresh' (Kd.R_lt (by (with_reducible repeat (first | apply Kd.R_alloc | apply Kd.R_drewN | apply Kd.R_drew)); exact HO238.out)) k_ hk⟩)); (case aO => exact (by (with_reducible repeat (first | apply Kd.R_alloc | apply Kd.R_drewN | apply Kd.R_drew)); exact Kd.R_mono HO235.out (fun _ hk => ⟨hk.1.1, ⟨hk.1.2.1, ⟨hk.1.2.2, hk.2⟩⟩⟩))); (case aS => exact (below_size (by repeat (first | (with_reducible first | exact HB.out | apply below_alloc | apply pw_below_drewN | apply below_drew1 | refine below_set ?_ GE223.out) | exact HB.out)))); (case aL => have := LMc11.out; omega); intro v240 w25 ho hb hg hat; rw [← Ny239.out] at ho; have n0_ := Aside0.mk (Kd.R_after (ok := (fun k_ => some k_ ≠ (.slice Ao19 t224.length co19 : Value).ownBlock ∧ some k_ ≠ (.slice Ao22 t230.length co22 : Value).ownBlock ∧ some k_ ≠ (.slice Ao26 t236.length co26 : Value).ownBlock)) (by (with_reducible repeat (first | apply Kd.R_alloc | apply Kd.R_drewN | apply Kd.R_drew)); exact Kd.R_mono HO_4.out (fun _ hk => ⟨⟨hk.1.1.1, ⟨hk.1.1.2, hk.2⟩⟩, hk.1.2⟩)) hg hat); have n1_ := Aside0.mk (blk_grown (g := gb223) (o := .cells #[.int .i64 ((rd_T38 l0 x6_1).f0.f0), .int .i64 ((rd_T38 l0 x6_1).f0.f1), .int .i64 ((rd_T38 l0 x6_1).f1.f0), .int .i64 ((rd_T38 l0 x6_1).f1.f1), .int .i64 ((rd_T38 l0 x6_1).f2), .int .i32 ((rd_T38 l0 x6_1).f3)] 38 (0, 0)) (by (with_reducible repeat (first | refine blk_drewN ?_ _ | refine blk_drew ?_ | refine blk_alloc ?_ _)); exact BK223.out) hg (Kd.R_ne HO235.out BK223.out (by decide))); have n2_ := Aside0.mk (Kd.R_after (ok := (fun k_ => some k_ ≠ (u4 : Value).ownBlock ∧ some k_ ≠ (.slice Ao22 t230.length co22 : Value).ownBlock ∧ some k_ ≠ (.slice Ao26 t236.length co26 : Value).ownBlock)) (by (with_reducible repeat (first | apply Kd.R_alloc | apply Kd.R_drewN | apply Kd.R_drew)); exact Kd.R_mono HO226.out (fun _ hk => ⟨⟨hk.1.1.1, ⟨hk.1.1.2, hk.2⟩⟩, hk.1.2⟩)) hg hat); have n3_ := Aside0.mk (Kd.R_after (ok := (fun k_ => some k_ ≠ (u4 : Value).ownBlock ∧ some k_ ≠ (.slice Ao19 t224.length co19 : Value).ownBlock ∧ some k_ ≠ (.slice Ao26 t236.length co26 : Value).ownBlock)) (by (with_reducible repeat (first | apply Kd.R_alloc | apply Kd.R_drewN | apply Kd.R_drew)); exact Kd.R_mono HO232.out (fun _ hk => ⟨⟨hk.1.1.1, ⟨hk.1.1.2, hk.2⟩⟩, hk.1.2⟩)) hg hat); have n4_ := Aside0.mk (Kd.R_after (ok := (fun k_ => some k_ ≠ (u4 : Value).ownBlock ∧ some k_ ≠ (.slice Ao19 t224.length co19 : Value).ownBlock ∧ some k_ ≠ (.slice Ao22 t230.length co22 : Value).ownBlock)) (by (with_reducible repeat (first | apply Kd.R_alloc | apply Kd.R_drewN | apply Kd.R_drew)); exact Kd.R_mono HO238.out (fun _ hk => ⟨⟨hk.1.1.1.2, ⟨hk.1.1.2, hk.1.2⟩⟩, hk.2⟩)) hg hat); have n5_ := Aside0.mk (hb); have n6_ := Aside0.mk (ho); clear HO_4; clear BK223; clear HO226; clear HO232; clear HO238; clear HB; clear HO235; have HO_4 := n0_; have BK223 := n1_; have HO226 := n2_; have HO232 := n3_; have HO238 := n4_; have HB := n5_; have HO241 := n6_; clear n0_ n1_ n2_ n3_ n4_ n5_ n6_; clear ho hb hg hat; have hcz27_0 : w25.cell? ⟨gb223, 0, none⟩ = some (.int .i64 ((rd_T38 l0 x6_1).f0.f0)) := (blk_cell BK223.out 0).trans rfl; have hcz27_1 : w25.cell? ⟨gb223, 1, none⟩ = some (.int .i64 ((rd_T38 l0 x6_1).f0.f1)) := (blk_cell BK223.out 1).trans rfl; have hcz27_2 : w25.cell? ⟨gb223, 2, none⟩ = some (.int .i64 ((rd_T38 l0 x6_1).f1.f0)) := (blk_cell BK223.out 2).trans rfl; have hcz27_3 : w25.cell? ⟨gb223, 3, none⟩ = some (.int .i64 ((rd_T38 l0 x6_1).f1.f1)) := (blk_cell BK223.out 3).trans rfl; have hcz27_4 : w25.cell? ⟨gb223, 4, none⟩ = some (.int .i64 ((rd_T38 l0 x6_1).f2)) := (blk_cell BK223.out 4).trans rfl; have hcz27_5 : w25.cell? ⟨gb223, 5, none⟩ = some (.int .i32 ((rd_T38 l0 x6_1).f3)) := (blk_cell BK223.out 5).trans rfl; have hfz27_0 := blk_frozen BK223.out 0; have hfz27_1 := blk_frozen BK223.out 1; have hfz27_2 := blk_frozen BK223.out 2; have hfz27_3 := blk_frozen BK223.out 3; have hfz27_4 := blk_frozen BK223.out 4; have hfz27_5 := blk_frozen BK223.out 5))
        (try simp only [Act.put, List.setIfInBounds_toArray, List.set_cons_zero, List.set_cons_succ])
        go_cut [3] (fun v3 wc => ∃ (kq : Nat) (x3_11 : List Int), Aside0 (redpencilref17_Bytes.j1 kq l0 x3_11 x4_1 ((rd_T38 l0 x6_1).f0.f1) x6_1 ((rd_T38 l0 x6_1).f0.f0) ((rd_T38 l0 x6_1).f0.f1) ((rd_T38 l0 x6_1).f1.f0) ((rd_T38 l0 x6_1).f1.f1) ((rd_T38 l0 x6_1).f2) ((rd_T38 l0 x6_1).f3) = some r) ∧ Aside0 (kq ≤ k1) ∧ Aside0 (Kd.R (Kd.int .u8) 5 wc w.heap.size (fun k_ => some k_ ≠ (u4 : Value).ownBlock) v3 x3_11) ∧ Aside0 (Kd.R (Kd.int .u8) 5 wc w.heap.size (fun k_ => some k_ ≠ (v3 : Value).ownBlock) u4 x4_1) ∧ Aside0 (wc.heap[gb223]? = some (.cells #[.int .i64 ((rd_T38 l0 x6_1).f0.f0), .int .i64 ((rd_T38 l0 x6_1).f0.f1), .int .i64 ((rd_T38 l0 x6_1).f1.f0), .int .i64 ((rd_T38 l0 x6_1).f1.f1), .int .i64 ((rd_T38 l0 x6_1).f2), .int .i32 ((rd_T38 l0 x6_1).f3)] 38 (0, 0))) ∧ Aside0 (Below w.heap.size w wc))
        case first =>
         have H := HC12.out
         clear HC12
         by_cases c28 : ((rd_T38 l0 x6_1).f1.f0) = 0
         ·
          rw [if_pos c28] at H
          have c28b0 : (((rd_T38 l0 x6_1).f1.f0) == 0) = true := beq_iff_eq.mpr c28
          have c28b1 : (((rd_T38 l0 x6_1).f1.f0) != 0) = false := bne_eq_false_iff_eq.mpr c28
          clear c28
          (first | rw [c28b0] | (simp only [i64_w, i32_w]; rw [c28b0]) | skip)
          have H' := Aside0.mk H
          clear H
          go_wp2
          go_meet
          case rel => exact ⟨_, (y239), H', ⟨by have := HK1.out; first | omega | exact Nat.le_refl _⟩, ⟨by (with_reducible repeat (first | apply Kd.R_alloc | apply Kd.R_drewN | apply Kd.R_drew)); exact Kd.R_mono HO241.out (fun _ hk => hk.1)⟩, ⟨by (with_reducible repeat (first | apply Kd.R_alloc | apply Kd.R_drewN | apply Kd.R_drew)); exact Kd.R_mono HO_4.out (fun _ hk => hk.2)⟩, ⟨by (with_reducible repeat (first | refine blk_drewN ?_ _ | refine blk_drew ?_ | refine blk_alloc ?_ _)); exact BK223.out⟩, ⟨by repeat (first | (with_reducible first | exact HB.out | apply below_alloc | apply pw_below_drewN | apply below_drew1 | refine below_set ?_ GE223.out) | exact HB.out)⟩⟩
         ·
          rw [if_neg c28] at H
          have c28b0 : (((rd_T38 l0 x6_1).f1.f0) == 0) = false := beq_eq_false_iff_ne.mpr c28
          have c28b1 : (((rd_T38 l0 x6_1).f1.f0) != 0) = true := bne_iff_ne.mpr c28
          (first | rw [c28b0] | (simp only [i64_w, i32_w]; rw [c28b0]) | skip)
          replace H := Option.bind_eq_some_iff.mp H
          obtain ⟨t242, A290, H⟩ := H
          replace H : (if y239.length + t242.length < 140737488355328 then (redpencilref17_Bytes.j1 k1 l0 (y239 ++ t242) x4_1 ((rd_T38 l0 x6_1).f0.f1) x6_1 ((rd_T38 l0 x6_1).f0.f0) ((rd_T38 l0 x6_1).f0.f1) ((rd_T38 l0 x6_1).f1.f0) ((rd_T38 l0 x6_1).f1.f1) ((rd_T38 l0 x6_1).f2) ((rd_T38 l0 x6_1).f3)) else (none)) = some r := H
          have A29 := Aside0.mk A290
          clear A290
          by_cases c30 : y239.length + t242.length < 140737488355328
          ·
           rw [if_pos c30] at H
           have LMc30 := Aside0.mk c30
           clear c30
           obtain ⟨y245, hy245⟩ : ∃ y_ : List Int, y_ = (y239 ++ t242) := ⟨_, rfl⟩
           replace H : (redpencilref17_Bytes.j1 k1 l0 y245 x4_1 ((rd_T38 l0 x6_1).f0.f1) x6_1 ((rd_T38 l0 x6_1).f0.f0) ((rd_T38 l0 x6_1).f0.f1) ((rd_T38 l0 x6_1).f1.f0) ((rd_T38 l0 x6_1).f1.f1) ((rd_T38 l0 x6_1).f2) ((rd_T38 l0 x6_1).f3)) = some r := by first | (rw [hy245]; with_reducible exact H) | (have H2_ := (Option.bind_some _ _).symm.trans H; rw [hy245]; with_reducible exact H2_) | (have H2_ := (Option.bind_some _ _).symm.trans H; with_reducible exact H2_) | with_reducible exact H | (rw [hy245]; exact H) | exact H
           have Ny245 := Aside0.mk hy245
           clear hy245
           have H' := Aside0.mk H
           clear H
           have hcz31_0 : w25.cell? ⟨gb223, 0, none⟩ = some (.int .i64 ((rd_T38 l0 x6_1).f0.f0)) := (blk_cell BK223.out 0).trans rfl
           have hcz31_1 : w25.cell? ⟨gb223, 1, none⟩ = some (.int .i64 ((rd_T38 l0 x6_1).f0.f1)) := (blk_cell BK223.out 1).trans rfl
           have hcz31_2 : w25.cell? ⟨gb223, 2, none⟩ = some (.int .i64 ((rd_T38 l0 x6_1).f1.f0)) := (blk_cell BK223.out 2).trans rfl
           have hcz31_3 : w25.cell? ⟨gb223, 3, none⟩ = some (.int .i64 ((rd_T38 l0 x6_1).f1.f1)) := (blk_cell BK223.out 3).trans rfl
           have hcz31_4 : w25.cell? ⟨gb223, 4, none⟩ = some (.int .i64 ((rd_T38 l0 x6_1).f2)) := (blk_cell BK223.out 4).trans rfl
           have hcz31_5 : w25.cell? ⟨gb223, 5, none⟩ = some (.int .i32 ((rd_T38 l0 x6_1).f3)) := (blk_cell BK223.out 5).trans rfl
           have hfz31_0 := blk_frozen BK223.out 0
           have hfz31_1 := blk_frozen BK223.out 1
           have hfz31_2 := blk_frozen BK223.out 2
           have hfz31_3 := blk_frozen BK223.out 3
           have hfz31_4 := blk_frozen BK223.out 4
           have hfz31_5 := blk_frozen BK223.out 5
           go_wp2_with (first | ((with_reducible refine gate_callee (f := 29) rfl ?_); refine goesL_ (some 56) rfl rfl Try.func29 (by kernel_rfl) rfl #[.int .u64 (IntKind.u64.wrap ((rd_T38 l0 x6_1).f1.f1))] rfl (by (try simp only [List.map_toArray, List.map_cons, List.map_nil]); first | done | rfl | (simp only [List.length_drop, List.length_take]; rfl)) ?_; (with_reducible refine (redpencilref17_Number.calls k1 (IntKind.u64.wrap ((rd_T38 l0 x6_1).f1.f1)) t242 _ A29.out).mono ?_); rintro e w32 ⟨v243, rfl, ho0, hb⟩; refine ⟨_, rfl, ?_⟩; have n0_ := Aside0.mk (Kd.R_elder' (by (with_reducible repeat (first | apply Kd.R_alloc | apply Kd.R_drewN | apply Kd.R_drew)); exact HO_4.out) (Kd.R_base ho0) hb); have n1_ := Aside0.mk (Kd.R_elder' (by (with_reducible repeat (first | apply Kd.R_alloc | apply Kd.R_drewN | apply Kd.R_drew)); exact HO226.out) (Kd.R_base ho0) hb); have n2_ := Aside0.mk (Kd.R_elder' (by (with_reducible repeat (first | apply Kd.R_alloc | apply Kd.R_drewN | apply Kd.R_drew)); exact HO232.out) (Kd.R_base ho0) hb); have n3_ := Aside0.mk (Kd.R_elder' (by (with_reducible repeat (first | apply Kd.R_alloc | apply Kd.R_drewN | apply Kd.R_drew)); exact HO238.out) (Kd.R_base ho0) hb); have n4_ := Aside0.mk (Kd.R_elder' (by (with_reducible repeat (first | apply Kd.R_alloc | apply Kd.R_drewN | apply Kd.R_drew)); exact HO241.out) (Kd.R_base ho0) hb); have n5_ := Aside0.mk (Kd.R_lower (Kd.R_new' (Kd.R_new' (Kd.R_new' (Kd.R_new' (Kd.R_new' ho0 (Kd.R_lt (by (with_reducible repeat (first | apply Kd.R_alloc | apply Kd.R_drewN | apply Kd.R_drew)); exact HO_4.out))) (Kd.R_lt (by (with_reducible repeat (first | apply Kd.R_alloc | apply Kd.R_drewN | apply Kd.R_drew)); exact HO226.out))) (Kd.R_lt (by (with_reducible repeat (first | apply Kd.R_alloc | apply Kd.R_drewN | apply Kd.R_drew)); exact HO232.out))) (Kd.R_lt (by (with_reducible repeat (first | apply Kd.R_alloc | apply Kd.R_drewN | apply Kd.R_drew)); exact HO238.out))) (Kd.R_lt (by (with_reducible repeat (first | apply Kd.R_alloc | apply Kd.R_drewN | apply Kd.R_drew)); exact HO241.out))) (below_size (by repeat (first | (with_reducible first | exact HB.out | apply below_alloc | apply pw_below_drewN | apply below_drew1 | refine below_set ?_ GE223.out) | exact HB.out)))); have n6_ := Aside0.mk (blk_below (g := gb223) (o := .cells #[.int .i64 ((rd_T38 l0 x6_1).f0.f0), .int .i64 ((rd_T38 l0 x6_1).f0.f1), .int .i64 ((rd_T38 l0 x6_1).f1.f0), .int .i64 ((rd_T38 l0 x6_1).f1.f1), .int .i64 ((rd_T38 l0 x6_1).f2), .int .i32 ((rd_T38 l0 x6_1).f3)] 38 (0, 0)) (by (with_reducible repeat (first | refine blk_drewN ?_ _ | refine blk_drew ?_ | refine blk_alloc ?_ _)); exact BK223.out) hb); have n7_ := Aside0.mk (below_step (by repeat (first | (with_reducible first | exact HB.out | apply below_alloc | apply pw_below_drewN | apply below_drew1 | refine below_set ?_ GE223.out) | exact HB.out)) hb); clear HO_4; clear HO226; clear HO232; clear HO238; clear HO241; clear BK223; clear HB; have HO_4 := n0_; have HO226 := n1_; have HO232 := n2_; have HO238 := n3_; have HO241 := n4_; have HO244 := n5_; have BK223 := n6_; have HB := n7_; clear n0_ n1_ n2_ n3_ n4_ n5_ n6_ n7_; (try clear hb); (try clear hb2); (try clear hk); (try clear hi); (try clear ho0); obtain ⟨Ao34, co34, eo34⟩ := Kd.R_slice HO244.out; subst eo34) | ((with_reducible refine gate_builtin (b := .append) (xs := #[.tmp 51, .tmp 56]) rfl ?_); at_builtin; refine Kd.R_append_rows (Kd.int .u8) (w0 := w) w.heap.size rfl (.tmp 51) (.tmp 56) 24 5 (.int .u8 0) 1 rfl Try.underlying24 info5 rfl (by decide) (by omega) v240 y239 t242 _ _ _ (fun k_ => some k_ ≠ (u4 : Value).ownBlock ∧ some k_ ≠ (.slice Ao19 t224.length co19 : Value).ownBlock ∧ some k_ ≠ (.slice Ao22 t230.length co22 : Value).ownBlock ∧ some k_ ≠ (.slice Ao26 t236.length co26 : Value).ownBlock ∧ some k_ ≠ (.slice Ao34 t242.length co34 : Value).ownBlock) (fun _ => False) rfl rfl ?aO ?aR (fun _ _ h => h) (fun _ h => h.elim) ?aF ?aB ?aS ?aL ?_; (case aR => repeat (first | exact (Kd.R_reads' HO244.out).2.2 | (with_reducible refine Kd.C_alloc ?_ _) | (with_reducible refine Kd.C_drewN ?_ _) | (with_reducible refine Kd.C_drew ?_))); (case aB => exact (by repeat (first | (with_reducible first | exact HB.out | apply below_alloc | apply pw_below_drewN | apply below_drew1 | refine below_set ?_ GE223.out) | exact HB.out))); (case aF => exact (fun k_ hk => ⟨Kd.fresh' (Kd.R_lt (by (with_reducible repeat (first | apply Kd.R_alloc | apply Kd.R_drewN | apply Kd.R_drew)); exact HO_4.out)) k_ hk, Kd.fresh' (Kd.R_lt (by (with_reducible repeat (first | apply Kd.R_alloc | apply Kd.R_drewN | apply Kd.R_drew)); exact HO226.out)) k_ hk, Kd.fresh' (Kd.R_lt (by (with_reducible repeat (first | apply Kd.R_alloc | apply Kd.R_drewN | apply Kd.R_drew)); exact HO232.out)) k_ hk, Kd.fresh' (Kd.R_lt (by (with_reducible repeat (first | apply Kd.R_alloc | apply Kd.R_drewN | apply Kd.R_drew)); exact HO238.out)) k_ hk, Kd.fresh' (Kd.R_lt (by (with_reducible repeat (first | apply Kd.R_alloc | apply Kd.R_drewN | apply Kd.R_drew)); exact HO244.out)) k_ hk⟩)); (case aO => exact (by (with_reducible repeat (first | apply Kd.R_alloc | apply Kd.R_drewN | apply Kd.R_drew)); exact Kd.R_mono HO241.out (fun _ hk => ⟨hk.1.1, ⟨hk.1.2.1, ⟨hk.1.2.2.1, ⟨hk.1.2.2.2, hk.2⟩⟩⟩⟩))); (case aS => exact (below_size (by repeat (first | (with_reducible first | exact HB.out | apply below_alloc | apply pw_below_drewN | apply below_drew1 | refine below_set ?_ GE223.out) | exact HB.out)))); (case aL => have := LMc30.out; omega); intro v246 w33 ho hb hg hat; rw [← Ny245.out] at ho; have n0_ := Aside0.mk (Kd.R_after (ok := (fun k_ => some k_ ≠ (.slice Ao19 t224.length co19 : Value).ownBlock ∧ some k_ ≠ (.slice Ao22 t230.length co22 : Value).ownBlock ∧ some k_ ≠ (.slice Ao26 t236.length co26 : Value).ownBlock ∧ some k_ ≠ (.slice Ao34 t242.length co34 : Value).ownBlock)) (by (with_reducible repeat (first | apply Kd.R_alloc | apply Kd.R_drewN | apply Kd.R_drew)); exact Kd.R_mono HO_4.out (fun _ hk => ⟨⟨hk.1.1.1, ⟨hk.1.1.2.1, ⟨hk.1.1.2.2, hk.2⟩⟩⟩, hk.1.2⟩)) hg hat); have n1_ := Aside0.mk (blk_grown (g := gb223) (o := .cells #[.int .i64 ((rd_T38 l0 x6_1).f0.f0), .int .i64 ((rd_T38 l0 x6_1).f0.f1), .int .i64 ((rd_T38 l0 x6_1).f1.f0), .int .i64 ((rd_T38 l0 x6_1).f1.f1), .int .i64 ((rd_T38 l0 x6_1).f2), .int .i32 ((rd_T38 l0 x6_1).f3)] 38 (0, 0)) (by (with_reducible repeat (first | refine blk_drewN ?_ _ | refine blk_drew ?_ | refine blk_alloc ?_ _)); exact BK223.out) hg (Kd.R_ne HO241.out BK223.out (by decide))); have n2_ := Aside0.mk (Kd.R_after (ok := (fun k_ => some k_ ≠ (u4 : Value).ownBlock ∧ some k_ ≠ (.slice Ao22 t230.length co22 : Value).ownBlock ∧ some k_ ≠ (.slice Ao26 t236.length co26 : Value).ownBlock ∧ some k_ ≠ (.slice Ao34 t242.length co34 : Value).ownBlock)) (by (with_reducible repeat (first | apply Kd.R_alloc | apply Kd.R_drewN | apply Kd.R_drew)); exact Kd.R_mono HO226.out (fun _ hk => ⟨⟨hk.1.1.1, ⟨hk.1.1.2.1, ⟨hk.1.1.2.2, hk.2⟩⟩⟩, hk.1.2⟩)) hg hat); have n3_ := Aside0.mk (Kd.R_after (ok := (fun k_ => some k_ ≠ (u4 : Value).ownBlock ∧ some k_ ≠ (.slice Ao19 t224.length co19 : Value).ownBlock ∧ some k_ ≠ (.slice Ao26 t236.length co26 : Value).ownBlock ∧ some k_ ≠ (.slice Ao34 t242.length co34 : Value).ownBlock)) (by (with_reducible repeat (first | apply Kd.R_alloc | apply Kd.R_drewN | apply Kd.R_drew)); exact Kd.R_mono HO232.out (fun _ hk => ⟨⟨hk.1.1.1, ⟨hk.1.1.2.1, ⟨hk.1.1.2.2, hk.2⟩⟩⟩, hk.1.2⟩)) hg hat); have n4_ := Aside0.mk (Kd.R_after (ok := (fun k_ => some k_ ≠ (u4 : Value).ownBlock ∧ some k_ ≠ (.slice Ao19 t224.length co19 : Value).ownBlock ∧ some k_ ≠ (.slice Ao22 t230.length co22 : Value).ownBlock ∧ some k_ ≠ (.slice Ao34 t242.length co34 : Value).ownBlock)) (by (with_reducible repeat (first | apply Kd.R_alloc | apply Kd.R_drewN | apply Kd.R_drew)); exact Kd.R_mono HO238.out (fun _ hk => ⟨⟨hk.1.1.1, ⟨hk.1.1.2.1, ⟨hk.1.1.2.2, hk.2⟩⟩⟩, hk.1.2⟩)) hg hat); have n5_ := Aside0.mk (Kd.R_after (ok := (fun k_ => some k_ ≠ (u4 : Value).ownBlock ∧ some k_ ≠ (.slice Ao19 t224.length co19 : Value).ownBlock ∧ some k_ ≠ (.slice Ao22 t230.length co22 : Value).ownBlock ∧ some k_ ≠ (.slice Ao26 t236.length co26 : Value).ownBlock)) (by (with_reducible repeat (first | apply Kd.R_alloc | apply Kd.R_drewN | apply Kd.R_drew)); exact Kd.R_mono HO244.out (fun _ hk => ⟨⟨hk.1.1.1.1.2, ⟨hk.1.1.1.2, ⟨hk.1.1.2, hk.1.2⟩⟩⟩, hk.2⟩)) hg hat); have n6_ := Aside0.mk (hb); have n7_ := Aside0.mk (ho); clear HO_4; clear BK223; clear HO226; clear HO232; clear HO238; clear HO244; clear HB; clear HO241; have HO_4 := n0_; have BK223 := n1_; have HO226 := n2_; have HO232 := n3_; have HO238 := n4_; have HO244 := n5_; have HB := n6_; have HO247 := n7_; clear n0_ n1_ n2_ n3_ n4_ n5_ n6_ n7_; clear ho hb hg hat))
           go_meet
           case rel => exact ⟨_, (y245), H', ⟨by have := HK1.out; first | omega | exact Nat.le_refl _⟩, ⟨by (with_reducible repeat (first | apply Kd.R_alloc | apply Kd.R_drewN | apply Kd.R_drew)); exact Kd.R_mono HO247.out (fun _ hk => hk.1)⟩, ⟨by (with_reducible repeat (first | apply Kd.R_alloc | apply Kd.R_drewN | apply Kd.R_drew)); exact Kd.R_mono HO_4.out (fun _ hk => hk.2)⟩, ⟨by (with_reducible repeat (first | refine blk_drewN ?_ _ | refine blk_drew ?_ | refine blk_alloc ?_ _)); exact BK223.out⟩, ⟨by repeat (first | (with_reducible first | exact HB.out | apply below_alloc | apply pw_below_drewN | apply below_drew1 | refine below_set ?_ GE223.out) | exact HB.out)⟩⟩
          ·
           rw [if_neg c30] at H
           exact absurd H (by simp)
        case rest =>
         clear HC12
         try clear c1
         try clear c2
         try clear p2
         try clear q2
         try clear hx2
         try clear c3
         try clear c4
         try clear c4b0
         try clear c5
         try clear c5b0
         try clear p6
         try clear c7
         try clear c9
         try clear c11
         try clear c14
         try clear p22
         try clear q22
         try clear hx22
         try clear c28
         try clear c28b0
         try clear c28b1
         try clear c29
         try clear c30
         try clear hcz14_0
         try clear hcz14_1
         try clear hcz14_2
         try clear hcz14_3
         try clear hcz14_4
         try clear hcz14_5
         try clear hcz23_0
         try clear hcz23_1
         try clear hcz23_2
         try clear hcz23_3
         try clear hcz23_4
         try clear hcz23_5
         try clear hcz27_0
         try clear hcz27_1
         try clear hcz27_2
         try clear hcz27_3
         try clear hcz27_4
         try clear hcz27_5
         try clear hcz31_0
         try clear hcz31_1
         try clear hcz31_2
         try clear hcz31_3
         try clear hcz31_4
         try clear hcz31_5
         try clear hfz14_0
         try clear hfz14_1
         try clear hfz14_2
         try clear hfz14_3
         try clear hfz14_4
         try clear hfz14_5
         try clear hfz23_0
         try clear hfz23_1
         try clear hfz23_2
         try clear hfz23_3
         try clear hfz23_4
         try clear hfz23_5
         try clear hfz27_0
         try clear hfz27_1
         try clear hfz27_2
         try clear hfz27_3
         try clear hfz27_4
         try clear hfz27_5
         try clear hfz31_0
         try clear hfz31_1
         try clear hfz31_2
         try clear hfz31_3
         try clear hfz31_4
         try clear hfz31_5
         try clear hx222_0
         try clear hx222_1
         try clear hx222_2
         try clear hx222_3
         try clear hx222_4
         try clear hx222_5
         try clear p2
         try clear p222
         try clear q222
         obtain ⟨kq, x3_11, HA, HJ11, HO_3, HO_4, BK223, HB⟩ := hcut
         cases kq with
         | zero => exact absurd HA.out (by simp [redpencilref17_Bytes.j1])
         | succ kj11 =>
          have H := HA.out
          clear HA
          simp only [redpencilref17_Bytes.j1] at H
          by_cases c35 : ((rd_T38 l0 x6_1).f3) = 0
          ·
           rw [if_pos c35] at H
           have c35b0 : (((rd_T38 l0 x6_1).f3) == 0) = true := beq_iff_eq.mpr c35
           have c35b1 : (((rd_T38 l0 x6_1).f3) != 0) = false := bne_eq_false_iff_eq.mpr c35
           clear c35
           replace H := Option.bind_eq_some_iff.mp H
           obtain ⟨t248, A360, H⟩ := H
           replace H : (if x3_11.length + t248.length < 140737488355328 then (redpencilref17_Bytes.l0 kj11 l0 (x3_11 ++ t248) x4_1 ((rd_T38 l0 x6_1).f0.f1) (wrap64 (x6_1 + 1))) else (none)) = some r := H
           have A36 := Aside0.mk A360
           clear A360
           by_cases c37 : x3_11.length + t248.length < 140737488355328
           ·
            rw [if_pos c37] at H
            have LMc37 := Aside0.mk c37
            clear c37
            obtain ⟨y251, hy251⟩ : ∃ y_ : List Int, y_ = (x3_11 ++ t248) := ⟨_, rfl⟩
            replace H : (redpencilref17_Bytes.l0 kj11 l0 y251 x4_1 ((rd_T38 l0 x6_1).f0.f1) (wrap64 (x6_1 + 1))) = some r := by first | (rw [hy251]; with_reducible exact H) | (have H2_ := (Option.bind_some _ _).symm.trans H; rw [hy251]; with_reducible exact H2_) | (have H2_ := (Option.bind_some _ _).symm.trans H; with_reducible exact H2_) | with_reducible exact H | (rw [hy251]; exact H) | exact H
            have Ny251 := Aside0.mk hy251
            clear hy251
            have H' := Aside0.mk H
            clear H
            have hcz38_0 : wc.cell? ⟨gb223, 0, none⟩ = some (.int .i64 ((rd_T38 l0 x6_1).f0.f0)) := (blk_cell BK223.out 0).trans rfl
            have hcz38_1 : wc.cell? ⟨gb223, 1, none⟩ = some (.int .i64 ((rd_T38 l0 x6_1).f0.f1)) := (blk_cell BK223.out 1).trans rfl
            have hcz38_2 : wc.cell? ⟨gb223, 2, none⟩ = some (.int .i64 ((rd_T38 l0 x6_1).f1.f0)) := (blk_cell BK223.out 2).trans rfl
            have hcz38_3 : wc.cell? ⟨gb223, 3, none⟩ = some (.int .i64 ((rd_T38 l0 x6_1).f1.f1)) := (blk_cell BK223.out 3).trans rfl
            have hcz38_4 : wc.cell? ⟨gb223, 4, none⟩ = some (.int .i64 ((rd_T38 l0 x6_1).f2)) := (blk_cell BK223.out 4).trans rfl
            have hcz38_5 : wc.cell? ⟨gb223, 5, none⟩ = some (.int .i32 ((rd_T38 l0 x6_1).f3)) := (blk_cell BK223.out 5).trans rfl
            have hfz38_0 := blk_frozen BK223.out 0
            have hfz38_1 := blk_frozen BK223.out 1
            have hfz38_2 := blk_frozen BK223.out 2
            have hfz38_3 := blk_frozen BK223.out 3
            have hfz38_4 := blk_frozen BK223.out 4
            have hfz38_5 := blk_frozen BK223.out 5
            go_wp2_with (first | ((with_reducible refine gate_callee (f := 29) rfl ?_); refine goesL_ (some 67) rfl rfl Try.func29 (by kernel_rfl) rfl #[.int .u64 (IntKind.u64.wrap ((IntKind.u64.wrap (2 * (IntKind.u64.wrap (((rd_T38 l0 x6_1).f2))))) + 1))] rfl (by (try simp only [List.map_toArray, List.map_cons, List.map_nil]); first | done | rfl | (simp only [List.length_drop, List.length_take]; rfl)) ?_; (with_reducible refine (redpencilref17_Number.calls kj11 (IntKind.u64.wrap ((IntKind.u64.wrap (2 * (IntKind.u64.wrap (((rd_T38 l0 x6_1).f2))))) + 1)) t248 _ A36.out).mono ?_); rintro e w39 ⟨v249, rfl, ho0, hb⟩; refine ⟨_, rfl, ?_⟩; have n0_ := Aside0.mk (Kd.R_elder' (by (with_reducible repeat (first | apply Kd.R_alloc | apply Kd.R_drewN | apply Kd.R_drew)); exact HO_3.out) (Kd.R_base ho0) hb); have n1_ := Aside0.mk (Kd.R_elder' (by (with_reducible repeat (first | apply Kd.R_alloc | apply Kd.R_drewN | apply Kd.R_drew)); exact HO_4.out) (Kd.R_base ho0) hb); have n2_ := Aside0.mk (Kd.R_lower (Kd.R_new' (Kd.R_new' ho0 (Kd.R_lt (by (with_reducible repeat (first | apply Kd.R_alloc | apply Kd.R_drewN | apply Kd.R_drew)); exact HO_3.out))) (Kd.R_lt (by (with_reducible repeat (first | apply Kd.R_alloc | apply Kd.R_drewN | apply Kd.R_drew)); exact HO_4.out))) (below_size (by repeat (first | (with_reducible first | exact HB.out | apply below_alloc | apply pw_below_drewN | apply below_drew1 | refine below_set ?_ GE223.out) | exact HB.out)))); have n3_ := Aside0.mk (blk_below (g := gb223) (o := .cells #[.int .i64 ((rd_T38 l0 x6_1).f0.f0), .int .i64 ((rd_T38 l0 x6_1).f0.f1), .int .i64 ((rd_T38 l0 x6_1).f1.f0), .int .i64 ((rd_T38 l0 x6_1).f1.f1), .int .i64 ((rd_T38 l0 x6_1).f2), .int .i32 ((rd_T38 l0 x6_1).f3)] 38 (0, 0)) (by (with_reducible repeat (first | refine blk_drewN ?_ _ | refine blk_drew ?_ | refine blk_alloc ?_ _)); exact BK223.out) hb); have n4_ := Aside0.mk (below_step (by repeat (first | (with_reducible first | exact HB.out | apply below_alloc | apply pw_below_drewN | apply below_drew1 | refine below_set ?_ GE223.out) | exact HB.out)) hb); clear HO_3; clear HO_4; clear BK223; clear HB; have HO_3 := n0_; have HO_4 := n1_; have HO250 := n2_; have BK223 := n3_; have HB := n4_; clear n0_ n1_ n2_ n3_ n4_; (try clear hb); (try clear hb2); (try clear hk); (try clear hi); (try clear ho0); obtain ⟨Ao41, co41, eo41⟩ := Kd.R_slice HO250.out; subst eo41) | ((with_reducible refine gate_builtin (b := .append) (xs := #[.tmp 61, .tmp 67]) rfl ?_); at_builtin; refine Kd.R_append_rows (Kd.int .u8) (w0 := w) w.heap.size rfl (.tmp 61) (.tmp 67) 24 5 (.int .u8 0) 1 rfl Try.underlying24 info5 rfl (by decide) (by omega) u3 x3_11 t248 _ _ _ (fun k_ => some k_ ≠ (u4 : Value).ownBlock ∧ some k_ ≠ (.slice Ao41 t248.length co41 : Value).ownBlock) (fun _ => False) rfl rfl ?aO ?aR (fun _ _ h => h) (fun _ h => h.elim) ?aF ?aB ?aS ?aL ?_; (case aR => repeat (first | exact (Kd.R_reads' HO250.out).2.2 | (with_reducible refine Kd.C_alloc ?_ _) | (with_reducible refine Kd.C_drewN ?_ _) | (with_reducible refine Kd.C_drew ?_))); (case aB => exact (by repeat (first | (with_reducible first | exact HB.out | apply below_alloc | apply pw_below_drewN | apply below_drew1 | refine below_set ?_ GE223.out) | exact HB.out))); (case aF => exact (fun k_ hk => ⟨Kd.fresh' (Kd.R_lt (by (with_reducible repeat (first | apply Kd.R_alloc | apply Kd.R_drewN | apply Kd.R_drew)); exact HO_4.out)) k_ hk, Kd.fresh' (Kd.R_lt (by (with_reducible repeat (first | apply Kd.R_alloc | apply Kd.R_drewN | apply Kd.R_drew)); exact HO250.out)) k_ hk⟩)); (case aO => exact (by (with_reducible repeat (first | apply Kd.R_alloc | apply Kd.R_drewN | apply Kd.R_drew)); exact HO_3.out)); (case aS => exact (below_size (by repeat (first | (with_reducible first | exact HB.out | apply below_alloc | apply pw_below_drewN | apply below_drew1 | refine below_set ?_ GE223.out) | exact HB.out)))); (case aL => have := LMc37.out; omega); intro v252 w40 ho hb hg hat; rw [← Ny251.out] at ho; have n0_ := Aside0.mk (Kd.R_after (ok := (fun k_ => some k_ ≠ (.slice Ao41 t248.length co41 : Value).ownBlock)) (by (with_reducible repeat (first | apply Kd.R_alloc | apply Kd.R_drewN | apply Kd.R_drew)); exact Kd.R_mono HO_4.out (fun _ hk => ⟨hk.2, hk.1⟩)) hg hat); have n1_ := Aside0.mk (blk_grown (g := gb223) (o := .cells #[.int .i64 ((rd_T38 l0 x6_1).f0.f0), .int .i64 ((rd_T38 l0 x6_1).f0.f1), .int .i64 ((rd_T38 l0 x6_1).f1.f0), .int .i64 ((rd_T38 l0 x6_1).f1.f1), .int .i64 ((rd_T38 l0 x6_1).f2), .int .i32 ((rd_T38 l0 x6_1).f3)] 38 (0, 0)) (by (with_reducible repeat (first | refine blk_drewN ?_ _ | refine blk_drew ?_ | refine blk_alloc ?_ _)); exact BK223.out) hg (Kd.R_ne HO_3.out BK223.out (by decide))); have n2_ := Aside0.mk (Kd.R_after (ok := (fun k_ => some k_ ≠ (u4 : Value).ownBlock)) (by (with_reducible repeat (first | apply Kd.R_alloc | apply Kd.R_drewN | apply Kd.R_drew)); exact Kd.R_mono HO250.out (fun _ hk => ⟨hk.2, hk.1.2⟩)) hg hat); have n3_ := Aside0.mk (hb); have n4_ := Aside0.mk (ho); clear HO_4; clear BK223; clear HO250; clear HB; clear HO_3; have HO_4 := n0_; have BK223 := n1_; have HO250 := n2_; have HB := n3_; have HO253 := n4_; clear n0_ n1_ n2_ n3_ n4_; clear ho hb hg hat))
            go_roundg kj11
            case measure => have := HK1.out; have := HJ11.out; omega
            case rel => exact ⟨(y251), (x4_1), (((rd_T38 l0 x6_1).f0.f1)), (wrap64 (x6_1 + 1)), (by first | rfl | (simp; done) | (simp [*]; done)), (by first | rfl | (simp; done) | (simp [*]; done)), H', ⟨by have := HK1.out; have := HJ11.out; omega⟩, ⟨by (with_reducible repeat (first | apply Kd.R_alloc | apply Kd.R_drewN | apply Kd.R_drew)); exact Kd.R_mono HO253.out (fun _ hk => hk.1)⟩, ⟨by (with_reducible repeat (first | apply Kd.R_alloc | apply Kd.R_drewN | apply Kd.R_drew)); exact Kd.R_mono HO_4.out (fun _ hk => hk.2)⟩, ⟨by repeat (first | (with_reducible first | exact HB.out | apply below_alloc | apply pw_below_drewN | apply below_drew1 | refine below_set ?_ GE223.out) | exact HB.out)⟩⟩
           ·
            rw [if_neg c37] at H
            exact absurd H (by simp)
          ·
           rw [if_neg c35] at H
           have c35b0 : (((rd_T38 l0 x6_1).f3) == 0) = false := beq_eq_false_iff_ne.mpr c35
           have c35b1 : (((rd_T38 l0 x6_1).f3) != 0) = true := bne_iff_ne.mpr c35
           replace H := Option.bind_eq_some_iff.mp H
           obtain ⟨t254, A420, H⟩ := H
           replace H : (if x3_11.length + t254.length < 140737488355328 then ((redpencilref17_Rune.f ((rd_T38 l0 x6_1).f3)).bind fun t260 => (if x4_1.length + t260.length < 140737488355328 then (redpencilref17_Bytes.l0 kj11 l0 (x3_11 ++ t254) (x4_1 ++ t260) ((rd_T38 l0 x6_1).f0.f1) (wrap64 (x6_1 + 1))) else (none))) else (none)) = some r := H
           have A42 := Aside0.mk A420
           clear A420
           by_cases c43 : x3_11.length + t254.length < 140737488355328
           ·
            rw [if_pos c43] at H
            have LMc43 := Aside0.mk c43
            clear c43
            obtain ⟨y257, hy257⟩ : ∃ y_ : List Int, y_ = (x3_11 ++ t254) := ⟨_, rfl⟩
            replace H : ((redpencilref17_Rune.f ((rd_T38 l0 x6_1).f3)).bind fun t260 => (if x4_1.length + t260.length < 140737488355328 then (redpencilref17_Bytes.l0 kj11 l0 y257 (x4_1 ++ t260) ((rd_T38 l0 x6_1).f0.f1) (wrap64 (x6_1 + 1))) else (none))) = some r := by first | (rw [hy257]; with_reducible exact H) | (have H2_ := (Option.bind_some _ _).symm.trans H; rw [hy257]; with_reducible exact H2_) | (have H2_ := (Option.bind_some _ _).symm.trans H; with_reducible exact H2_) | with_reducible exact H | (rw [hy257]; exact H) | exact H
            have Ny257 := Aside0.mk hy257
            clear hy257
            replace H := Option.bind_eq_some_iff.mp H
            obtain ⟨t260, A440, H⟩ := H
            replace H : (if x4_1.length + t260.length < 140737488355328 then (redpencilref17_Bytes.l0 kj11 l0 y257 (x4_1 ++ t260) ((rd_T38 l0 x6_1).f0.f1) (wrap64 (x6_1 + 1))) else (none)) = some r := H
            have A44 := Aside0.mk A440
            clear A440
            by_cases c45 : x4_1.length + t260.length < 140737488355328
            ·
             rw [if_pos c45] at H
             have LMc45 := Aside0.mk c45
             clear c45
             obtain ⟨y263, hy263⟩ : ∃ y_ : List Int, y_ = (x4_1 ++ t260) := ⟨_, rfl⟩
             replace H : (redpencilref17_Bytes.l0 kj11 l0 y257 y263 ((rd_T38 l0 x6_1).f0.f1) (wrap64 (x6_1 + 1))) = some r := by first | (rw [hy263]; with_reducible exact H) | (have H2_ := (Option.bind_some _ _).symm.trans H; rw [hy263]; with_reducible exact H2_) | (have H2_ := (Option.bind_some _ _).symm.trans H; with_reducible exact H2_) | with_reducible exact H | (rw [hy263]; exact H) | exact H
             have Ny263 := Aside0.mk hy263
             clear hy263
             have H' := Aside0.mk H
             clear H
             have hcz46_0 : wc.cell? ⟨gb223, 0, none⟩ = some (.int .i64 ((rd_T38 l0 x6_1).f0.f0)) := (blk_cell BK223.out 0).trans rfl
             have hcz46_1 : wc.cell? ⟨gb223, 1, none⟩ = some (.int .i64 ((rd_T38 l0 x6_1).f0.f1)) := (blk_cell BK223.out 1).trans rfl
             have hcz46_2 : wc.cell? ⟨gb223, 2, none⟩ = some (.int .i64 ((rd_T38 l0 x6_1).f1.f0)) := (blk_cell BK223.out 2).trans rfl
             have hcz46_3 : wc.cell? ⟨gb223, 3, none⟩ = some (.int .i64 ((rd_T38 l0 x6_1).f1.f1)) := (blk_cell BK223.out 3).trans rfl
             have hcz46_4 : wc.cell? ⟨gb223, 4, none⟩ = some (.int .i64 ((rd_T38 l0 x6_1).f2)) := (blk_cell BK223.out 4).trans rfl
             have hcz46_5 : wc.cell? ⟨gb223, 5, none⟩ = some (.int .i32 ((rd_T38 l0 x6_1).f3)) := (blk_cell BK223.out 5).trans rfl
             have hfz46_0 := blk_frozen BK223.out 0
             have hfz46_1 := blk_frozen BK223.out 1
             have hfz46_2 := blk_frozen BK223.out 2
             have hfz46_3 := blk_frozen BK223.out 3
             have hfz46_4 := blk_frozen BK223.out 4
             have hfz46_5 := blk_frozen BK223.out 5
             go_wp2_with (first | ((with_reducible refine gate_callee (f := 29) rfl ?_); refine goesL_ (some 74) rfl rfl Try.func29 (by kernel_rfl) rfl #[.int .u64 (IntKind.u64.wrap (2 * (IntKind.u64.wrap (((rd_T38 l0 x6_1).f2)))))] rfl (by (try simp only [List.map_toArray, List.map_cons, List.map_nil]); first | done | rfl | (simp only [List.length_drop, List.length_take]; rfl)) ?_; (with_reducible refine (redpencilref17_Number.calls kj11 (IntKind.u64.wrap (2 * (IntKind.u64.wrap (((rd_T38 l0 x6_1).f2))))) t254 _ A42.out).mono ?_); rintro e w47 ⟨v255, rfl, ho0, hb⟩; refine ⟨_, rfl, ?_⟩; have n0_ := Aside0.mk (Kd.R_elder' (by (with_reducible repeat (first | apply Kd.R_alloc | apply Kd.R_drewN | apply Kd.R_drew)); exact HO_3.out) (Kd.R_base ho0) hb); have n1_ := Aside0.mk (Kd.R_elder' (by (with_reducible repeat (first | apply Kd.R_alloc | apply Kd.R_drewN | apply Kd.R_drew)); exact HO_4.out) (Kd.R_base ho0) hb); have n2_ := Aside0.mk (Kd.R_lower (Kd.R_new' (Kd.R_new' ho0 (Kd.R_lt (by (with_reducible repeat (first | apply Kd.R_alloc | apply Kd.R_drewN | apply Kd.R_drew)); exact HO_3.out))) (Kd.R_lt (by (with_reducible repeat (first | apply Kd.R_alloc | apply Kd.R_drewN | apply Kd.R_drew)); exact HO_4.out))) (below_size (by repeat (first | (with_reducible first | exact HB.out | apply below_alloc | apply pw_below_drewN | apply below_drew1 | refine below_set ?_ GE223.out) | exact HB.out)))); have n3_ := Aside0.mk (blk_below (g := gb223) (o := .cells #[.int .i64 ((rd_T38 l0 x6_1).f0.f0), .int .i64 ((rd_T38 l0 x6_1).f0.f1), .int .i64 ((rd_T38 l0 x6_1).f1.f0), .int .i64 ((rd_T38 l0 x6_1).f1.f1), .int .i64 ((rd_T38 l0 x6_1).f2), .int .i32 ((rd_T38 l0 x6_1).f3)] 38 (0, 0)) (by (with_reducible repeat (first | refine blk_drewN ?_ _ | refine blk_drew ?_ | refine blk_alloc ?_ _)); exact BK223.out) hb); have n4_ := Aside0.mk (below_step (by repeat (first | (with_reducible first | exact HB.out | apply below_alloc | apply pw_below_drewN | apply below_drew1 | refine below_set ?_ GE223.out) | exact HB.out)) hb); clear HO_3; clear HO_4; clear BK223; clear HB; have HO_3 := n0_; have HO_4 := n1_; have HO256 := n2_; have BK223 := n3_; have HB := n4_; clear n0_ n1_ n2_ n3_ n4_; (try clear hb); (try clear hb2); (try clear hk); (try clear hi); (try clear ho0); obtain ⟨Ao49, co49, eo49⟩ := Kd.R_slice HO256.out; subst eo49) | ((with_reducible refine gate_builtin (b := .append) (xs := #[.tmp 69, .tmp 74]) rfl ?_); at_builtin; refine Kd.R_append_rows (Kd.int .u8) (w0 := w) w.heap.size rfl (.tmp 69) (.tmp 74) 24 5 (.int .u8 0) 1 rfl Try.underlying24 info5 rfl (by decide) (by omega) u3 x3_11 t254 _ _ _ (fun k_ => some k_ ≠ (u4 : Value).ownBlock ∧ some k_ ≠ (.slice Ao49 t254.length co49 : Value).ownBlock) (fun _ => False) rfl rfl ?aO ?aR (fun _ _ h => h) (fun _ h => h.elim) ?aF ?aB ?aS ?aL ?_; (case aR => repeat (first | exact (Kd.R_reads' HO256.out).2.2 | (with_reducible refine Kd.C_alloc ?_ _) | (with_reducible refine Kd.C_drewN ?_ _) | (with_reducible refine Kd.C_drew ?_))); (case aB => exact (by repeat (first | (with_reducible first | exact HB.out | apply below_alloc | apply pw_below_drewN | apply below_drew1 | refine below_set ?_ GE223.out) | exact HB.out))); (case aF => exact (fun k_ hk => ⟨Kd.fresh' (Kd.R_lt (by (with_reducible repeat (first | apply Kd.R_alloc | apply Kd.R_drewN | apply Kd.R_drew)); exact HO_4.out)) k_ hk, Kd.fresh' (Kd.R_lt (by (with_reducible repeat (first | apply Kd.R_alloc | apply Kd.R_drewN | apply Kd.R_drew)); exact HO256.out)) k_ hk⟩)); (case aO => exact (by (with_reducible repeat (first | apply Kd.R_alloc | apply Kd.R_drewN | apply Kd.R_drew)); exact HO_3.out)); (case aS => exact (below_size (by repeat (first | (with_reducible first | exact HB.out | apply below_alloc | apply pw_below_drewN | apply below_drew1 | refine below_set ?_ GE223.out) | exact HB.out)))); (case aL => have := LMc43.out; omega); intro v258 w48 ho hb hg hat; rw [← Ny257.out] at ho; have n0_ := Aside0.mk (Kd.R_after (ok := (fun k_ => some k_ ≠ (.slice Ao49 t254.length co49 : Value).ownBlock)) (by (with_reducible repeat (first | apply Kd.R_alloc | apply Kd.R_drewN | apply Kd.R_drew)); exact Kd.R_mono HO_4.out (fun _ hk => ⟨hk.2, hk.1⟩)) hg hat); have n1_ := Aside0.mk (blk_grown (g := gb223) (o := .cells #[.int .i64 ((rd_T38 l0 x6_1).f0.f0), .int .i64 ((rd_T38 l0 x6_1).f0.f1), .int .i64 ((rd_T38 l0 x6_1).f1.f0), .int .i64 ((rd_T38 l0 x6_1).f1.f1), .int .i64 ((rd_T38 l0 x6_1).f2), .int .i32 ((rd_T38 l0 x6_1).f3)] 38 (0, 0)) (by (with_reducible repeat (first | refine blk_drewN ?_ _ | refine blk_drew ?_ | refine blk_alloc ?_ _)); exact BK223.out) hg (Kd.R_ne HO_3.out BK223.out (by decide))); have n2_ := Aside0.mk (Kd.R_after (ok := (fun k_ => some k_ ≠ (u4 : Value).ownBlock)) (by (with_reducible repeat (first | apply Kd.R_alloc | apply Kd.R_drewN | apply Kd.R_drew)); exact Kd.R_mono HO256.out (fun _ hk => ⟨hk.2, hk.1.2⟩)) hg hat); have n3_ := Aside0.mk (hb); have n4_ := Aside0.mk (ho); clear HO_4; clear BK223; clear HO256; clear HB; clear HO_3; have HO_4 := n0_; have BK223 := n1_; have HO256 := n2_; have HB := n3_; have HO259 := n4_; clear n0_ n1_ n2_ n3_ n4_; clear ho hb hg hat; have hcz50_0 : w48.cell? ⟨gb223, 0, none⟩ = some (.int .i64 ((rd_T38 l0 x6_1).f0.f0)) := (blk_cell BK223.out 0).trans rfl; have hcz50_1 : w48.cell? ⟨gb223, 1, none⟩ = some (.int .i64 ((rd_T38 l0 x6_1).f0.f1)) := (blk_cell BK223.out 1).trans rfl; have hcz50_2 : w48.cell? ⟨gb223, 2, none⟩ = some (.int .i64 ((rd_T38 l0 x6_1).f1.f0)) := (blk_cell BK223.out 2).trans rfl; have hcz50_3 : w48.cell? ⟨gb223, 3, none⟩ = some (.int .i64 ((rd_T38 l0 x6_1).f1.f1)) := (blk_cell BK223.out 3).trans rfl; have hcz50_4 : w48.cell? ⟨gb223, 4, none⟩ = some (.int .i64 ((rd_T38 l0 x6_1).f2)) := (blk_cell BK223.out 4).trans rfl; have hcz50_5 : w48.cell? ⟨gb223, 5, none⟩ = some (.int .i32 ((rd_T38 l0 x6_1).f3)) := (blk_cell BK223.out 5).trans rfl; have hfz50_0 := blk_frozen BK223.out 0; have hfz50_1 := blk_frozen BK223.out 1; have hfz50_2 := blk_frozen BK223.out 2; have hfz50_3 := blk_frozen BK223.out 3; have hfz50_4 := blk_frozen BK223.out 4; have hfz50_5 := blk_frozen BK223.out 5) | ((with_reducible refine gate_callee (f := 30) rfl ?_); refine goesL_ (some 79) rfl rfl Try.func30 (by kernel_rfl) rfl #[.int .i32 ((rd_T38 l0 x6_1).f3)] rfl (by (try simp only [List.map_toArray, List.map_cons, List.map_nil]); first | done | rfl | (simp only [List.length_drop, List.length_take]; rfl)) ?_; (with_reducible refine (redpencilref17_Rune.calls ((rd_T38 l0 x6_1).f3) t260 _ A44.out).mono ?_); rintro e w51 ⟨v261, rfl, ho0, hb⟩; refine ⟨_, rfl, ?_⟩; have n0_ := Aside0.mk (Kd.R_elder' (by (with_reducible repeat (first | apply Kd.R_alloc | apply Kd.R_drewN | apply Kd.R_drew)); exact HO_4.out) (Kd.R_base ho0) hb); have n1_ := Aside0.mk (Kd.R_elder' (by (with_reducible repeat (first | apply Kd.R_alloc | apply Kd.R_drewN | apply Kd.R_drew)); exact HO256.out) (Kd.R_base ho0) hb); have n2_ := Aside0.mk (Kd.R_elder' (by (with_reducible repeat (first | apply Kd.R_alloc | apply Kd.R_drewN | apply Kd.R_drew)); exact HO259.out) (Kd.R_base ho0) hb); have n3_ := Aside0.mk (Kd.R_lower (Kd.R_new' (Kd.R_new' (Kd.R_new' ho0 (Kd.R_lt (by (with_reducible repeat (first | apply Kd.R_alloc | apply Kd.R_drewN | apply Kd.R_drew)); exact HO_4.out))) (Kd.R_lt (by (with_reducible repeat (first | apply Kd.R_alloc | apply Kd.R_drewN | apply Kd.R_drew)); exact HO256.out))) (Kd.R_lt (by (with_reducible repeat (first | apply Kd.R_alloc | apply Kd.R_drewN | apply Kd.R_drew)); exact HO259.out))) (below_size (by repeat (first | (with_reducible first | exact HB.out | apply below_alloc | apply pw_below_drewN | apply below_drew1 | refine below_set ?_ GE223.out) | exact HB.out)))); have n4_ := Aside0.mk (blk_below (g := gb223) (o := .cells #[.int .i64 ((rd_T38 l0 x6_1).f0.f0), .int .i64 ((rd_T38 l0 x6_1).f0.f1), .int .i64 ((rd_T38 l0 x6_1).f1.f0), .int .i64 ((rd_T38 l0 x6_1).f1.f1), .int .i64 ((rd_T38 l0 x6_1).f2), .int .i32 ((rd_T38 l0 x6_1).f3)] 38 (0, 0)) (by (with_reducible repeat (first | refine blk_drewN ?_ _ | refine blk_drew ?_ | refine blk_alloc ?_ _)); exact BK223.out) hb); have n5_ := Aside0.mk (below_step (by repeat (first | (with_reducible first | exact HB.out | apply below_alloc | apply pw_below_drewN | apply below_drew1 | refine below_set ?_ GE223.out) | exact HB.out)) hb); clear HO_4; clear HO256; clear HO259; clear BK223; clear HB; have HO_4 := n0_; have HO256 := n1_; have HO259 := n2_; have HO262 := n3_; have BK223 := n4_; have HB := n5_; clear n0_ n1_ n2_ n3_ n4_ n5_; (try clear hb); (try clear hb2); (try clear hk); (try clear hi); (try clear ho0); obtain ⟨Ao53, co53, eo53⟩ := Kd.R_slice HO262.out; subst eo53) | ((with_reducible refine gate_builtin (b := .append) (xs := #[.tmp 76, .tmp 79]) rfl ?_); at_builtin; refine Kd.R_append_rows (Kd.int .u8) (w0 := w) w.heap.size rfl (.tmp 76) (.tmp 79) 24 5 (.int .u8 0) 1 rfl Try.underlying24 info5 rfl (by decide) (by omega) u4 x4_1 t260 _ _ _ (fun k_ => some k_ ≠ (.slice Ao49 t254.length co49 : Value).ownBlock ∧ some k_ ≠ (v258 : Value).ownBlock ∧ some k_ ≠ (.slice Ao53 t260.length co53 : Value).ownBlock) (fun _ => False) rfl rfl ?aO ?aR (fun _ _ h => h) (fun _ h => h.elim) ?aF ?aB ?aS ?aL ?_; (case aR => repeat (first | exact (Kd.R_reads' HO262.out).2.2 | (with_reducible refine Kd.C_alloc ?_ _) | (with_reducible refine Kd.C_drewN ?_ _) | (with_reducible refine Kd.C_drew ?_))); (case aB => exact (by repeat (first | (with_reducible first | exact HB.out | apply below_alloc | apply pw_below_drewN | apply below_drew1 | refine below_set ?_ GE223.out) | exact HB.out))); (case aF => exact (fun k_ hk => ⟨Kd.fresh' (Kd.R_lt (by (with_reducible repeat (first | apply Kd.R_alloc | apply Kd.R_drewN | apply Kd.R_drew)); exact HO256.out)) k_ hk, Kd.fresh' (Kd.R_lt (by (with_reducible repeat (first | apply Kd.R_alloc | apply Kd.R_drewN | apply Kd.R_drew)); exact HO259.out)) k_ hk, Kd.fresh' (Kd.R_lt (by (with_reducible repeat (first | apply Kd.R_alloc | apply Kd.R_drewN | apply Kd.R_drew)); exact HO262.out)) k_ hk⟩)); (case aO => exact (by (with_reducible repeat (first | apply Kd.R_alloc | apply Kd.R_drewN | apply Kd.R_drew)); exact Kd.R_mono HO_4.out (fun _ hk => ⟨hk.1.1, ⟨hk.1.2, hk.2⟩⟩))); (case aS => exact (below_size (by repeat (first | (with_reducible first | exact HB.out | apply below_alloc | apply pw_below_drewN | apply below_drew1 | refine below_set ?_ GE223.out) | exact HB.out)))); (case aL => have := LMc45.out; omega); intro v264 w52 ho hb hg hat; rw [← Ny263.out] at ho; have n0_ := Aside0.mk (blk_grown (g := gb223) (o := .cells #[.int .i64 ((rd_T38 l0 x6_1).f0.f0), .int .i64 ((rd_T38 l0 x6_1).f0.f1), .int .i64 ((rd_T38 l0 x6_1).f1.f0), .int .i64 ((rd_T38 l0 x6_1).f1.f1), .int .i64 ((rd_T38 l0 x6_1).f2), .int .i32 ((rd_T38 l0 x6_1).f3)] 38 (0, 0)) (by (with_reducible repeat (first | refine blk_drewN ?_ _ | refine blk_drew ?_ | refine blk_alloc ?_ _)); exact BK223.out) hg (Kd.R_ne HO_4.out BK223.out (by decide))); have n1_ := Aside0.mk (Kd.R_after (ok := (fun k_ => some k_ ≠ (v258 : Value).ownBlock ∧ some k_ ≠ (.slice Ao53 t260.length co53 : Value).ownBlock)) (by (with_reducible repeat (first | apply Kd.R_alloc | apply Kd.R_drewN | apply Kd.R_drew)); exact Kd.R_mono HO256.out (fun _ hk => ⟨⟨hk.1.2, hk.2⟩, hk.1.1⟩)) hg hat); have n2_ := Aside0.mk (Kd.R_after (ok := (fun k_ => some k_ ≠ (.slice Ao49 t254.length co49 : Value).ownBlock ∧ some k_ ≠ (.slice Ao53 t260.length co53 : Value).ownBlock)) (by (with_reducible repeat (first | apply Kd.R_alloc | apply Kd.R_drewN | apply Kd.R_drew)); exact Kd.R_mono HO259.out (fun _ hk => ⟨⟨hk.1.2, hk.2⟩, hk.1.1⟩)) hg hat); have n3_ := Aside0.mk (Kd.R_after (ok := (fun k_ => some k_ ≠ (.slice Ao49 t254.length co49 : Value).ownBlock ∧ some k_ ≠ (v258 : Value).ownBlock)) (by (with_reducible repeat (first | apply Kd.R_alloc | apply Kd.R_drewN | apply Kd.R_drew)); exact Kd.R_mono HO262.out (fun _ hk => ⟨⟨hk.1.2, hk.2⟩, hk.1.1.2⟩)) hg hat); have n4_ := Aside0.mk (hb); have n5_ := Aside0.mk (ho); clear BK223; clear HO256; clear HO259; clear HO262; clear HB; clear HO_4; have BK223 := n0_; have HO256 := n1_; have HO259 := n2_; have HO262 := n3_; have HB := n4_; have HO265 := n5_; clear n0_ n1_ n2_ n3_ n4_ n5_; clear ho hb hg hat))
             go_roundg kj11
             case measure => have := HK1.out; have := HJ11.out; omega
             case rel => exact ⟨(y257), (y263), (((rd_T38 l0 x6_1).f0.f1)), (wrap64 (x6_1 + 1)), (by first | rfl | (simp; done) | (simp [*]; done)), (by first | rfl | (simp; done) | (simp [*]; done)), H', ⟨by have := HK1.out; have := HJ11.out; omega⟩, ⟨by (with_reducible repeat (first | apply Kd.R_alloc | apply Kd.R_drewN | apply Kd.R_drew)); exact Kd.R_mono HO259.out (fun _ hk => hk.2)⟩, ⟨by (with_reducible repeat (first | apply Kd.R_alloc | apply Kd.R_drewN | apply Kd.R_drew)); exact Kd.R_mono HO265.out (fun _ hk => hk.2.1)⟩, ⟨by repeat (first | (with_reducible first | exact HB.out | apply below_alloc | apply pw_below_drewN | apply below_drew1 | refine below_set ?_ GE223.out) | exact HB.out)⟩⟩
            ·
             rw [if_neg c45] at H
             exact absurd H (by simp)
           ·
            rw [if_neg c43] at H
            exact absurd H (by simp)
       ·
        rw [if_neg c11] at H
        exact absurd H (by simp)
      ·
       rw [if_neg c9] at H
       exact absurd H (by simp)
     ·
      rw [if_neg c7] at H
      exact absurd H (by simp)
    ·
     rw [if_neg c5] at H
     exact absurd H (by simp)
   ·
    rw [if_neg c4] at H
    have c4b0 : decide (x6_1 < (l0.length : Int)) = false := decide_eq_false c4
    clear c4
    replace H := Option.bind_eq_some_iff.mp H
    obtain ⟨t213, A540, H⟩ := H
    replace H : (if x3_1.length + t213.length < 140737488355328 then ((some (x3_1 ++ t213 : List Int)).bind fun y216 => (if y216.length + x4_1.length < 140737488355328 then (some (y216 ++ x4_1)) else (none))) else (none)) = some r := H
    have A54 := Aside0.mk A540
    clear A540
    by_cases c55 : x3_1.length + t213.length < 140737488355328
    ·
     rw [if_pos c55] at H
     have LMc55 := Aside0.mk c55
     clear c55
     obtain ⟨y216, hy216⟩ : ∃ y_ : List Int, y_ = (x3_1 ++ t213) := ⟨_, rfl⟩
     replace H : (if y216.length + x4_1.length < 140737488355328 then (some (y216 ++ x4_1)) else (none)) = some r := by first | (rw [hy216]; with_reducible exact H) | (have H2_ := (Option.bind_some _ _).symm.trans H; rw [hy216]; with_reducible exact H2_) | (have H2_ := (Option.bind_some _ _).symm.trans H; with_reducible exact H2_) | with_reducible exact H | (rw [hy216]; exact H) | exact H
     have Ny216 := Aside0.mk hy216
     clear hy216
     by_cases c56 : y216.length + x4_1.length < 140737488355328
     ·
      rw [if_pos c56] at H
      have LMc56 := Aside0.mk c56
      clear c56
      obtain ⟨y219, hy219⟩ : ∃ y_ : List Int, y_ = (y216 ++ x4_1) := ⟨_, rfl⟩
      replace H : (some y219) = some r := by first | (rw [hy219]; with_reducible exact H) | (have H2_ := (Option.bind_some _ _).symm.trans H; rw [hy219]; with_reducible exact H2_) | (have H2_ := (Option.bind_some _ _).symm.trans H; with_reducible exact H2_) | with_reducible exact H | (rw [hy219]; exact H) | exact H
      have Ny219 := Aside0.mk hy219
      clear hy219
      obtain rfl := Option.some.inj H
      obtain ⟨Ao57, co57, eo57⟩ := Kd.R_slice HO_4.out
      subst eo57
      go_wp2_with (first | ((with_reducible refine gate_callee (f := 29) rfl ?_); refine goesL_ (some 85) rfl rfl Try.func29 (by kernel_rfl) rfl #[.int .u64 (IntKind.u64.wrap ((x4_1.length : Int)))] rfl (by (try simp only [List.map_toArray, List.map_cons, List.map_nil]); first | done | rfl | (simp only [List.length_drop, List.length_take]; rfl)) ?_; (with_reducible refine (redpencilref17_Number.calls k1 (IntKind.u64.wrap ((x4_1.length : Int))) t213 _ A54.out).mono ?_); rintro e w58 ⟨v214, rfl, ho0, hb⟩; refine ⟨_, rfl, ?_⟩; have n0_ := Aside0.mk (Kd.R_elder' (by (with_reducible repeat (first | apply Kd.R_alloc | apply Kd.R_drewN | apply Kd.R_drew)); exact HO_3.out) (Kd.R_base ho0) hb); have n1_ := Aside0.mk (Kd.R_elder' (by (with_reducible repeat (first | apply Kd.R_alloc | apply Kd.R_drewN | apply Kd.R_drew)); exact HO_4.out) (Kd.R_base ho0) hb); have n2_ := Aside0.mk (Kd.R_lower (Kd.R_new' (Kd.R_new' ho0 (Kd.R_lt (by (with_reducible repeat (first | apply Kd.R_alloc | apply Kd.R_drewN | apply Kd.R_drew)); exact HO_3.out))) (Kd.R_lt (by (with_reducible repeat (first | apply Kd.R_alloc | apply Kd.R_drewN | apply Kd.R_drew)); exact HO_4.out))) (below_size (by repeat (first | (with_reducible first | exact HB.out | apply below_alloc | apply pw_below_drewN | apply below_drew1) | exact HB.out)))); have n3_ := Aside0.mk (below_step (by repeat (first | (with_reducible first | exact HB.out | apply below_alloc | apply pw_below_drewN | apply below_drew1) | exact HB.out)) hb); clear HO_3; clear HO_4; clear HB; have HO_3 := n0_; have HO_4 := n1_; have HO215 := n2_; have HB := n3_; clear n0_ n1_ n2_ n3_; (try clear hb); (try clear hb2); (try clear hk); (try clear hi); (try clear ho0); obtain ⟨Ao60, co60, eo60⟩ := Kd.R_slice HO215.out; subst eo60) | ((with_reducible refine gate_builtin (b := .append) (xs := #[.tmp 81, .tmp 85]) rfl ?_); at_builtin; refine Kd.R_append_rows (Kd.int .u8) (w0 := w) w.heap.size rfl (.tmp 81) (.tmp 85) 24 5 (.int .u8 0) 1 rfl Try.underlying24 info5 rfl (by decide) (by omega) u3 x3_1 t213 _ _ _ (fun k_ => some k_ ≠ (.slice Ao57 x4_1.length co57 : Value).ownBlock ∧ some k_ ≠ (.slice Ao60 t213.length co60 : Value).ownBlock) (fun _ => False) rfl rfl ?aO ?aR (fun _ _ h => h) (fun _ h => h.elim) ?aF ?aB ?aS ?aL ?_; (case aR => repeat (first | exact (Kd.R_reads' HO215.out).2.2 | (with_reducible refine Kd.C_alloc ?_ _) | (with_reducible refine Kd.C_drewN ?_ _) | (with_reducible refine Kd.C_drew ?_))); (case aB => exact (by repeat (first | (with_reducible first | exact HB.out | apply below_alloc | apply pw_below_drewN | apply below_drew1) | exact HB.out))); (case aF => exact (fun k_ hk => ⟨Kd.fresh' (Kd.R_lt (by (with_reducible repeat (first | apply Kd.R_alloc | apply Kd.R_drewN | apply Kd.R_drew)); exact HO_4.out)) k_ hk, Kd.fresh' (Kd.R_lt (by (with_reducible repeat (first | apply Kd.R_alloc | apply Kd.R_drewN | apply Kd.R_drew)); exact HO215.out)) k_ hk⟩)); (case aO => exact (by (with_reducible repeat (first | apply Kd.R_alloc | apply Kd.R_drewN | apply Kd.R_drew)); exact HO_3.out)); (case aS => exact (below_size (by repeat (first | (with_reducible first | exact HB.out | apply below_alloc | apply pw_below_drewN | apply below_drew1) | exact HB.out)))); (case aL => have := LMc55.out; omega); intro v217 w59 ho hb hg hat; rw [← Ny216.out] at ho; have n0_ := Aside0.mk (Kd.R_after (ok := (fun k_ => some k_ ≠ (.slice Ao60 t213.length co60 : Value).ownBlock)) (by (with_reducible repeat (first | apply Kd.R_alloc | apply Kd.R_drewN | apply Kd.R_drew)); exact Kd.R_mono HO_4.out (fun _ hk => ⟨hk.2, hk.1⟩)) hg hat); have n1_ := Aside0.mk (Kd.R_after (ok := (fun k_ => some k_ ≠ (.slice Ao57 x4_1.length co57 : Value).ownBlock)) (by (with_reducible repeat (first | apply Kd.R_alloc | apply Kd.R_drewN | apply Kd.R_drew)); exact Kd.R_mono HO215.out (fun _ hk => ⟨hk.2, hk.1.2⟩)) hg hat); have n2_ := Aside0.mk (hb); have n3_ := Aside0.mk (ho); clear HO_4; clear HO215; clear HB; clear HO_3; have HO_4 := n0_; have HO215 := n1_; have HB := n2_; have HO218 := n3_; clear n0_ n1_ n2_ n3_; clear ho hb hg hat) | ((with_reducible refine gate_builtin (b := .append) (xs := #[.tmp 86, .tmp 87]) rfl ?_); at_builtin; refine Kd.R_append_rows (Kd.int .u8) (w0 := w) w.heap.size rfl (.tmp 86) (.tmp 87) 24 5 (.int .u8 0) 1 rfl Try.underlying24 info5 rfl (by decide) (by omega) v217 y216 x4_1 _ _ _ (fun k_ => some k_ ≠ (.slice Ao57 x4_1.length co57 : Value).ownBlock ∧ some k_ ≠ (.slice Ao60 t213.length co60 : Value).ownBlock) (fun _ => False) rfl rfl ?aO ?aR (fun _ _ h => h) (fun _ h => h.elim) ?aF ?aB ?aS ?aL ?_; (case aR => repeat (first | exact (Kd.R_reads' HO_4.out).2.2 | (with_reducible refine Kd.C_alloc ?_ _) | (with_reducible refine Kd.C_drewN ?_ _) | (with_reducible refine Kd.C_drew ?_))); (case aB => exact (by repeat (first | (with_reducible first | exact HB.out | apply below_alloc | apply pw_below_drewN | apply below_drew1) | exact HB.out))); (case aF => exact (fun k_ hk => ⟨Kd.fresh' (Kd.R_lt (by (with_reducible repeat (first | apply Kd.R_alloc | apply Kd.R_drewN | apply Kd.R_drew)); exact HO_4.out)) k_ hk, Kd.fresh' (Kd.R_lt (by (with_reducible repeat (first | apply Kd.R_alloc | apply Kd.R_drewN | apply Kd.R_drew)); exact HO215.out)) k_ hk⟩)); (case aO => exact (by (with_reducible repeat (first | apply Kd.R_alloc | apply Kd.R_drewN | apply Kd.R_drew)); exact HO218.out)); (case aS => exact (below_size (by repeat (first | (with_reducible first | exact HB.out | apply below_alloc | apply pw_below_drewN | apply below_drew1) | exact HB.out)))); (case aL => have := LMc56.out; omega); intro v220 w61 ho hb hg hat; rw [← Ny219.out] at ho; have n0_ := Aside0.mk (Kd.R_after (ok := (fun k_ => some k_ ≠ (.slice Ao60 t213.length co60 : Value).ownBlock)) (by (with_reducible repeat (first | apply Kd.R_alloc | apply Kd.R_drewN | apply Kd.R_drew)); exact HO_4.out) hg hat); have n1_ := Aside0.mk (Kd.R_after (ok := (fun k_ => some k_ ≠ (.slice Ao57 x4_1.length co57 : Value).ownBlock)) (by (with_reducible repeat (first | apply Kd.R_alloc | apply Kd.R_drewN | apply Kd.R_drew)); exact HO215.out) hg hat); have n2_ := Aside0.mk (hb); have n3_ := Aside0.mk (ho); clear HO_4; clear HO215; clear HB; clear HO218; have HO_4 := n0_; have HO215 := n1_; have HB := n2_; have HO221 := n3_; clear n0_ n1_ n2_ n3_; clear ho hb hg hat))
      go_ret
      exact ⟨_, by first | rfl | (simp [errW_none, errW_some] <;> rfl) | (simp [*, errW_none, errW_some] <;> rfl), by (with_reducible repeat (first | apply Kd.R_alloc | apply Kd.R_drewN | apply Kd.R_drew)); exact Kd.R_mono HO221.out (fun _ hk => trivial), by repeat (first | (with_reducible first | exact HB.out | apply below_alloc | apply pw_below_drewN | apply below_drew1) | exact HB.out)⟩
     ·
      rw [if_neg c56] at H
      exact absurd H (by simp)
    ·
     rw [if_neg c55] at H
     exact absurd H (by simp)

end Go.Proofs.Ytfbjbajbjlcjfaa.PCanonStates
