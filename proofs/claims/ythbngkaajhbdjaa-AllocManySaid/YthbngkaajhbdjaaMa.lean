/- AllocMany answers true for all numbers. -/
import Derived.Test.YthbngkaajhbdjaaNw
import Derived.IntWalk
namespace Go.Proofs.Ythbngkaajhbdjaa.Al
open Go.RowKit Go.Proofs Go.Proofs.YthbngkaajhbdjaaW.PrintWords Go.Proofs.Ythbngkaajhbdjaa.Kit
set_option linter.unusedSimpArgs false
set_option linter.unusedVariables false
attribute [local go_sem high] eqDot

set_option maxHeartbeats 1000000 in
theorem allocMany_out (m f : Int) (w : World) (h : m < -2 ∨ 2 < m ∨ f < -3 ∨ 3 < f) : Calls Try.prog 3 #[.int .i64 m, .int .i64 f] w (LawP w) := by
  have hk : ∀ W, Calls Try.prog 8 #[] W (fun en w' => en = .returned (.bool true) ∧ Below W.heap.size W w') := known_a
  by_cases h1 : m < -2
  · go_enter Try.func3, Try.ntmps3
    go_wp2_with (go_at_call 8; refine (known_a _).mono ?_; rintro en w3 ⟨rfl, hb3⟩; have B3 := Lib.hid hb3; clear hb3)
    go_ret
    exact ⟨rfl, B3.out⟩
  by_cases h2 : 2 < m
  · go_enter Try.func3, Try.ntmps3
    go_wp2_with (go_at_call 8; refine (known_a _).mono ?_; rintro en w3 ⟨rfl, hb3⟩; have B3 := Lib.hid hb3; clear hb3)
    go_ret
    exact ⟨rfl, B3.out⟩
  by_cases h3 : f < -3
  · go_enter Try.func3, Try.ntmps3
    go_wp2_with (go_at_call 8; refine (known_a _).mono ?_; rintro en w3 ⟨rfl, hb3⟩; have B3 := Lib.hid hb3; clear hb3)
    go_ret
    exact ⟨rfl, B3.out⟩
  have h4 : 3 < f := by omega
  go_enter Try.func3, Try.ntmps3
  go_wp2_with (go_at_call 8; refine (known_a _).mono ?_; rintro en w3 ⟨rfl, hb3⟩; have B3 := Lib.hid hb3; clear hb3)
  go_ret
  exact ⟨rfl, B3.out⟩

theorem many_valid {f : Int} (h1 : -3 ≤ f) (h2 : f ≤ 3) : validB 5 10 (65546 + f) = true := by simp [validB]; omega
theorem HR5 : ((5 : Int) == 0) = false := rfl
set_option maxHeartbeats 1000000 in
theorem allocMany_in (m f : Int) (w : World) (h1 : -2 ≤ m) (h2 : m ≤ 2) (h3 : -3 ≤ f) (h4 : f ≤ 3) : Calls Try.prog 3 #[.int .i64 m, .int .i64 f] w (LawP w) := by
  have HV := Lib.hid (many_valid h3 h4)
  by_cases h5 : 0 < m
  · have e1 : takeE 10 (65546 + f) (65536 + m) = 2 := by unfold takeE; rw [if_pos (by omega)]
    have e2 : takeN 10 (65546 + f) (65536 + m) = 0 := by unfold takeN; rw [if_pos (by omega)]
    have E1 := Lib.hid e1
    have E2 := Lib.hid e2
    clear e1 e2
    go_enter Try.func3, Try.ntmps3
    go_wp2_with (first | (go_at_call 9; refine (new_yes _ _ _ _ HV.out).mono ?_; rintro en w2 ⟨b, rfl, hbw, HA2, hb2⟩; have B2 := Lib.hid hb2; have HA2 := Lib.hid HA2; have HBW := Lib.hid hbw; clear hb2 hbw) | (go_at_call 10; refine (take_any b 5 10 (65546 + f) (65536 + m) _ HR5 HA2.out (by omega) (by omega) (by omega)).mono ?_; rintro en w3 ⟨v, rfl, HR, HA3, HG3⟩; rw [E1.out]; rw [E2.out] at HR HA3; obtain ⟨A', c', rfl, _, HC⟩ := Kd.R_reads HR; have HA3 := Lib.hid (show Al w3 b 5 10 (65546 + f) by simpa using HA3); have HG3 := Lib.hid HG3; clear HR HC) | (go_at_call 11; refine (last_any b 5 10 (65546 + f) _ HR5 HA3.out).mono ?_; rintro en w4 ⟨rfl, rfl⟩) | (go_at_call 8; refine (known_a _).mono ?_; rintro en w5 ⟨rfl, hb5⟩; have B5 := Lib.hid hb5; clear hb5))
    go_ret
    exact ⟨rfl, below_step (grown_below B2.out B2.out.size HG3.out (fun k hk => by injection hk with hk; have := HBW.out; omega)) B5.out⟩
  by_cases h6 : f < m
  · have e1 : takeE 10 (65546 + f) (65536 + m) = 14 := by unfold takeE; rw [if_neg (by omega), if_pos (by omega)]
    have e2 : takeN 10 (65546 + f) (65536 + m) = 0 := by unfold takeN; rw [if_neg (by omega), if_pos (by omega)]
    have E1 := Lib.hid e1
    have E2 := Lib.hid e2
    clear e1 e2
    go_enter Try.func3, Try.ntmps3
    go_wp2_with (first | (go_at_call 9; refine (new_yes _ _ _ _ HV.out).mono ?_; rintro en w2 ⟨b, rfl, hbw, HA2, hb2⟩; have B2 := Lib.hid hb2; have HA2 := Lib.hid HA2; have HBW := Lib.hid hbw; clear hb2 hbw) | (go_at_call 10; refine (take_any b 5 10 (65546 + f) (65536 + m) _ HR5 HA2.out (by omega) (by omega) (by omega)).mono ?_; rintro en w3 ⟨v, rfl, HR, HA3, HG3⟩; rw [E1.out]; rw [E2.out] at HR HA3; obtain ⟨A', c', rfl, _, HC⟩ := Kd.R_reads HR; have HA3 := Lib.hid (show Al w3 b 5 10 (65546 + f) by simpa using HA3); have HG3 := Lib.hid HG3; clear HR HC) | (go_at_call 11; refine (last_any b 5 10 (65546 + f) _ HR5 HA3.out).mono ?_; rintro en w4 ⟨rfl, rfl⟩) | (go_at_call 8; refine (known_a _).mono ?_; rintro en w5 ⟨rfl, hb5⟩; have B5 := Lib.hid hb5; clear hb5))
    go_ret
    exact ⟨rfl, below_step (grown_below B2.out B2.out.size HG3.out (fun k hk => by injection hk with hk; have := HBW.out; omega)) B5.out⟩
  obtain ⟨N, hN⟩ : ∃ N : Nat, 65536 + m = N := ⟨(65536 + m).toNat, by omega⟩
  obtain rfl : m = (N : Int) - 65536 := by omega
  have e1 : takeE 10 (65546 + f) N = 0 := by unfold takeE; rw [if_neg (by omega), if_neg (by omega)]
  have e2 : takeN 10 (65546 + f) N = N := by unfold takeN; rw [if_neg (by omega), if_neg (by omega)]; omega
  have E1 := Lib.hid e1
  have E2 := Lib.hid e2
  clear e1 e2
  have hd1 : decide ((65536 : Int) < N) = false := decide_eq_false (by omega)
  have hd2 : decide (f < (N : Int) - 65536) = false := decide_eq_false (by omega)
  have hd3 : (65546 + f - (10 + (N : Int)) != f - ((N : Int) - 65536)) = false := by rw [bne_eq_false_iff_eq]; omega
  have hd4 : decide ((N : Int) - 65536 < -2) = false := decide_eq_false (by omega)
  have hd5 : decide (2 < (N : Int) - 65536) = false := decide_eq_false (by omega)
  have hd6 : decide (f < -3) = false := decide_eq_false (by omega)
  have hd7 : decide (3 < f) = false := decide_eq_false (by omega)
  go_enter Try.func3, Try.ntmps3
  go_wp2_with (first | (go_at_call 9; refine (new_yes _ _ _ _ HV.out).mono ?_; rintro en w2 ⟨b, rfl, hbw, HA2, hb2⟩; have B2 := Lib.hid hb2; have HA2 := Lib.hid HA2; have HBW := Lib.hid hbw; clear hb2 hbw) | (go_at_call 10; refine (take_any b 5 10 (65546 + f) (N : Int) _ HR5 HA2.out (by omega) (by omega) (by omega)).mono ?_; rintro en w3 ⟨v, rfl, HR, HA3, HG3⟩; rw [E1.out]; rw [E2.out] at HR HA3; have hlen := dots_length 5 10 N; obtain ⟨A', c', rfl, _, HC⟩ := Kd.R_reads HR; rw [hlen] at HC; rw [hlen]; have HA3 := Lib.hid (show Al w3 b 5 (10 + (N : Int)) (65546 + f) from HA3); have HG3 := Lib.hid HG3; have HC := Lib.hid HC; clear HR hlen) | (go_at_call 11; refine (last_any b 5 10 (65546 + f) _ HR5 HA3.out).mono ?_; rintro en w4 ⟨rfl, rfl⟩) | (go_at_call 8; refine (known_a _).mono ?_; rintro en w5 ⟨rfl, hb5⟩; have B5 := Lib.hid hb5; clear hb5) | (go_at_call 12; refine (left_any b 5 (10 + (N : Int)) (65546 + f) _ HR5 HA3.out (by omega) (by omega) (by omega)).mono ?_; rintro en w4 ⟨rfl, rfl⟩))
  go_loopw [100] (fun i wr => ∃ k : Nat, k ≤ N ∧ i = .int .i64 k ∧ Below w3.heap.size w3 wr) (fun i _ => (N : Int).toNat - (intOf i).toNat)
  case atStart => exact ⟨0, by omega, rfl, Below.refl _ _⟩
  case round =>
    obtain ⟨k, hk, rfl, hb⟩ := hrel
    have HB := Lib.hid hb
    by_cases hlt : k < N
    · obtain ⟨ad, eA, q0, q1⟩ := at_dot (Kd.C_below HC.out hb) (k : Int) (by omega) (by omega)
      subst eA
      rw [Int.toNat_natCast] at q0 q1
      have hdk : (dots 5 10 N).getD k D0 = (5, 11 + (k : Int)) := by
        rw [List.getD_eq_getElem?_getD, List.getElem?_eq_getElem (by rw [dots_length]; exact hlt)]
        simp only [dots, List.getElem_map, List.getElem_range, Option.getD_some, Prod.mk.injEq, true_and]
        omega
      rw [hdk] at q0 q1
      clear hb hdk
      go_wp2
      have hbk := blk_new wr (.cells #[.int .i64 5, .int .i64 (11 + (k : Int))] 32 (0, 0))
      have hba := below_alloc HB.out (.cells #[.int .i64 5, .int .i64 (11 + (k : Int))] 32 (0, 0))
      clear q0 q1
      generalize (wr.alloc (.cells #[.int .i64 5, .int .i64 (11 + (k : Int))] 32 (0, 0))) = w4 at *
      generalize wr.heap.size = g at *
      have p0 : w4.cell? ⟨g, 0, none⟩ = some (.int .i64 5) := (blk_cell hbk 0).trans rfl
      have p1 : w4.cell? ⟨g, 1, none⟩ = some (.int .i64 (11 + (k : Int))) := (blk_cell hbk 1).trans rfl
      have HBK := Lib.hid hbk
      have HBA := Lib.hid hba
      clear hbk hba
      have hw1 : IntKind.i64.wrap (11 + (k : Int)) = 11 + (k : Int) := IntWalk.i64_in _ (by omega)
      go_region_with (go_at_call 13; refine (at_any _ _ _).mono ?_; rintro en w5 ⟨rfl, hb5⟩; have hx5 := blk_below (blk_drew HBK.out) hb5; have r0 := (blk_cell hx5 0).trans rfl; have r1 := (blk_cell hx5 1).trans rfl; have B5 := Lib.hid hb5; clear hb5 hx5)
      all_goals
        clear hw1
        go_wp2
        go_roundw
        case rel => exact ⟨k + 1, by omega, by go_num, below_step (below_drew HBA.out) B5.out⟩
        case measure => simp [intOf]; omega
    · clear hb
      go_wp2_with (go_at_call 8; refine (known_a _).mono ?_; rintro en w5 ⟨rfl, hb5⟩; have B5 := Lib.hid hb5; clear hb5)
      go_ret
      exact ⟨rfl, below_step (below_step (grown_below B2.out B2.out.size HG3.out (fun k hk => by injection hk with hk; have := HBW.out; omega)) HB.out) B5.out⟩

theorem allocMany_walk (m f : Int) (w : World) : Calls Try.prog 3 #[.int .i64 m, .int .i64 f] w (LawP w) := by
  by_cases h : m < -2 ∨ 2 < m ∨ f < -3 ∨ 3 < f
  · exact allocMany_out m f w h
  · exact allocMany_in m f w (by omega) (by omega) (by omega) (by omega)
end Go.Proofs.Ythbngkaajhbdjaa.Al
