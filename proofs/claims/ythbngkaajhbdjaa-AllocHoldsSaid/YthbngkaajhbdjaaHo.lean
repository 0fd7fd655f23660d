/- AllocHolds answers true for every replica, last counter, end and list of calls. -/
import Derived.Test.YthbngkaajhbdjaaPl
namespace Go.Proofs.Ythbngkaajhbdjaa.Al
open Go.RowKit Go.Proofs Go.Proofs.YthbngkaajhbdjaaW.PrintWords Go.Proofs.Ythbngkaajhbdjaa.Kit
set_option linter.unusedSimpArgs false
set_option linter.unusedVariables false

/-- The state of the law: one allocator, and nothing that was there before has turned. -/
structure HS (w0 : World) (b : Nat) (r l e : Int) (w : World) : Prop where
  al : Al w b r l e
  bel : Below w0.heap.size w0 w
  bb : w0.heap.size ≤ b
section
variable {w0 w w1 : World} {b : Nat} {r l e : Int}
theorem HS.below (h : HS w0 b r l e w) (hb : Below w.heap.size w w1) : HS w0 b r l e w1 := ⟨h.al.below hb, below_step h.bel hb, h.bb⟩
theorem HS.turn {l1 e1 : Int} (h : HS w0 b r l e w) (ha : Al w1 b r l1 e1) (hg : w.grownBy w1 (some b)) : HS w0 b r l1 e1 w1 :=
  ⟨ha, grown_below h.bel h.bel.size hg (fun k q => by injection q with q; have := h.bb; omega), h.bb⟩
/-- Another allocator has been used. -/
theorem HS.other {b2 : Nat} (h : HS w0 b r l e w) (hg : w.grownBy w1 (some b2)) (hne : b2 ≠ b) (hb : w0.heap.size ≤ b2) : HS w0 b r l e w1 :=
  ⟨h.al.grown hg (by intro q; injection q with q; exact hne q.symm), grown_below h.bel h.bel.size hg (fun k q => by injection q with q; omega), h.bb⟩
end

theorem take_fail {l e n : Int} (h : n < 0 ∨ 65536 < n ∨ e - l < n) : ∃ x, takeE l e n = x ∧ x ≠ 0 ∧ takeN l e n = 0 := by
  unfold takeE takeN
  by_cases g1 : n < 0 ∨ 65536 < n
  · exact ⟨2, by rw [if_pos g1], by decide, by rw [if_pos g1]⟩
  · exact ⟨14, by rw [if_neg g1, if_pos (by omega)], by decide, by rw [if_neg g1, if_pos (by omega)]⟩
theorem take_good {l e n : Int} {N : Nat} (h : ¬ (n < 0 ∨ 65536 < n ∨ e - l < n)) (hN : n = N) : takeE l e n = 0 ∧ takeN l e n = N := by
  unfold takeE takeN
  rw [if_neg (by omega), if_neg (by omega), if_neg (by omega), if_neg (by omega)]
  exact ⟨rfl, by omega⟩
set_option maxRecDepth 100000 in
set_option maxHeartbeats 4000000 in
theorem holds_walk (r l e : Int) (A : Option Addr) (c : Nat) (xs : List (Int × Int)) (w : World) (hx : d32.C w A xs.length xs) :
    Calls Try.prog 5 #[.int .i64 r, .int .i64 l, .int .i64 e, .slice A xs.length c] w (LawP w) := by
  have lx : xs.length ≤ 9223372036854775807 := hx.2.1
  have HX := Lib.hid hx
  clear hx
  cases h : validB r l e with
  | false =>
    have HV := Lib.hid h
    clear h
    go_enter Try.func5, Try.ntmps5
    go_wp2_with (first | (go_at_call 17; refine (few_any A c xs _ HX.out).mono ?_; rintro en w1 ⟨q, rfl, rfl⟩; cases q) | (go_at_call 8; refine (known_a _).mono ?_; rintro en w3 ⟨rfl, hb3⟩; have B3 := Lib.hid hb3; clear hb3) | (go_at_call 9; refine (new_no _ _ _ _ HV.out).mono ?_; rintro en w2 ⟨rfl, hb2⟩; have B2 := Lib.hid hb2; clear hb2))
    · go_ret
      exact ⟨rfl, B3.out⟩
    · go_ret
      exact ⟨rfl, below_step B2.out B3.out⟩
  | true =>
    obtain ⟨hr, h1, h2, h3, h4, h5⟩ := valid_parts h
    have HV := Lib.hid h
    have Hr := Lib.hid hr
    have hrr : (r != r) = false := bne_self_eq_false r
    clear h
    go_enter Try.func5, Try.ntmps5
    go_wp2_with (first | (go_at_call 17; refine (few_any A c xs _ HX.out).mono ?_; rintro en w1 ⟨q, rfl, rfl⟩; cases q) | (go_at_call 8; refine (known_a _).mono ?_; rintro en w3 ⟨rfl, hb3⟩; have B3 := Lib.hid hb3; clear hb3) | (go_at_call 9; refine (new_yes _ _ _ _ HV.out).mono ?_; rintro en w2 ⟨b, rfl, hbw, HA2, hb2⟩; have P := Lib.hid (HS.mk HA2 hb2 hbw); clear hb2 HA2 hbw))
    · go_ret
      exact ⟨rfl, B3.out⟩
    go_loopw [11, 45] (fun p i wr => ∃ (k : Nat) (B l e : Int), k ≤ xs.length ∧ i = .int .i64 k ∧ p = .int .i64 B ∧ HS w b r l e wr ∧ B ≤ l ∧ 0 ≤ l ∧ l ≤ e ∧ e ≤ 4294967295) (fun _ i _ => (xs.length : Int).toNat - (intOf i).toNat)
    case atStart => exact ⟨0, l, l, e, by omega, rfl, rfl, P.out, by omega, h3, h4, h5⟩
    case round =>
      clear P h3 h4 h5
      obtain ⟨k, B, l, e, hk, rfl, rfl, hP, hB, h3, h4, h5⟩ := hrel
      by_cases hlt : k < xs.length
      · obtain ⟨ad, eA, q0, q1⟩ := at_dot (Kd.C_below HX.out hP.bel) (k : Int) (by omega) (by omega)
        subst eA
        rw [Int.toNat_natCast] at q0 q1
        generalize (xs.getD k D0).1 = a at *
        generalize (xs.getD k D0).2 = n at *
        have P := Lib.hid hP
        clear hP
        by_cases a2 : a = 2
        · subst a2
          have x1 : 0 ≤ extendEnd e n ∧ e ≤ extendEnd e n ∧ extendEnd e n ≤ 4294967295 := by unfold extendEnd; split <;> omega
          go_wp2_with (first | (go_at_call 18; refine (copy_any b r l e _ Hr.out (P.out.below (below_alloc (Below.refl _ _) _)).al).mono ?_; rintro en v1 ⟨b2, rfl, hb2, HA2, hb1⟩; have PO := (P.out.below (below_alloc (Below.refl _ _) (.cells #[.int .i64 2, .int .i64 n] 44 (0, 0)))); have S := Lib.hid (And.intro (Nat.lt_of_lt_of_le PO.al.lt hb2) HA2); have P := Lib.hid (PO.below hb1); have XB := blk_below (blk_new wr (.cells #[.int .i64 2, .int .i64 n] 44 (0, 0))) hb1; have t0 := (blk_cell XB 0).trans rfl; have t1 := (blk_cell XB 1).trans rfl; clear PO hb2 HA2 hb1 XB) | (go_at_call 20; refine (extend_any b r l e n _ Hr.out P.out.al).mono ?_; rintro en v2 ⟨rfl, HA3, HG3⟩; have P := Lib.hid (P.out.turn HA3 HG3); clear HA3 HG3))
          obtain ⟨x1, x2, x3⟩ := x1
          generalize extendEnd e n = e1 at *
          go_loopw [11, 110] (fun p i wr => i = .int .i64 0 ∧ p = .int .i64 B ∧ HS w b r (l) (e1) wr) (fun _ _ _ => 0)
          case atStart => exact ⟨rfl, rfl, P.out⟩
          case round =>
            obtain ⟨rfl, rfl, hP⟩ := hrel
            have P := Lib.hid hP
            clear hP
            have hd1 : (l + (e1 - (l)) != e1) = false := by rw [bne_eq_false_iff_eq]; omega
            have hd2 : decide ((l) < B) = false := decide_eq_false (by omega)
            go_wp2_with (first | (go_at_call 11; ((with_reducible refine (last_any b r (l) (e1) _ Hr.out P.out.al).mono ?_); rintro en v8 ⟨rfl, rfl⟩)) | (go_at_call 12; refine (left_any b r (l) (e1) _ Hr.out P.out.al (by omega) (by omega) (by omega)).mono ?_; rintro en v8 ⟨rfl, rfl⟩) | (go_at_call 22; refine (end_any b r (l) (e1) _ Hr.out P.out.al).mono ?_; rintro en v8 ⟨rfl, rfl⟩))
            go_roundw
            case rel => exact ⟨k + 1, B, l, e1, by omega, by go_num, rfl, P.out, by omega, by omega, by omega, by omega⟩
            case measure => simp [intOf]; omega
        by_cases a3 : a = 3
        · subst a3
          have x1 : l ≤ passLast l e n ∧ passLast l e n ≤ e := by unfold passLast; split <;> (try split) <;> (try split) <;> omega
          go_wp2_with (first | (go_at_call 18; refine (copy_any b r l e _ Hr.out (P.out.below (below_alloc (Below.refl _ _) _)).al).mono ?_; rintro en v1 ⟨b2, rfl, hb2, HA2, hb1⟩; have PO := (P.out.below (below_alloc (Below.refl _ _) (.cells #[.int .i64 3, .int .i64 n] 44 (0, 0)))); have S := Lib.hid (And.intro (Nat.lt_of_lt_of_le PO.al.lt hb2) HA2); have P := Lib.hid (PO.below hb1); have XB := blk_below (blk_new wr (.cells #[.int .i64 3, .int .i64 n] 44 (0, 0))) hb1; have t0 := (blk_cell XB 0).trans rfl; have t1 := (blk_cell XB 1).trans rfl; clear PO hb2 HA2 hb1 XB) | (go_at_call 21; refine (pass_any b r l e n _ Hr.out P.out.al).mono ?_; rintro en v2 ⟨rfl, HA3, HG3⟩; have P := Lib.hid (P.out.turn HA3 HG3); clear HA3 HG3))
          obtain ⟨x1, x2⟩ := x1
          generalize passLast l e n = l1 at *
          go_loopw [11, 110] (fun p i wr => i = .int .i64 0 ∧ p = .int .i64 B ∧ HS w b r (l1) (e) wr) (fun _ _ _ => 0)
          case atStart => exact ⟨rfl, rfl, P.out⟩
          case round =>
            obtain ⟨rfl, rfl, hP⟩ := hrel
            have P := Lib.hid hP
            clear hP
            have hd1 : (l1 + (e - (l1)) != e) = false := by rw [bne_eq_false_iff_eq]; omega
            have hd2 : decide ((l1) < B) = false := decide_eq_false (by omega)
            go_wp2_with (first | (go_at_call 11; ((with_reducible refine (last_any b r (l1) (e) _ Hr.out P.out.al).mono ?_); rintro en v8 ⟨rfl, rfl⟩)) | (go_at_call 12; refine (left_any b r (l1) (e) _ Hr.out P.out.al (by omega) (by omega) (by omega)).mono ?_; rintro en v8 ⟨rfl, rfl⟩) | (go_at_call 22; refine (end_any b r (l1) (e) _ Hr.out P.out.al).mono ?_; rintro en v8 ⟨rfl, rfl⟩))
            go_roundw
            case rel => exact ⟨k + 1, B, l1, e, by omega, by go_num, rfl, P.out, by omega, by omega, by omega, by omega⟩
            case measure => simp [intOf]; omega
        by_cases a0 : a = 0
        · subst a0
          by_cases he1 : (1 : Int) < 0 ∨ 65536 < (1 : Int) ∨ e - l < (1 : Int)
          · obtain ⟨x, e1, hx0, e2⟩ := take_fail he1
            have hx1 : (x != 0) = true := bne_iff_ne.2 hx0
            have hx2 : (x == 0) = false := beq_eq_false_iff_ne.2 hx0
            have E1 := Lib.hid e1
            have E2 := Lib.hid e2
            clear e1 e2 hx0 he1
            go_wp2_with (first | (go_at_call 18; refine (copy_any b r l e _ Hr.out (P.out.below (below_alloc (Below.refl _ _) _)).al).mono ?_; rintro en v1 ⟨b2, rfl, hb2, HA2, hb1⟩; have PO := (P.out.below (below_alloc (Below.refl _ _) (.cells #[.int .i64 0, .int .i64 n] 44 (0, 0)))); have S := Lib.hid (And.intro (Nat.lt_of_lt_of_le PO.al.lt hb2) HA2); have P := Lib.hid (PO.below hb1); have XB := blk_below (blk_new wr (.cells #[.int .i64 0, .int .i64 n] 44 (0, 0))) hb1; have t0 := (blk_cell XB 0).trans rfl; have t1 := (blk_cell XB 1).trans rfl; clear PO hb2 HA2 hb1 XB) | (go_at_call 10; refine (take_any b r l e (1 : Int) _ Hr.out P.out.al h3 h4 h5).mono ?_; rintro en v2 ⟨v, rfl, HR, HA3, HG3⟩; rw [E1.out]; rw [E2.out] at HR HA3; have SB := Nat.ne_of_gt S.out.1; have S2 := Lib.hid (And.intro S.out.1 (S.out.2.grown HG3 (by intro q; injection q with q; exact SB q))); have P := Lib.hid (P.out.turn HA3 HG3); obtain ⟨A', c', rfl, _, HC⟩ := Kd.R_reads HR; clear HR HC; clear HA3 HG3 SB))
            go_roundw
            case rel => exact ⟨k + 1, B, l, e, by omega, by go_num, rfl, by simpa using P.out, by omega, by omega, by omega, by omega⟩
            case measure => simp [intOf]; omega
          · obtain ⟨N, hN⟩ : ∃ N : Nat, ((1 : Int) : Int) = N := ⟨((1 : Int) : Int).toNat, by omega⟩
            obtain ⟨e1, e2⟩ := take_good he1 hN
            have hNb : (N : Int) ≤ 65536 ∧ l + N ≤ e := by omega
            have E1 := Lib.hid e1
            have E2 := Lib.hid e2
            clear e1 e2 he1
            obtain ⟨hN1, hN2⟩ := hNb
            have hn1 : ((N : Int) != (1 : Int)) = false := by rw [bne_eq_false_iff_eq]; omega
            have HN := Lib.hid hN
            clear hN
            go_wp2_with (first | (go_at_call 18; refine (copy_any b r l e _ Hr.out (P.out.below (below_alloc (Below.refl _ _) _)).al).mono ?_; rintro en v1 ⟨b2, rfl, hb2, HA2, hb1⟩; have PO := (P.out.below (below_alloc (Below.refl _ _) (.cells #[.int .i64 0, .int .i64 n] 44 (0, 0)))); have S := Lib.hid (And.intro (Nat.lt_of_lt_of_le PO.al.lt hb2) HA2); have P := Lib.hid (PO.below hb1); have XB := blk_below (blk_new wr (.cells #[.int .i64 0, .int .i64 n] 44 (0, 0))) hb1; have t0 := (blk_cell XB 0).trans rfl; have t1 := (blk_cell XB 1).trans rfl; clear PO hb2 HA2 hb1 XB) | (go_at_call 10; refine (take_any b r l e (1 : Int) _ Hr.out P.out.al h3 h4 h5).mono ?_; rintro en v2 ⟨v, rfl, HR, HA3, HG3⟩; rw [E1.out]; rw [E2.out] at HR HA3; have SB := Nat.ne_of_gt S.out.1; have S2 := Lib.hid (And.intro S.out.1 (S.out.2.grown HG3 (by intro q; injection q with q; exact SB q))); have P := Lib.hid (P.out.turn HA3 HG3); have hlen := dots_length r l N; obtain ⟨A', c', rfl, _, HC⟩ := Kd.R_reads HR; rw [hlen] at HC; rw [hlen]; have CB := Lib.hid (fun (ad' : Addr) (q : A' = some ad') => HR.1 ad'.block (by rw [q]; rfl)); have V := Lib.hid HC; clear HR HC hlen; clear HA3 HG3 SB))
            have LB2 := Lib.hid S.out.2.lt
            have LBB := Lib.hid S.out.1
            have PP := Lib.hid P.out.bb
            go_loopw [74] (fun i wr => ∃ j : Nat, j ≤ N ∧ i = .int .i64 j ∧ HS w b r (l + N) e wr ∧ Al wr b2 r (l + j) e ∧ d32.C wr A' N (dots r l N)) (fun i _ => (N : Int).toNat - (intOf i).toNat)
            case atStart => exact ⟨0, by omega, rfl, P.out, by simpa using S2.out.2, V.out⟩
            case round =>
              clear P S2 V
              obtain ⟨j, hj, rfl, hP, hS, hV⟩ := hrel
              by_cases hjN : j < N
              · obtain ⟨ad', eA', q0', q1'⟩ := at_dot hV (j : Int) (by omega) (by omega)
                rw [Int.toNat_natCast] at q0' q1'
                have hdk : (dots r l N).getD j D0 = (r, l + 1 + (j : Int)) := by
                  rw [List.getD_eq_getElem?_getD, List.getElem?_eq_getElem (by rw [dots_length]; exact hjN)]
                  simp [dots]
                rw [hdk] at q0' q1'
                have y1 : r = if l + (j : Int) < e then r else 0 := by rw [if_pos (by omega)]
                have y2 : l + 1 + (j : Int) = if l + (j : Int) < e then l + j + 1 else 0 := by rw [if_pos (by omega)]; omega
                have y3 : 0 = nextE (l + j) e := by unfold nextE; rw [if_pos (by omega)]
                have y4 : nextLast (l + j) e = l + ((j + 1 : Nat) : Int) := by unfold nextLast; rw [if_pos (by omega)]; omega
                have Y := Lib.hid (And.intro y1 (And.intro y2 (And.intro y3 y4)))
                have EA' := Lib.hid eA'
                have P := Lib.hid hP
                have S2 := Lib.hid hS
                have V := Lib.hid hV
                clear y1 y2 y3 y4 hdk hP hS hV eA'
                subst A'
                go_wp2_with (go_at_call 19; refine (next_ok b2 r (l + j) e r (l + 1 + j) 0 _ Hr.out S2.out (by omega) (by omega) h5 Y.out.1 Y.out.2.1 Y.out.2.2.1).mono ?_; rintro en v5 ⟨rfl, HA5, HG5⟩; rw [Y.out.2.2.2] at HA5; have P := Lib.hid (P.out.other HG5 (Nat.ne_of_gt LBB.out) (Nat.le_of_lt (Nat.lt_of_le_of_lt PP.out LBB.out))); have S2 := Lib.hid HA5; have V := Lib.hid (C_keep1 V.out HG5 (fun ad' q _ => Nat.ne_of_gt (Nat.lt_of_lt_of_le LB2.out (CB.out ad' q)))); clear HA5 HG5)
                go_roundw
                case rel => exact ⟨j + 1, by omega, by go_num, P.out, S2.out, V.out⟩
                case measure => simp [intOf]; omega
              · obtain rfl : j = N := by omega
                have P := Lib.hid hP
                have S2 := Lib.hid hS
                have V := Lib.hid hV
                clear hP hS hV
                go_wp2_with (first | (go_at_call 11; ((with_reducible refine (last_any b r (l + j) e _ Hr.out P.out.al).mono ?_); rintro en v8 ⟨rfl, rfl⟩)) | (go_at_call 11; ((with_reducible refine (last_any b2 r (l + j) e _ Hr.out S2.out).mono ?_); rintro en v8 ⟨rfl, rfl⟩)))
                clear S2
                go_loopw [11, 110] (fun p i wr => ∃ (m : Nat) (B' : Int), m ≤ j ∧ i = .int .i64 m ∧ p = .int .i64 B' ∧ B' ≤ l + m ∧ HS w b r (l + j) e wr ∧ d32.C wr A' j (dots r l j)) (fun _ i _ => (j : Int).toNat - (intOf i).toNat)
                case atStart => exact ⟨0, B, by omega, rfl, rfl, by omega, P.out, V.out⟩
                case round =>
                  clear P V
                  obtain ⟨m, B', hm, rfl, rfl, hB', hP, hV⟩ := hrel
                  by_cases hmj : m < j
                  · obtain ⟨ad', eA', q0', q1'⟩ := at_dot hV (m : Int) (by omega) (by omega)
                    rw [Int.toNat_natCast] at q0' q1'
                    have hdk : (dots r l j).getD m D0 = (r, l + 1 + (m : Int)) := by
                      rw [List.getD_eq_getElem?_getD, List.getElem?_eq_getElem (by rw [dots_length]; exact hmj)]
                      simp [dots]
                    rw [hdk] at q0' q1'
                    have EA' := Lib.hid eA'
                    have P := Lib.hid hP
                    have V := Lib.hid hV
                    clear hdk hP hV eA'
                    subst A'
                    have hd1 : decide (l + 1 + (m : Int) ≤ B') = false := decide_eq_false (by omega)
                    have hd2 : decide (e < l + 1 + (m : Int)) = false := decide_eq_false (by omega)
                    go_wp2
                    have PQ := Lib.hid (P.out.below (below_alloc (Below.refl _ _) (.cells #[.int .i64 r, .int .i64 (l + 1 + (m : Int))] 32 (0, 0))))
                    have VQ := Lib.hid (Kd.C_below V.out (below_alloc (Below.refl _ _) (.cells #[.int .i64 r, .int .i64 (l + 1 + (m : Int))] 32 (0, 0))))
                    go_quiet ((go_at_call 22; exact quiet_l (end_any b r (l + j) e _ Hr.out PQ.out.al)))
                    go_wp2
                    go_roundw
                    case rel => exact ⟨m + 1, l + 1 + m, by omega, by go_num, rfl, by omega, PQ.out.below (pw_below_drewN (Below.refl _ _) _), VQ.out⟩
                    case measure => simp [intOf]; omega
                  · obtain rfl : m = j := by omega
                    have P := Lib.hid hP
                    clear hP hV
                    have hd1 : (l + (m : Int) + (e - (l + m)) != e) = false := by rw [bne_eq_false_iff_eq]; omega
                    have hd2 : decide (l + (m : Int) < B') = false := decide_eq_false (by omega)
                    go_wp2_with (first | (go_at_call 11; ((with_reducible refine (last_any b r (l + (m : Int)) (e) _ Hr.out P.out.al).mono ?_); rintro en v8 ⟨rfl, rfl⟩)) | (go_at_call 12; refine (left_any b r (l + (m : Int)) (e) _ Hr.out P.out.al (by omega) (by omega) (by omega)).mono ?_; rintro en v8 ⟨rfl, rfl⟩) | (go_at_call 22; refine (end_any b r (l + (m : Int)) (e) _ Hr.out P.out.al).mono ?_; rintro en v8 ⟨rfl, rfl⟩))
                    go_roundw
                    case rel => exact ⟨k + 1, B', l + m, e, by omega, by go_num, rfl, P.out, by omega, by omega, by omega, by omega⟩
                    case measure => simp [intOf]; omega

        by_cases a1 : a = 1
        · subst a1
          by_cases he1 : n < 0 ∨ 65536 < n ∨ e - l < n
          · obtain ⟨x, e1, hx0, e2⟩ := take_fail he1
            have hx1 : (x != 0) = true := bne_iff_ne.2 hx0
            have hx2 : (x == 0) = false := beq_eq_false_iff_ne.2 hx0
            have E1 := Lib.hid e1
            have E2 := Lib.hid e2
            clear e1 e2 hx0 he1
            go_wp2_with (first | (go_at_call 18; refine (copy_any b r l e _ Hr.out (P.out.below (below_alloc (Below.refl _ _) _)).al).mono ?_; rintro en v1 ⟨b2, rfl, hb2, HA2, hb1⟩; have PO := (P.out.below (below_alloc (Below.refl _ _) (.cells #[.int .i64 1, .int .i64 n] 44 (0, 0)))); have S := Lib.hid (And.intro (Nat.lt_of_lt_of_le PO.al.lt hb2) HA2); have P := Lib.hid (PO.below hb1); have XB := blk_below (blk_new wr (.cells #[.int .i64 1, .int .i64 n] 44 (0, 0))) hb1; have t0 := (blk_cell XB 0).trans rfl; have t1 := (blk_cell XB 1).trans rfl; clear PO hb2 HA2 hb1 XB) | (go_at_call 10; refine (take_any b r l e n _ Hr.out P.out.al h3 h4 h5).mono ?_; rintro en v2 ⟨v, rfl, HR, HA3, HG3⟩; rw [E1.out]; rw [E2.out] at HR HA3; have SB := Nat.ne_of_gt S.out.1; have S2 := Lib.hid (And.intro S.out.1 (S.out.2.grown HG3 (by intro q; injection q with q; exact SB q))); have P := Lib.hid (P.out.turn HA3 HG3); obtain ⟨A', c', rfl, _, HC⟩ := Kd.R_reads HR; clear HR HC; clear HA3 HG3 SB))
            go_roundw
            case rel => exact ⟨k + 1, B, l, e, by omega, by go_num, rfl, by simpa using P.out, by omega, by omega, by omega, by omega⟩
            case measure => simp [intOf]; omega
          · obtain ⟨N, hN⟩ : ∃ N : Nat, (n : Int) = N := ⟨(n : Int).toNat, by omega⟩
            obtain ⟨e1, e2⟩ := take_good he1 hN
            have hNb : (N : Int) ≤ 65536 ∧ l + N ≤ e := by omega
            have E1 := Lib.hid e1
            have E2 := Lib.hid e2
            clear e1 e2 he1
            obtain ⟨hN1, hN2⟩ := hNb
            have hn1 : ((N : Int) != n) = false := by rw [bne_eq_false_iff_eq]; omega
            have HN := Lib.hid hN
            clear hN
            go_wp2_with (first | (go_at_call 18; refine (copy_any b r l e _ Hr.out (P.out.below (below_alloc (Below.refl _ _) _)).al).mono ?_; rintro en v1 ⟨b2, rfl, hb2, HA2, hb1⟩; have PO := (P.out.below (below_alloc (Below.refl _ _) (.cells #[.int .i64 1, .int .i64 n] 44 (0, 0)))); have S := Lib.hid (And.intro (Nat.lt_of_lt_of_le PO.al.lt hb2) HA2); have P := Lib.hid (PO.below hb1); have XB := blk_below (blk_new wr (.cells #[.int .i64 1, .int .i64 n] 44 (0, 0))) hb1; have t0 := (blk_cell XB 0).trans rfl; have t1 := (blk_cell XB 1).trans rfl; clear PO hb2 HA2 hb1 XB) | (go_at_call 10; refine (take_any b r l e n _ Hr.out P.out.al h3 h4 h5).mono ?_; rintro en v2 ⟨v, rfl, HR, HA3, HG3⟩; rw [E1.out]; rw [E2.out] at HR HA3; have SB := Nat.ne_of_gt S.out.1; have S2 := Lib.hid (And.intro S.out.1 (S.out.2.grown HG3 (by intro q; injection q with q; exact SB q))); have P := Lib.hid (P.out.turn HA3 HG3); have hlen := dots_length r l N; obtain ⟨A', c', rfl, _, HC⟩ := Kd.R_reads HR; rw [hlen] at HC; rw [hlen]; have CB := Lib.hid (fun (ad' : Addr) (q : A' = some ad') => HR.1 ad'.block (by rw [q]; rfl)); have V := Lib.hid HC; clear HR HC hlen; clear HA3 HG3 SB))
            have LB2 := Lib.hid S.out.2.lt
            have LBB := Lib.hid S.out.1
            have PP := Lib.hid P.out.bb
            go_loopw [74] (fun i wr => ∃ j : Nat, j ≤ N ∧ i = .int .i64 j ∧ HS w b r (l + N) e wr ∧ Al wr b2 r (l + j) e ∧ d32.C wr A' N (dots r l N)) (fun i _ => (N : Int).toNat - (intOf i).toNat)
            case atStart => exact ⟨0, by omega, rfl, P.out, by simpa using S2.out.2, V.out⟩
            case round =>
              clear P S2 V
              obtain ⟨j, hj, rfl, hP, hS, hV⟩ := hrel
              by_cases hjN : j < N
              · obtain ⟨ad', eA', q0', q1'⟩ := at_dot hV (j : Int) (by omega) (by omega)
                rw [Int.toNat_natCast] at q0' q1'
                have hdk : (dots r l N).getD j D0 = (r, l + 1 + (j : Int)) := by
                  rw [List.getD_eq_getElem?_getD, List.getElem?_eq_getElem (by rw [dots_length]; exact hjN)]
                  simp [dots]
                rw [hdk] at q0' q1'
                have y1 : r = if l + (j : Int) < e then r else 0 := by rw [if_pos (by omega)]
                have y2 : l + 1 + (j : Int) = if l + (j : Int) < e then l + j + 1 else 0 := by rw [if_pos (by omega)]; omega
                have y3 : 0 = nextE (l + j) e := by unfold nextE; rw [if_pos (by omega)]
                have y4 : nextLast (l + j) e = l + ((j + 1 : Nat) : Int) := by unfold nextLast; rw [if_pos (by omega)]; omega
                have Y := Lib.hid (And.intro y1 (And.intro y2 (And.intro y3 y4)))
                have EA' := Lib.hid eA'
                have P := Lib.hid hP
                have S2 := Lib.hid hS
                have V := Lib.hid hV
                clear y1 y2 y3 y4 hdk hP hS hV eA'
                subst A'
                go_wp2_with (go_at_call 19; refine (next_ok b2 r (l + j) e r (l + 1 + j) 0 _ Hr.out S2.out (by omega) (by omega) h5 Y.out.1 Y.out.2.1 Y.out.2.2.1).mono ?_; rintro en v5 ⟨rfl, HA5, HG5⟩; rw [Y.out.2.2.2] at HA5; have P := Lib.hid (P.out.other HG5 (Nat.ne_of_gt LBB.out) (Nat.le_of_lt (Nat.lt_of_le_of_lt PP.out LBB.out))); have S2 := Lib.hid HA5; have V := Lib.hid (C_keep1 V.out HG5 (fun ad' q _ => Nat.ne_of_gt (Nat.lt_of_lt_of_le LB2.out (CB.out ad' q)))); clear HA5 HG5)
                go_roundw
                case rel => exact ⟨j + 1, by omega, by go_num, P.out, S2.out, V.out⟩
                case measure => simp [intOf]; omega
              · obtain rfl : j = N := by omega
                have P := Lib.hid hP
                have S2 := Lib.hid hS
                have V := Lib.hid hV
                clear hP hS hV
                go_wp2_with (first | (go_at_call 11; ((with_reducible refine (last_any b r (l + j) e _ Hr.out P.out.al).mono ?_); rintro en v8 ⟨rfl, rfl⟩)) | (go_at_call 11; ((with_reducible refine (last_any b2 r (l + j) e _ Hr.out S2.out).mono ?_); rintro en v8 ⟨rfl, rfl⟩)))
                clear S2
                go_loopw [11, 110] (fun p i wr => ∃ (m : Nat) (B' : Int), m ≤ j ∧ i = .int .i64 m ∧ p = .int .i64 B' ∧ B' ≤ l + m ∧ HS w b r (l + j) e wr ∧ d32.C wr A' j (dots r l j)) (fun _ i _ => (j : Int).toNat - (intOf i).toNat)
                case atStart => exact ⟨0, B, by omega, rfl, rfl, by omega, P.out, V.out⟩
                case round =>
                  clear P V
                  obtain ⟨m, B', hm, rfl, rfl, hB', hP, hV⟩ := hrel
                  by_cases hmj : m < j
                  · obtain ⟨ad', eA', q0', q1'⟩ := at_dot hV (m : Int) (by omega) (by omega)
                    rw [Int.toNat_natCast] at q0' q1'
                    have hdk : (dots r l j).getD m D0 = (r, l + 1 + (m : Int)) := by
                      rw [List.getD_eq_getElem?_getD, List.getElem?_eq_getElem (by rw [dots_length]; exact hmj)]
                      simp [dots]
                    rw [hdk] at q0' q1'
                    have EA' := Lib.hid eA'
                    have P := Lib.hid hP
                    have V := Lib.hid hV
                    clear hdk hP hV eA'
                    subst A'
                    have hd1 : decide (l + 1 + (m : Int) ≤ B') = false := decide_eq_false (by omega)
                    have hd2 : decide (e < l + 1 + (m : Int)) = false := decide_eq_false (by omega)
                    go_wp2
                    have PQ := Lib.hid (P.out.below (below_alloc (Below.refl _ _) (.cells #[.int .i64 r, .int .i64 (l + 1 + (m : Int))] 32 (0, 0))))
                    have VQ := Lib.hid (Kd.C_below V.out (below_alloc (Below.refl _ _) (.cells #[.int .i64 r, .int .i64 (l + 1 + (m : Int))] 32 (0, 0))))
                    go_quiet ((go_at_call 22; exact quiet_l (end_any b r (l + j) e _ Hr.out PQ.out.al)))
                    go_wp2
                    go_roundw
                    case rel => exact ⟨m + 1, l + 1 + m, by omega, by go_num, rfl, by omega, PQ.out.below (pw_below_drewN (Below.refl _ _) _), VQ.out⟩
                    case measure => simp [intOf]; omega
                  · obtain rfl : m = j := by omega
                    have P := Lib.hid hP
                    clear hP hV
                    have hd1 : (l + (m : Int) + (e - (l + m)) != e) = false := by rw [bne_eq_false_iff_eq]; omega
                    have hd2 : decide (l + (m : Int) < B') = false := decide_eq_false (by omega)
                    go_wp2_with (first | (go_at_call 11; ((with_reducible refine (last_any b r (l + (m : Int)) (e) _ Hr.out P.out.al).mono ?_); rintro en v8 ⟨rfl, rfl⟩)) | (go_at_call 12; refine (left_any b r (l + (m : Int)) (e) _ Hr.out P.out.al (by omega) (by omega) (by omega)).mono ?_; rintro en v8 ⟨rfl, rfl⟩) | (go_at_call 22; refine (end_any b r (l + (m : Int)) (e) _ Hr.out P.out.al).mono ?_; rintro en v8 ⟨rfl, rfl⟩))
                    go_roundw
                    case rel => exact ⟨k + 1, B', l + m, e, by omega, by go_num, rfl, P.out, by omega, by omega, by omega, by omega⟩
                    case measure => simp [intOf]; omega

        · have b0 : (a == 0) = false := beq_eq_false_iff_ne.2 a0
          have b1 : (a == 1) = false := beq_eq_false_iff_ne.2 a1
          have b2 : (a == 2) = false := beq_eq_false_iff_ne.2 a2
          have b3 : (a == 3) = false := beq_eq_false_iff_ne.2 a3
          clear a0 a1 a2 a3
          go_wp2_with (first | (go_at_call 18; refine (copy_any b r l e _ Hr.out (P.out.below (below_alloc (Below.refl _ _) _)).al).mono ?_; rintro en v1 ⟨b2, rfl, hb2, HA2, hb1⟩; have PO := (P.out.below (below_alloc (Below.refl _ _) (.cells #[.int .i64 a, .int .i64 n] 44 (0, 0)))); have S := Lib.hid (And.intro (Nat.lt_of_lt_of_le PO.al.lt hb2) HA2); have P := Lib.hid (PO.below hb1); have XB := blk_below (blk_new wr (.cells #[.int .i64 a, .int .i64 n] 44 (0, 0))) hb1; have t0 := (blk_cell XB 0).trans rfl; have t1 := (blk_cell XB 1).trans rfl; clear PO hb2 HA2 hb1 XB))
          go_loopw [11, 110] (fun p i wr => i = .int .i64 0 ∧ p = .int .i64 B ∧ HS w b r (l) (e) wr) (fun _ _ _ => 0)
          case atStart => exact ⟨rfl, rfl, P.out⟩
          case round =>
            obtain ⟨rfl, rfl, hP⟩ := hrel
            have P := Lib.hid hP
            clear hP
            have hd1 : (l + (e - (l)) != e) = false := by rw [bne_eq_false_iff_eq]; omega
            have hd2 : decide ((l) < B) = false := decide_eq_false (by omega)
            go_wp2_with (first | (go_at_call 11; ((with_reducible refine (last_any b r (l) (e) _ Hr.out P.out.al).mono ?_); rintro en v8 ⟨rfl, rfl⟩)) | (go_at_call 12; refine (left_any b r (l) (e) _ Hr.out P.out.al (by omega) (by omega) (by omega)).mono ?_; rintro en v8 ⟨rfl, rfl⟩) | (go_at_call 22; refine (end_any b r (l) (e) _ Hr.out P.out.al).mono ?_; rintro en v8 ⟨rfl, rfl⟩))
            go_roundw
            case rel => exact ⟨k + 1, B, l, e, by omega, by go_num, rfl, P.out, by omega, by omega, by omega, by omega⟩
            case measure => simp [intOf]; omega

      · go_wp2_with (go_at_call 8; refine (known_a _).mono ?_; rintro en w5 ⟨rfl, hb5⟩; have B5 := Lib.hid hb5; clear hb5)
        go_ret
        exact ⟨rfl, below_step hP.bel B5.out⟩
end Go.Proofs.Ythbngkaajhbdjaa.Al
