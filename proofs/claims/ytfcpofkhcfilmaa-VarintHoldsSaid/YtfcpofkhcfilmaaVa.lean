/- A call of a reader, layer 1: the law's asks. -/
import Derived.Test.YtfcpofkhcfilmaaVq
namespace Go.Proofs.Ytfcpofkhcfilmaa.Vn
open Go.RowKit Go.Proofs Go.Proofs.YtfcpofkhcfilmaaW.PrintWords Go.Proofs.Ytfcpofkhcfilmaa.Kit Go.Proofs.Ytfcpofkhcfilmaa.PVarintWrites
set_option linter.unusedSimpArgs false
set_option linter.unusedVariables false

/-- So many bytes were read. -/
def AskP (g : Nat) (A : Option Addr) (c : Nat) (xs : List Int) (p : Nat) (w : World) (en : Ending) (w' : World) : Prop :=
  ∃ d : Nat, en = .returned (.int .i64 d) ∧ Rd w' g A c xs (p + d) ∧ Fr w w' (fun i => i = g)
theorem nmax {v s e : Int} {l : List Int} (hb : Bys l) (hr : RdR l v s e) : nV 18446744073709551615 v e = v ∧ nE 18446744073709551615 v e = e ∧ nS 18446744073709551615 v s e = s.toNat := by
  obtain ⟨i1, i2, i3, i4, i5, i6, i7, i8⟩ := rdr_in hb hr
  unfold nV nE nS
  by_cases he : e = 0
  · refine ⟨if_pos ⟨he, i2⟩, ?_, if_pos ⟨he, i2⟩⟩
    rw [if_neg (by simp [he]), if_neg (by omega), he]
  · have := i8 he
    refine ⟨?_, if_pos he, ?_⟩
    · rw [if_neg (fun q => he q.1)]; omega
    · rw [if_neg (fun q => he q.1)]; omega
section
variable {g : Nat} {A : Option Addr} {c : Nat} {xs : List Int} {p : Nat}
set_option maxHeartbeats 8000000 in
theorem asks_any (w : World) (h : Rd w g A c xs p) (hb : Bys xs) (Ab : Option Addr) (cb : Nat) {l : List Int} (hl : xs.drop p = l) (hC : k8.C w Ab l.length l) (hcb : l.length ≤ cb) (hne : ∀ ad, Ab = some ad → 0 < l.length → ad.block ≠ g)
    (f0 f1 f2 : Int) (h2 : -9223372036854775808 ≤ f2 ∧ f2 ≤ 9223372036854775807) :
    Calls Try.prog 36 #[.pointer (some ⟨g, 0, none⟩), .slice Ab l.length cb, .agg #[.int .i64 f0, .int .u64 f1, .int .i64 f2]] w (AskP g A c xs p w) := by
  obtain ⟨v, s, e, hr⟩ := rdr_total l
  have hbl : Bys l := by rw [← hl]; exact hb.drop p
  obtain ⟨i1, i2, i3, i4, i5, i6, i7, i8⟩ := rdr_in hbl hr
  obtain ⟨S, rfl⟩ : ∃ S : Nat, s = S := ⟨s.toNat, by omega⟩
  have hlen := h.len
  have hll : l.length ≤ 10000000 := by rw [← hl, List.length_drop]; omega
  have hm := nmax hbl hr
  rw [Int.toNat_natCast] at hm
  have HM := Lib.hid hm
  have HR := Lib.hid hr
  have HR0 := Lib.hid (show RdR (xs.drop p) v S e by rw [hl]; exact hr)
  have HL := Lib.hid hl
  have HC := Lib.hid (And.intro hcb hC)
  have HB := Lib.hid hb
  have HBL := Lib.hid hbl
  have H := Lib.hid h
  have H2 := Lib.hid h2
  have LL := Lib.hid hll
  have V := Lib.hid (And.intro i1 i2)
  have S0 := Lib.hid i3
  have NE := Lib.hid hne
  have fin : ∀ w1 w2 (d : Nat) (z : Int), z = d → Below w.heap.size w w1 → Rd w2 g A c xs (p + d) → Fr w1 w2 (fun i => i = g) → AskP g A c xs p w (.returned (.int .i64 z)) w2 := fun w1 w2 d z e hb hR hF => ⟨d, by rw [e], hR, (Fr.below hb _).then hF (fun _ _ q => q)⟩
  have FIN := Lib.hid fin
  clear h hb hl hC hcb h2 hr hbl hll hm i1 i2 i3 i4 i5 i6 i7 i8 hlen hne fin
  by_cases e0 : f0 = 0
  · subst e0
    generalize hV : nV f1 v e = v0
    generalize hS : nS f1 v S e = s0
    generalize hE : nE f1 v e = n0
    have Q := Lib.hid (And.intro hV (And.intro hS hE))
    clear hV hS hE
    go_enter Try.func36, Try.ntmps36
    go_wp2_with (first | ((with_reducible refine gate_dst (N := 5) rfl ?_); refine box_event rfl (N := 5) rfl (cs := #[.int .i64 0, .int .u64 f1, .int .i64 f2]) (t := 59) ?hr ?_; (case hr => first | (go_simp; done) | (go_simp; rfl)); intro g5 hg5 w1 hbox hb; have p0 := (blk_cell hbox 0).trans rfl; have p1 := (blk_cell hbox 1).trans rfl; have p2 := (blk_cell hbox 2).trans rfl; have BX := Lib.hid hb; have HBX := Lib.hid hbox; have R := Lib.hid (H.out.below hb); have C1 := Lib.hid (Kd.C_below HC.out.2 hb); have N5 := Lib.hid (show g5 ≠ g by rw [hg5]; exact Nat.ne_of_gt (blk_lt H.out.own)); clear hb hbox hg5) | (go_at_call 48; refine (rnm_any Ab cb l _ C1.out HC.out.1 HBL.out (by have := LL.out; omega) HR.out f1).mono ?_; rintro en w2 ⟨rfl, n, rfl⟩; rw [Q.out.1, Q.out.2.1, Q.out.2.2]; have R := Lib.hid (R.out.drewN n); have BX := Lib.hid (below_alike BX.out n)) | (go_at_call 16; refine (reads_yes _ R.out HB.out f1 HR0.out v0 n0 _ Q.out.1 Q.out.2.2 rfl).mono ?_; rintro en w4 ⟨rfl, h1, h2⟩; have O := Lib.hid (And.intro h1 h2); clear h1 h2))
    go_ret
    exact FIN.out _ _ s0 _ rfl BX.out (by have := O.out.1; rw [Q.out.2.1] at this; exact this) O.out.2
  · have d0 : (f0 == 0) = false := beq_eq_false_iff_ne.2 e0
    by_cases e1 : f0 = 1
    · subst e1
      clear d0
      go_enter Try.func36, Try.ntmps36
      go_wp2_with (first | ((with_reducible refine gate_dst (N := 5) rfl ?_); refine box_event rfl (N := 5) rfl (cs := #[.int .i64 1, .int .u64 f1, .int .i64 f2]) (t := 59) ?hr ?_; (case hr => first | (go_simp; done) | (go_simp; rfl)); intro g5 hg5 w1 hbox hb; have p0 := (blk_cell hbox 0).trans rfl; have p1 := (blk_cell hbox 1).trans rfl; have p2 := (blk_cell hbox 2).trans rfl; have BX := Lib.hid hb; have HBX := Lib.hid hbox; have R := Lib.hid (H.out.below hb); have C1 := Lib.hid (Kd.C_below HC.out.2 hb); have N5 := Lib.hid (show g5 ≠ g by rw [hg5]; exact Nat.ne_of_gt (blk_lt H.out.own)); clear hb hbox hg5) | (go_at_call 48; refine (rnm_any Ab cb l _ C1.out HC.out.1 HBL.out (by have := LL.out; omega) HR.out 18446744073709551615).mono ?_; rintro en w2 ⟨rfl, n, rfl⟩; rw [HM.out.1, HM.out.2.1, HM.out.2.2]; have R := Lib.hid (R.out.drewN n); have BX := Lib.hid (below_alike BX.out n)) | (go_at_call 13; refine (qu_be (rzag_any v _ V.out.1 V.out.2)).mono ?_; rintro en w3 ⟨rfl, hb⟩; have R := Lib.hid (R.out.below hb); have BX := Lib.hid (below_step BX.out hb); clear hb) | (go_at_call 18; refine (signed_yes _ R.out HB.out HR0.out (zag v) e _ rfl rfl rfl).mono ?_; rintro en w4 ⟨rfl, h1, h2⟩; have O := Lib.hid (And.intro h1 h2); clear h1 h2))
      go_ret
      exact FIN.out _ _ S _ rfl BX.out O.out.1 O.out.2
    · have d1 : (f0 == 1) = false := beq_eq_false_iff_ne.2 e1
      by_cases e2 : f0 = 2
      · subst e2
        clear d0 d1
        generalize hE : hE f2 v S e l.length = n0
        generalize hS : hS v S n0 = s0
        generalize hY : strOfNums (hY l v S n0) = z0
        have Q := Lib.hid (And.intro hE (And.intro hS hY))
        clear hE hS hY
        go_enter Try.func36, Try.ntmps36
        go_wp2_with (first | ((with_reducible refine gate_dst (N := 5) rfl ?_); refine box_event rfl (N := 5) rfl (cs := #[.int .i64 2, .int .u64 f1, .int .i64 f2]) (t := 59) ?hr ?_; (case hr => first | (go_simp; done) | (go_simp; rfl)); intro g5 hg5 w1 hbox hb; have p0 := (blk_cell hbox 0).trans rfl; have p1 := (blk_cell hbox 1).trans rfl; have p2 := (blk_cell hbox 2).trans rfl; have BX := Lib.hid hb; have HBX := Lib.hid hbox; have R := Lib.hid (H.out.below hb); have C1 := Lib.hid (Kd.C_below HC.out.2 hb); have N5 := Lib.hid (show g5 ≠ g by rw [hg5]; exact Nat.ne_of_gt (blk_lt H.out.own)); clear hb hbox hg5) | (go_at_call 49; refine (rstr_any Ab cb l _ C1.out HC.out.1 HBL.out LL.out HR.out f2 H2.out.2).mono ?_; rintro en w2 ⟨rfl, n, rfl⟩; rw [Q.out.1, Q.out.2.1, Q.out.2.2]; have R := Lib.hid (R.out.drewN n); have BX := Lib.hid (below_alike BX.out n)) | (go_at_call 30; refine (hears_yes HL.out _ R.out HB.out f2 H2.out.2 HR.out z0 n0 _ Q.out.2.2 Q.out.1 rfl).mono ?_; rintro en w4 ⟨rfl, h1, h2⟩; have O := Lib.hid (And.intro h1 h2); clear h1 h2))
        go_ret
        exact FIN.out _ _ s0 _ rfl BX.out (by have := O.out.1; rw [Q.out.2.1] at this; exact this) O.out.2
      · have d2 : (f0 == 2) = false := beq_eq_false_iff_ne.2 e2
        by_cases hn : f2 < 0
        · have hd : decide (f2 < 0) = true := decide_eq_true hn
          have q1 : tY f2 l = [] := if_neg (by omega)
          have q2 : tE f2 l = 2 := if_pos hn
          have Q := Lib.hid (And.intro q1 q2)
          clear q1 q2 hn
          go_enter Try.func36, Try.ntmps36
          go_wp2_with (first | ((with_reducible refine gate_dst (N := 5) rfl ?_); refine box_event rfl (N := 5) rfl (cs := #[.int .i64 f0, .int .u64 f1, .int .i64 f2]) (t := 59) ?hr ?_; (case hr => first | (go_simp; done) | (go_simp; rfl)); intro g5 hg5 w1 hbox hb; have p0 := (blk_cell hbox 0).trans rfl; have p1 := (blk_cell hbox 1).trans rfl; have p2 := (blk_cell hbox 2).trans rfl; have BX := Lib.hid hb; have HBX := Lib.hid hbox; have R := Lib.hid (H.out.below hb); have C1 := Lib.hid (Kd.C_below HC.out.2 hb); have N5 := Lib.hid (show g5 ≠ g by rw [hg5]; exact Nat.ne_of_gt (blk_lt H.out.own)); clear hb hbox hg5) | (go_at_call 31; refine (takes_yes HL.out _ R.out f2 _ 2 p (by rw [Q.out.1]; exact s7) Q.out.2 (by rw [Q.out.1]; rfl)).mono ?_; rintro en w4 ⟨rfl, h1, h2⟩; have O := Lib.hid (And.intro h1 h2); clear h1 h2))
          go_ret
          exact FIN.out _ _ 0 _ rfl BX.out O.out.1 O.out.2
        · have hd : decide (f2 < 0) = false := decide_eq_false hn
          by_cases hg : (l.length : Int) < f2
          · have hd2 : decide ((l.length : Int) < f2) = true := decide_eq_true hg
            have q1 : tY f2 l = [] := if_neg (by omega)
            have q2 : tE f2 l = 4 := by unfold tE; rw [if_neg hn, if_pos hg]
            have Q := Lib.hid (And.intro q1 q2)
            have lx : l.length ≤ 9223372036854775807 := by have := LL.out; omega
            clear q1 q2 hn hg
            go_enter Try.func36, Try.ntmps36
            go_wp2_with (first | ((with_reducible refine gate_dst (N := 5) rfl ?_); refine box_event rfl (N := 5) rfl (cs := #[.int .i64 f0, .int .u64 f1, .int .i64 f2]) (t := 59) ?hr ?_; (case hr => first | (go_simp; done) | (go_simp; rfl)); intro g5 hg5 w1 hbox hb; have p0 := (blk_cell hbox 0).trans rfl; have p1 := (blk_cell hbox 1).trans rfl; have p2 := (blk_cell hbox 2).trans rfl; have BX := Lib.hid hb; have HBX := Lib.hid hbox; have R := Lib.hid (H.out.below hb); have C1 := Lib.hid (Kd.C_below HC.out.2 hb); have N5 := Lib.hid (show g5 ≠ g by rw [hg5]; exact Nat.ne_of_gt (blk_lt H.out.own)); clear hb hbox hg5) | (go_at_call 31; refine (takes_yes HL.out _ R.out f2 _ 4 p (by rw [Q.out.1]; exact s7) Q.out.2 (by rw [Q.out.1]; rfl)).mono ?_; rintro en w4 ⟨rfl, h1, h2⟩; have O := Lib.hid (And.intro h1 h2); clear h1 h2))
            go_ret
            exact FIN.out _ _ 0 _ rfl BX.out O.out.1 O.out.2
          · obtain ⟨m, rfl⟩ : ∃ m : Nat, f2 = m := ⟨f2.toNat, by omega⟩
            have hml : m ≤ l.length := by omega
            have q1 : tY (m : Int) l = l.take m := by unfold tY; rw [if_pos (by omega), Int.toNat_natCast]
            have q2 : tE (m : Int) l = 0 := by unfold tE; rw [if_neg hn, if_neg hg]
            have q3 : (l.take m).length = m := by rw [List.length_take]; omega
            have hd2 : decide (l.length < m) = false := decide_eq_false (by omega)
            have lx : l.length ≤ 9223372036854775807 := by have := LL.out; omega
            obtain ⟨k1, k2, _⟩ := take8 Ab cb l m hml HC.out.1
            rw [q3] at k1 k2
            have Q := Lib.hid (And.intro q1 (And.intro q2 q3))
            have K2 := Lib.hid k2
            clear q1 q2 hn hg q3 k2 hd
            go_enter Try.func36, Try.ntmps36
            go_upto_region 2 with (first | ((with_reducible refine gate_dst (N := 5) rfl ?_); refine box_event rfl (N := 5) rfl (cs := #[.int .i64 f0, .int .u64 f1, .int .i64 (m : Int)]) (t := 59) ?hr ?_; (case hr => first | (go_simp; done) | (go_simp; rfl)); intro g5 hg5 w1 hbox hb; have p0 := (blk_cell hbox 0).trans rfl; have p1 := (blk_cell hbox 1).trans rfl; have p2 := (blk_cell hbox 2).trans rfl; have BX := Lib.hid hb; have HBX := Lib.hid hbox; have R := Lib.hid (H.out.below hb); have C1 := Lib.hid (Kd.C_below HC.out.2 hb); have N5 := Lib.hid (show g5 ≠ g by rw [hg5]; exact Nat.ne_of_gt (blk_lt H.out.own)); clear hb hbox hg5))
            have hd0 := below_drew (Below.refl w1.heap.size w1)
            have R0 := Lib.hid (R.out.below hd0)
            have C0 := Lib.hid (Kd.C_below C1.out hd0)
            have hbx0 := blk_below HBX.out hd0
            have HB0 := Lib.hid hbx0
            have p20 := (blk_cell hbx0 2).trans rfl
            have cv0 := conv8n (c := cb) (K2.out _ C0.out)
            go_region_held3 (fun w' => w'.cell? ⟨g5, 2, none⟩ = some (.int .i64 (m : Int)) ∧ (convert 23 9 (.slice Ab m cb)).run Try.prog w' = .ok (.string (strOfNums (l.take m))) w') (refine ⟨?_, ?_⟩ <;> assumption) (first | (go_at_call 31; (refine (takes_yes HL.out _ R0.out (m : Int) _ 0 (p + m) (by rw [Q.out.1]) Q.out.2.1 (by rw [Q.out.1, Q.out.2.2])).mono ?_); rintro en w4 ⟨rfl, h1, hF⟩; have hb3 := hF.blk HB0.out N5.out; have p3 := (blk_cell hb3 2).trans rfl; have cv3 := conv8n (c := cb) (K2.out _ (hF.list C0.out NE.out)); have O := Lib.hid (And.intro h1 hF); clear h1 hF hb3))
            go_wp2
            go_ret
            exact FIN.out _ _ m _ rfl (below_step BX.out hd0) O.out.1 O.out.2
end
end Go.Proofs.Ytfcpofkhcfilmaa.Vn
