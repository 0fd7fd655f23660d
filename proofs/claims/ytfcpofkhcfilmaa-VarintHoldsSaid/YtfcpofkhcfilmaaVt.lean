/- Parts of layer 1's laws: small, write, bytes. -/
import Derived.Test.YtfcpofkhcfilmaaVl
namespace Go.Proofs.Ytfcpofkhcfilmaa.Vn
open Go.RowKit Go.Proofs Go.Proofs.YtfcpofkhcfilmaaW.PrintWords Go.Proofs.Ytfcpofkhcfilmaa.Kit Go.Proofs.Ytfcpofkhcfilmaa.PVarintWrites
set_option linter.unusedSimpArgs false
set_option linter.unusedVariables false

def Small (xs : List S48) : Prop := xs.length ≤ 40 ∧ ∀ j, j < xs.length → (xs.getD j z48).f3.length ≤ 300
theorem small_l0 (xs : List S48) (hl : xs.length ≤ 9223372036854775807) : ∀ (m i : Nat), m + i = 41 → (∀ j, j < i → j < xs.length → (xs.getD j z48).f3.length ≤ 300) →
    ∃ r, redpencillaw01_small.l0 (2 * m + 2) xs (i : Int) = some r ∧ (r = true → Small xs)
  | m, i, hi, hall => by
    rw [show 2 * m + 2 = (2 * m + 1) + 1 by omega]
    unfold redpencillaw01_small.l0
    by_cases h1 : i < xs.length
    · rw [if_pos (by omega)]
      unfold redpencillaw01_small.j1
      cases m with
      | zero =>
        have h41 : decide ((i : Int) < 41) = false := decide_eq_false (by omega)
        rw [h41, if_neg (by simp)]
        exact ⟨_, rfl, fun h => by have := of_decide_eq_true h; omega⟩
      | succ m =>
        have h41 : decide ((i : Int) < 41) = true := decide_eq_true (by omega)
        have hrd : rd_T48 xs (i : Int) = xs.getD i z48 := by unfold rd_T48; rw [Int.toNat_natCast]
        have hi1 : wrap64 ((i : Int) + 1) = ((i + 1 : Nat) : Int) := by simp only [wrap64]; omega
        rw [h41, if_pos rfl, if_pos (by omega), if_pos (by omega), hrd, hi1]
        by_cases h3 : (xs.getD i z48).f3.length ≤ 300
        · rw [if_neg (by omega), show 2 * (m + 1) = 2 * m + 2 by omega]
          refine small_l0 xs hl m (i + 1) (by omega) (fun j hj hj2 => ?_)
          rcases Nat.lt_or_ge j i with q | q
          · exact hall j q hj2
          · obtain rfl : j = i := by omega
            exact h3
        · rw [if_pos (by omega)]
          exact ⟨false, rfl, fun h => by cases h⟩
    · rw [if_neg (by omega)]
      unfold redpencillaw01_small.j1
      rw [if_neg (by simp)]
      exact ⟨_, rfl, fun h => ⟨by have := of_decide_eq_true h; omega, fun j hj => hall j (by omega) hj⟩⟩
def SmallP (xs : List S48) (w : World) (en : Ending) (w' : World) : Prop := ∃ r, en = .returned (.bool r) ∧ (r = true → Small xs) ∧ Below w.heap.size w w'
theorem small_any (A : Option Addr) (c : Nat) (xs : List S48) (w : World) (hx : k48.C w A xs.length xs) (hc : xs.length ≤ c) : Calls Try.prog 25 #[.slice A xs.length c] w (SmallP xs w) := by
  obtain ⟨r, h1, h2⟩ := small_l0 xs hx.2.1 41 0 rfl (fun j hj => by omega)
  refine (redpencillaw01_small.calls 84 A c xs r w hx hc h1).mono ?_
  rintro en w' ⟨rfl, hd⟩
  obtain ⟨n, rfl⟩ := hd.out
  exact ⟨r, rfl, h2, pw_below_drewN (Below.refl _ _) n⟩

/-- A part of the argument: within bounds. -/
structure PartOk (x : S48) : Prop where
  n0 : 0 ≤ x.f1
  n1 : x.f1 ≤ 18446744073709551615
  s0 : -9223372036854775808 ≤ x.f2
  s1 : x.f2 ≤ 9223372036854775807
  bys : Bys x.f3
  len : x.f3.length ≤ 300
/-- The bytes of a part, whose data are ys. -/
def pbd (f0 f1 f2 : Int) (ys : List Int) : List Int := if f0 = 0 then enc f1.toNat else if f0 = 1 then enc (zig f2).toNat else if f0 = 2 then enc ys.length ++ ys else ys
def pbs (x : S48) : List Int := pbd x.f0 x.f1 x.f2 x.f3
theorem pbs_length {x : S48} (h : PartOk x) : (pbs x).length ≤ 310 := by
  have hz := zig_in h.s0 h.s1
  have h1 := enc_length64 (n := x.f1.toNat) (by have := h.n0; have := h.n1; omega)
  have h2 := enc_length64 (n := (zig x.f2).toNat) (by omega)
  have h3 := enc_length64 (n := x.f3.length) (by have := h.len; omega)
  have := h.len
  unfold pbs pbd
  split
  · omega
  · split
    · omega
    · split
      · rw [List.length_append]; omega
      · omega
theorem pbs_bys {x : S48} (h : PartOk x) : Bys (pbs x) := by
  unfold pbs pbd
  split
  · exact enc_bys _
  · split
    · exact enc_bys _
    · split
      · exact (enc_bys _).app h.bys
      · exact h.bys
set_option maxHeartbeats 4000000 in
theorem write_any (w0 w : World) (g : Nat) (v : Value) (xs : List Int) (f0 f1 f2 : Int) (D : Value) (ys : List Int) (A : Option Addr) (c : Nat) (h : Wr w0 w g v xs) (hy : k8.C w A ys.length ys) (ho : Off A ys.length g v)
    (h1 : 0 ≤ f1 ∧ f1 ≤ 18446744073709551615) (h2 : -9223372036854775808 ≤ f2 ∧ f2 ≤ 9223372036854775807) (hl : xs.length + ys.length ≤ 10000000) :
    Calls Try.prog 26 #[.pointer (some ⟨g, 0, none⟩), .agg #[.int .i64 f0, .int .u64 f1, .int .i64 f2, D], .slice A ys.length c] w (WrP w0 w g v (xs ++ pbd f0 f1 f2 ys)) := by
  have H := Lib.hid h
  have HY := Lib.hid hy
  have HO := Lib.hid ho
  have H1 := Lib.hid h1
  have H2 := Lib.hid h2
  have L1 := Lib.hid (show xs.length ≤ 10000000 by omega)
  have L2 := Lib.hid hl
  clear h hy ho h1 h2 hl
  have fin : ∀ w1 w2 v2 zs, Below w.heap.size w w1 → Wr w0 w2 g v2 (xs ++ zs) → WrS w1 w2 g v v2 → zs = pbd f0 f1 f2 ys → WrP w0 w g v (xs ++ pbd f0 f1 f2 ys) (.returned (.tuple #[])) w2 := fun w1 w2 v2 zs hb hW hS e => ⟨rfl, v2, e ▸ hW, (wr_of_below hb).then hS⟩
  have FIN := Lib.hid fin
  clear fin
  by_cases e0 : f0 = 0
  · subst e0
    have E := Lib.hid (show enc f1.toNat = pbd 0 f1 f2 ys by unfold pbd; rw [if_pos rfl])
    go_enter Try.func26, Try.ntmps26
    go_wp2_with (first | ((with_reducible refine gate_dst (N := 4) rfl ?_); refine box_event rfl (N := 4) rfl (cs := #[.int .i64 0, .int .u64 f1, .int .i64 f2, D]) (t := 48) ?hr ?_; (case hr => first | (go_simp; done) | (go_simp; rfl)); intro g4 hg4 w1 hbox hb; have q0 := (blk_cell hbox 0).trans rfl; have q1 := (blk_cell hbox 1).trans rfl; have q2 := (blk_cell hbox 2).trans rfl; have q3 := (blk_cell hbox 3).trans rfl; have HW := Lib.hid (H.out.below hb); have BX := Lib.hid hb; clear hb hbox hg4) | (go_at_call 21; refine (wnum_one w0 _ g v xs f1 HW.out H1.out (by have := L1.out; omega)).mono ?_; rintro en w2 ⟨rfl, v2, hW2, hS2⟩; have HW2 := Lib.hid hW2; have HS := Lib.hid hS2; clear hW2 hS2))
    go_end0
    exact FIN.out _ _ _ _ BX.out HW2.out HS.out E.out
  · have d0 : (f0 == 0) = false := beq_eq_false_iff_ne.2 e0
    by_cases e1 : f0 = 1
    · subst e1
      have E := Lib.hid (show enc (zig f2).toNat = pbd 1 f1 f2 ys by unfold pbd; rw [if_neg (by decide), if_pos rfl])
      clear d0
      go_enter Try.func26, Try.ntmps26
      go_wp2_with (first | ((with_reducible refine gate_dst (N := 4) rfl ?_); refine box_event rfl (N := 4) rfl (cs := #[.int .i64 1, .int .u64 f1, .int .i64 f2, D]) (t := 48) ?hr ?_; (case hr => first | (go_simp; done) | (go_simp; rfl)); intro g4 hg4 w1 hbox hb; have q0 := (blk_cell hbox 0).trans rfl; have q1 := (blk_cell hbox 1).trans rfl; have q2 := (blk_cell hbox 2).trans rfl; have q3 := (blk_cell hbox 3).trans rfl; have HW := Lib.hid (H.out.below hb); have BX := Lib.hid hb; clear hb hbox hg4) | (go_at_call 22; refine (wint_one w0 _ g v xs f2 3 HW.out H2.out L1.out).mono ?_; rintro en w2 ⟨rfl, v2, hW2, hS2⟩; have HW2 := Lib.hid hW2; have HS := Lib.hid hS2; clear hW2 hS2))
      go_end0
      exact FIN.out _ _ _ _ BX.out HW2.out HS.out E.out
    · have d1 : (f0 == 1) = false := beq_eq_false_iff_ne.2 e1
      by_cases e2 : f0 = 2
      · subst e2
        have E := Lib.hid (show enc ys.length ++ ys = pbd 2 f1 f2 ys by unfold pbd; rw [if_neg (by decide), if_neg (by decide), if_pos rfl])
        clear d0 d1
        go_enter Try.func26, Try.ntmps26
        go_wp2_with (first | ((with_reducible refine gate_dst (N := 4) rfl ?_); refine box_event rfl (N := 4) rfl (cs := #[.int .i64 2, .int .u64 f1, .int .i64 f2, D]) (t := 48) ?hr ?_; (case hr => first | (go_simp; done) | (go_simp; rfl)); intro g4 hg4 w1 hbox hb; have q0 := (blk_cell hbox 0).trans rfl; have q1 := (blk_cell hbox 1).trans rfl; have q2 := (blk_cell hbox 2).trans rfl; have q3 := (blk_cell hbox 3).trans rfl; have HW := Lib.hid (H.out.below hb); have BX := Lib.hid hb; clear hb hbox hg4) | (go_at_call 37; refine (put_any w0 _ g v xs ys A c HW.out (Kd.C_below HY.out BX.out) HO.out L2.out).mono ?_; rintro en w2 ⟨rfl, v2, hW2, hS2⟩; have HW2 := Lib.hid hW2; have HS := Lib.hid hS2; clear hW2 hS2))
        go_end0
        exact FIN.out _ _ _ _ BX.out HW2.out HS.out E.out
      · have d2 : (f0 == 2) = false := beq_eq_false_iff_ne.2 e2
        have E := Lib.hid (show ys = pbd f0 f1 f2 ys by unfold pbd; rw [if_neg e0, if_neg e1, if_neg e2])
        go_enter Try.func26, Try.ntmps26
        go_wp2_with (first | ((with_reducible refine gate_dst (N := 4) rfl ?_); refine box_event rfl (N := 4) rfl (cs := #[.int .i64 f0, .int .u64 f1, .int .i64 f2, D]) (t := 48) ?hr ?_; (case hr => first | (go_simp; done) | (go_simp; rfl)); intro g4 hg4 w1 hbox hb; have q0 := (blk_cell hbox 0).trans rfl; have q1 := (blk_cell hbox 1).trans rfl; have q2 := (blk_cell hbox 2).trans rfl; have q3 := (blk_cell hbox 3).trans rfl; have HW := Lib.hid (H.out.below hb); have BX := Lib.hid hb; clear hb hbox hg4) | (go_at_call 38; refine (raw_any w0 _ g v xs ys A c HW.out (Kd.C_below HY.out BX.out) (by have := L2.out; omega)).mono ?_; rintro en w2 ⟨rfl, v2, hW2, hS2⟩; have HW2 := Lib.hid hW2; have HS := Lib.hid hS2; clear hW2 hS2))
        go_end0
        exact FIN.out _ _ _ _ BX.out HW2.out HS.out E.out
/-- A list of bytes that is read, and nothing of the caller's was written. -/
def BytesP (zs : List Int) (w : World) (en : Ending) (w' : World) : Prop := ∃ A c, en = .returned (.slice A zs.length c) ∧ k8.C w' A zs.length zs ∧ Below w.heap.size w w'
theorem bytes_of {zs : List Int} {w w1 w2 : World} {en : Ending} (hb : Below w.heap.size w w1) (h : MadeP zs w1 en w2) : BytesP zs w en w2 := by
  obtain ⟨v, rfl, hr, hb2⟩ := h
  obtain ⟨A, c, rfl, _, hC⟩ := Kd.R_reads hr
  exact ⟨A, c, rfl, hC, below_step hb hb2⟩
set_option maxHeartbeats 4000000 in
theorem lbytes_any (w : World) (f0 f1 f2 : Int) (ys : List Int) (A : Option Addr) (c : Nat) (hy : k8.C w A ys.length ys) (hc : ys.length ≤ c)
    (h1 : 0 ≤ f1 ∧ f1 ≤ 18446744073709551615) (h2 : -9223372036854775808 ≤ f2 ∧ f2 ≤ 9223372036854775807) (hl : ys.length ≤ 10000000) :
    Calls Try.prog 27 #[.agg #[.int .i64 f0, .int .u64 f1, .int .i64 f2, .slice A ys.length c]] w (BytesP (pbd f0 f1 f2 ys) w) := by
  have HY := Lib.hid hy
  have HC := Lib.hid hc
  have L2 := Lib.hid hl
  have hz := zig_in h2.1 h2.2
  have hn1 : ((f1.toNat : Nat) : Int) = f1 := by omega
  have hn2 : (((zig f2).toNat : Nat) : Int) = zig f2 := by omega
  have RN1 := Lib.hid (fun w => rnumber_any f1.toNat (by omega) w)
  have RN2 := Lib.hid (fun w => rnumber_any (zig f2).toNat (by omega) w)
  rw [hn1] at RN1
  rw [hn2] at RN2
  have RZ := Lib.hid (fun w => qu_be (rzig_any f2 w h2.1 h2.2))
  clear hy hc hl h1 h2 hz hn1 hn2
  by_cases e0 : f0 = 0
  · subst e0
    have E := Lib.hid (show pbd 0 f1 f2 ys = enc f1.toNat by unfold pbd; rw [if_pos rfl])
    go_enter Try.func27, Try.ntmps27
    go_wp2_with (first | ((with_reducible refine gate_dst (N := 1) rfl ?_); refine box_event rfl (N := 1) rfl (cs := #[.int .i64 0, .int .u64 f1, .int .i64 f2, .slice A ys.length c]) (t := 48) ?hr ?_; (case hr => first | (go_simp; done) | (go_simp; rfl)); intro g4 hg4 w1 hbox hb; have q0 := (blk_cell hbox 0).trans rfl; have q1 := (blk_cell hbox 1).trans rfl; have q2 := (blk_cell hbox 2).trans rfl; have q3 := (blk_cell hbox 3).trans rfl; have BX := Lib.hid hb; clear hb hbox hg4) | (go_at_call 9; refine (RN1.out _).mono ?_; rintro en w2 hm; obtain ⟨A2, c2, rfl, hC, hb⟩ := bytes_of BX.out hm; have O := Lib.hid (And.intro hC hb); clear hm hC hb))
    go_ret
    exact ⟨A2, c2, by rw [E.out]; rfl, by rw [E.out]; exact O.out.1, O.out.2⟩
  · have d0 : (f0 == 0) = false := beq_eq_false_iff_ne.2 e0
    by_cases e1 : f0 = 1
    · subst e1
      have E := Lib.hid (show pbd 1 f1 f2 ys = enc (zig f2).toNat by unfold pbd; rw [if_neg (by decide), if_pos rfl])
      clear d0
      go_enter Try.func27, Try.ntmps27
      go_wp2_with (first | ((with_reducible refine gate_dst (N := 1) rfl ?_); refine box_event rfl (N := 1) rfl (cs := #[.int .i64 1, .int .u64 f1, .int .i64 f2, .slice A ys.length c]) (t := 48) ?hr ?_; (case hr => first | (go_simp; done) | (go_simp; rfl)); intro g4 hg4 w1 hbox hb; have q0 := (blk_cell hbox 0).trans rfl; have q1 := (blk_cell hbox 1).trans rfl; have q2 := (blk_cell hbox 2).trans rfl; have q3 := (blk_cell hbox 3).trans rfl; have BX := Lib.hid hb; clear hb hbox hg4) | (go_at_call 23; refine (RZ.out _).mono ?_; rintro en w2 ⟨rfl, hb⟩; have BX := Lib.hid (below_step BX.out hb); clear hb) | (go_at_call 9; refine (RN2.out _).mono ?_; rintro en w2 hm; obtain ⟨A2, c2, rfl, hC, hb⟩ := bytes_of BX.out hm; have O := Lib.hid (And.intro hC hb); clear hm hC hb))
      go_ret
      exact ⟨A2, c2, by rw [E.out]; rfl, by rw [E.out]; exact O.out.1, O.out.2⟩
    · have d1 : (f0 == 1) = false := beq_eq_false_iff_ne.2 e1
      by_cases e2 : f0 = 2
      · subst e2
        have E := Lib.hid (show pbd 2 f1 f2 ys = enc ys.length ++ ys by unfold pbd; rw [if_neg (by decide), if_neg (by decide), if_pos rfl])
        clear d0 d1
        go_enter Try.func27, Try.ntmps27
        go_wp2_with (first | ((with_reducible refine gate_dst (N := 1) rfl ?_); refine box_event rfl (N := 1) rfl (cs := #[.int .i64 2, .int .u64 f1, .int .i64 f2, .slice A ys.length c]) (t := 48) ?hr ?_; (case hr => first | (go_simp; done) | (go_simp; rfl)); intro g4 hg4 w1 hbox hb; have q0 := (blk_cell hbox 0).trans rfl; have q1 := (blk_cell hbox 1).trans rfl; have q2 := (blk_cell hbox 2).trans rfl; have q3 := (blk_cell hbox 3).trans rfl; have BX := Lib.hid hb; clear hb hbox hg4) | (go_at_call 44; refine (rwith_any A c ys _ (Kd.C_below HY.out BX.out) HC.out (by have := L2.out; omega)).mono ?_; rintro en w2 hm; obtain ⟨A2, c2, rfl, hC, hb⟩ := bytes_of BX.out hm; have O := Lib.hid (And.intro hC hb); clear hm hC hb))
        go_ret
        exact ⟨A2, c2, by rw [E.out, List.length_append]; rfl, by rw [E.out]; exact O.out.1, O.out.2⟩
      · have d2 : (f0 == 2) = false := beq_eq_false_iff_ne.2 e2
        have E := Lib.hid (show pbd f0 f1 f2 ys = ys by unfold pbd; rw [if_neg e0, if_neg e1, if_neg e2])
        go_enter Try.func27, Try.ntmps27
        go_wp2_with (first | ((with_reducible refine gate_dst (N := 1) rfl ?_); refine box_event rfl (N := 1) rfl (cs := #[.int .i64 f0, .int .u64 f1, .int .i64 f2, .slice A ys.length c]) (t := 48) ?hr ?_; (case hr => first | (go_simp; done) | (go_simp; rfl)); intro g4 hg4 w1 hbox hb; have q0 := (blk_cell hbox 0).trans rfl; have q1 := (blk_cell hbox 1).trans rfl; have q2 := (blk_cell hbox 2).trans rfl; have q3 := (blk_cell hbox 3).trans rfl; have BX := Lib.hid hb; clear hb hbox hg4))
        go_ret
        exact ⟨A, c, by rw [E.out]; rfl, by rw [E.out]; exact Kd.C_below HY.out BX.out, BX.out⟩
end Go.Proofs.Ytfcpofkhcfilmaa.Vn
