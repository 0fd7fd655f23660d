/- Writers of layer 1, more: contracts of Put and of the law's number. -/
import Derived.Test.YtfcpofkhcfilmaaVx
import Derived.IntWalk
namespace Go.Proofs.Ytfcpofkhcfilmaa.Vn
open Go.RowKit Go.Proofs Go.Proofs.YtfcpofkhcfilmaaW.PrintWords Go.Proofs.Ytfcpofkhcfilmaa.Kit
set_option linter.unusedSimpArgs false
set_option linter.unusedVariables false

set_option maxHeartbeats 1000000 in
theorem put_any (w0 w : World) (g : Nat) (v : Value) (xs ys : List Int) (A : Option Addr) (c : Nat) (h : Wr w0 w g v xs) (hy : k8.C w A ys.length ys) (ho : Off A ys.length g v) (hl : xs.length + ys.length ≤ 10000000) :
    Calls Try.prog 37 #[.pointer (some ⟨g, 0, none⟩), .slice A ys.length c] w (WrP w0 w g v (xs ++ (enc ys.length ++ ys))) := by
  have H := Lib.hid h
  have HY := Lib.hid hy
  have HO := Lib.hid ho
  have h10 := enc_length64 (n := ys.length) (by omega)
  have B1 := Lib.hid (show 0 ≤ (ys.length : Int) ∧ (ys.length : Int) ≤ 18446744073709551615 by omega)
  have B2 := Lib.hid (show xs.length ≤ 100000000 by omega)
  have B3 := Lib.hid (show (xs ++ enc ys.length).length + ys.length ≤ 1000000000 by rw [List.length_append]; omega)
  have hwr : IntKind.u64.wrap (ys.length : Int) = ys.length := by rw [wrapu]; omega
  clear h hy ho hl h10
  go_enter Try.func37, Try.ntmps37
  go_wp2_with (first | (go_at_call 21; refine (wnum_one w0 _ g v xs (ys.length : Int) H.out B1.out B2.out).mono ?_; rintro en w2 ⟨rfl, v2, hW2, hS2⟩; rw [Int.toNat_natCast] at hW2; have HW := Lib.hid hW2; have HY := Lib.hid (HO.out.list hS2 HY.out); have HS := Lib.hid hS2; clear hW2 hS2) | (go_at_call 38; refine (raw_any w0 _ g v2 (xs ++ enc ys.length) ys A c HW.out HY.out B3.out).mono ?_; rintro en w3 ⟨rfl, v3, hW3, hS3⟩; have HW := Lib.hid hW3; have HS := Lib.hid (HS.out.then hS3); clear hW3 hS3))
  go_end0
  exact ⟨rfl, v3, by rw [← List.append_assoc]; exact HW.out, HS.out⟩

/-- A new writer, in a box. -/
theorem wr_box {w0 w w1 : World} {g : Nat} (h0 : Below w0.heap.size w0 w) (hg : g = w.heap.size) (hbox : w1.heap[g]? = some (.cells #[.slice none 0 0] 40 (0, 0))) (hb : Below w.heap.size w w1) : Wr w0 w1 g (.slice none 0 0) [] :=
  ⟨hbox, Kd.R_nil _ _ _ _ _, below_step h0 hb, by rw [hg]; exact h0.size⟩
/-- A new writer. -/
theorem wr_new {w w1 : World} (hb : Below w.heap.size w w1) : Wr w (w1.alloc (.cells #[.slice none 0 0] 40)) w1.heap.size (.slice none 0 0) [] :=
  ⟨blk_new w1 _, Kd.R_nil _ _ _ _ _, below_alloc hb _, hb.size⟩
def StrP (xs : List Int) (w : World) (en : Ending) (w' : World) : Prop := en = .returned (.string (strOfNums xs)) ∧ Below w.heap.size w w'
theorem conv8 {w : World} {A : Option Addr} {c : Nat} {xs : List Int} (h : k8.C w A xs.length xs) : (convert 23 9 (.slice A xs.length c)).run Try.prog w = .ok (.string (strOfNums xs)) w :=
  Kd.C_string Try.underlying23 Try.underlying5 Try.underlying9 h
set_option maxHeartbeats 1000000 in
theorem lnumber_any (n : Int) (hn : 0 ≤ n ∧ n ≤ 18446744073709551615) (w : World) : Calls Try.prog 10 #[.int .u64 n] w (StrP (enc n.toNat) w) := by
  have h10 := enc_length64 (n := n.toNat) (by omega)
  have H8 := Lib.hid (show (enc n.toNat).length ≤ 100000000 by omega)
  have HN := Lib.hid hn
  clear hn h10
  go_enter Try.func10, Try.ntmps10
  go_wp2_with (first | ((with_reducible refine gate_dst (N := 3) rfl ?_); refine box_event rfl (N := 3) rfl (cs := #[.slice none 0 0]) (t := 40) ?hr ?_; (case hr => first | (go_simp; done) | (go_simp; rfl)); intro g hg w1 hbox hb; have HW := Lib.hid (wr_box (Below.refl w.heap.size w) hg hbox hb); clear hb hbox hg) | (go_at_call 21; refine (wnum_one w _ _ _ _ n HW.out HN.out (by simp)).mono ?_; rintro en w2 ⟨rfl, v2, hW2, hS2⟩; rw [List.nil_append] at hW2; have HW := Lib.hid hW2; clear hW2 hS2) | (go_at_call 24; refine (bytes_any w _ _ v2 _ HW.out H8.out).mono ?_; rintro en w3 ⟨v3, rfl, hr, hb⟩; obtain ⟨A3, c3, rfl, _, hC3⟩ := Kd.R_reads hr; have hq := conv8 (c := c3) hC3; have B := Lib.hid (below_step HW.out.bel hb); clear hr hb hC3))
  go_ret
  exact ⟨rfl, B.out⟩
end Go.Proofs.Ytfcpofkhcfilmaa.Vn
