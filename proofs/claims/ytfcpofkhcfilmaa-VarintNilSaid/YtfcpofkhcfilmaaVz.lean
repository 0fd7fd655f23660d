/- VarintNil of layer 1: nil writers, and the walk. -/
import Derived.Test.YtfcpofkhcfilmaaVl
namespace Go.Proofs.Ytfcpofkhcfilmaa.Vn
open Go.RowKit Go.Proofs Go.Proofs.YtfcpofkhcfilmaaW.PrintWords Go.Proofs.Ytfcpofkhcfilmaa.Kit
set_option linter.unusedSimpArgs false
set_option linter.unusedVariables false

theorem size_al (w : World) (o : Obj) : (w.alloc o).heap.size = w.heap.size + 1 := by show (w.heap.push o).size = _; exact Array.size_push _
/-- A nil writer: nothing is written. -/
def NoP (w : World) (en : Ending) (w' : World) : Prop := en = .returned (.tuple #[]) ∧ Below w.heap.size w w'
theorem raw_nil (q : Value) (w : World) : Calls Try.prog 38 #[.pointer none, q] w (NoP w) := by
  go_enter Try.func38, Try.ntmps38
  go_wp2
  go_end0
  exact ⟨rfl, Below.refl _ _⟩
theorem bytes_nil (w : World) : Calls Try.prog 24 #[.pointer none] w (BeP (.slice none 0 0) w) := by
  go_enter Try.func24, Try.ntmps24
  go_wp2
  go_ret
  exact ⟨rfl, Below.refl _ _⟩
theorem len_nil (w : World) : Calls Try.prog 28 #[.pointer none] w (BeP (.int .i64 0) w) := by
  go_enter Try.func28, Try.ntmps28
  go_wp2_with (go_at_call 24; refine (bytes_nil _).mono ?_; rintro en w1 ⟨rfl, hb⟩; have B := Lib.hid hb; clear hb)
  go_ret
  exact ⟨rfl, B.out⟩
set_option maxHeartbeats 2000000 in
theorem wnum_nil (w : World) (A : Option Addr) (c : Nat) (ns : List Int) (hx : (Kd.int .u64).C w A ns.length ns) (hu : U64 ns) :
    Calls Try.prog 21 #[.pointer none, .slice A ns.length c] w (NoP w) := by
  have lx : ns.length ≤ 9223372036854775807 := hx.2.1
  have HX := Lib.hid hx
  have HU := Lib.hid hu
  clear hx hu
  go_enter Try.func21, Try.ntmps21
  go_wp2
  go_loopw [8] (fun i wr => ∃ (k : Nat), k ≤ ns.length ∧ i = .int .i64 k ∧ Below w.heap.size w wr) (fun i _ => (ns.length : Int).toNat - (intOf i).toNat)
  case atStart => exact ⟨0, by omega, rfl, Below.refl _ _⟩
  case round =>
    obtain ⟨k, hk, rfl, hB⟩ := hrel
    by_cases hlt : k < ns.length
    · obtain ⟨ad, eA, q0⟩ := at_int (Kd.C_below HX.out hB) (k : Int) (by omega) (by omega)
      subst eA
      rw [Int.toNat_natCast] at q0
      have hm := HU.out _ (mem_getD hlt)
      generalize hn : ns.getD k 0 = n at *
      obtain ⟨m, rfl⟩ : ∃ m : Nat, n = m := ⟨n.toNat, by omega⟩
      have hm2 : m < 18446744073709551616 := by omega
      have KB := Lib.hid hB
      clear hB hm hn
      go_wp2_with (first | (go_at_call 39; refine (number_any m hm2 _).mono ?_; rintro en w1 ⟨v1, rfl, hr, hb⟩; have KB := Lib.hid (below_step KB.out hb); clear hr hb) | (go_at_call 38; refine (raw_nil _ _).mono ?_; rintro en w2 ⟨rfl, hb⟩; have KB := Lib.hid (below_step KB.out hb); clear hb))
      go_roundw
      case rel => exact ⟨k + 1, by omega, by go_num, KB.out⟩
      case measure => simp [intOf]; omega
    · go_wp2
      go_end0
      exact ⟨rfl, hB⟩
theorem wnum_nil1 (w : World) (n : Int) (t : TypeId) (hn : 0 ≤ n ∧ n ≤ 18446744073709551615) : Calls Try.prog 21 #[.pointer none, .slice (some ⟨w.heap.size, 0, none⟩) 1 1] (w.alloc (.cells #[.int .u64 n] t)) (NoP w) := by
  refine (wnum_nil _ _ 1 [n] (C_one .u64 t w n) (fun m hm => by obtain rfl : m = n := (by simpa using hm); exact hn)).mono ?_
  rintro en w' ⟨rfl, hb⟩
  exact ⟨rfl, below_step (below_alloc (Below.refl _ _) _) hb⟩
set_option maxHeartbeats 2000000 in
theorem wint_nil (w : World) (A : Option Addr) (c : Nat) (ns : List Int) (hx : (Kd.int .i64).C w A ns.length ns) (hu : ∀ n ∈ ns, -9223372036854775808 ≤ n ∧ n ≤ 9223372036854775807) :
    Calls Try.prog 22 #[.pointer none, .slice A ns.length c] w (NoP w) := by
  have lx : ns.length ≤ 9223372036854775807 := hx.2.1
  have HX := Lib.hid hx
  have HU := Lib.hid hu
  clear hx hu
  go_enter Try.func22, Try.ntmps22
  go_wp2
  go_loopw [8] (fun i wr => ∃ (k : Nat), k ≤ ns.length ∧ i = .int .i64 k ∧ Below w.heap.size w wr) (fun i _ => (ns.length : Int).toNat - (intOf i).toNat)
  case atStart => exact ⟨0, by omega, rfl, Below.refl _ _⟩
  case round =>
    obtain ⟨k, hk, rfl, hB⟩ := hrel
    by_cases hlt : k < ns.length
    · obtain ⟨ad, eA, q0⟩ := at_int (Kd.C_below HX.out hB) (k : Int) (by omega) (by omega)
      subst eA
      rw [Int.toNat_natCast] at q0
      have hm := HU.out _ (mem_getD hlt)
      generalize hn : ns.getD k 0 = n at *
      have hz := zig_in hm.1 hm.2
      obtain ⟨hm0, hm1⟩ := hm
      have HZ := Lib.hid hz
      have KB := Lib.hid hB
      clear hB hn hz
      go_wp2_with (first | (go_at_call 14; refine (zig_b n _ hm0 hm1 rfl _).mono ?_; rintro en w1 ⟨rfl, hb⟩; have KB := Lib.hid (below_step KB.out hb); clear hb) | (go_at_call 21; refine (wnum_nil1 _ (zig n) 22 HZ.out).mono ?_; rintro en w2 ⟨rfl, hb⟩; have KB := Lib.hid (below_step KB.out hb); clear hb))
      go_roundw
      case rel => exact ⟨k + 1, by omega, by go_num, KB.out⟩
      case measure => simp [intOf]; omega
    · go_wp2
      go_end0
      exact ⟨rfl, hB⟩
theorem wint_nil1 (w : World) (n : Int) (t : TypeId) (hn : -9223372036854775808 ≤ n ∧ n ≤ 9223372036854775807) : Calls Try.prog 22 #[.pointer none, .slice (some ⟨w.heap.size, 0, none⟩) 1 1] (w.alloc (.cells #[.int .i64 n] t)) (NoP w) := by
  refine (wint_nil _ _ 1 [n] (C_one .i64 t w n) (fun m hm => by obtain rfl : m = n := (by simpa using hm); exact hn)).mono ?_
  rintro en w' ⟨rfl, hb⟩
  exact ⟨rfl, below_step (below_alloc (Below.refl _ _) _) hb⟩
theorem put_nil (w : World) (A : Option Addr) (c n : Nat) (hn : n ≤ 1000) : Calls Try.prog 37 #[.pointer none, .slice A n c] w (NoP w) := by
  have hwr : IntKind.u64.wrap (n : Int) = n := by rw [wrapu]; omega
  go_enter Try.func37, Try.ntmps37
  go_wp2_with (first | (go_at_call 21; refine (wnum_nil1 w (n : Int) 22 (by omega)).mono ?_; rintro en w2 ⟨rfl, hb⟩; have KB := Lib.hid hb; clear hb) | (go_at_call 38; refine (raw_nil _ _).mono ?_; rintro en w3 ⟨rfl, hb⟩; have KB := Lib.hid (below_step KB.out hb); clear hb))
  go_end0
  exact ⟨rfl, KB.out⟩

set_option maxHeartbeats 8000000 in
set_option maxRecDepth 100000 in
theorem varintNil_walk (n most : Int) (A : Option Addr) (c : Nat) (bs : List Int) (w : World) (hn : 0 ≤ n ∧ n ≤ 18446744073709551615) (hm : -9223372036854775808 ≤ most ∧ most ≤ 9223372036854775807) (hx : k8.C w A bs.length bs) :
    Calls Try.prog 8 #[.int .u64 n, .int .i64 most, .slice A bs.length c] w (YepP w) := by
  have lx : bs.length ≤ 9223372036854775807 := hx.2.1
  clear hx
  have HN := Lib.hid hn
  have HM := Lib.hid hm
  clear hn hm
  by_cases hl : bs.length ≤ 100
  · have hd : decide ((100 : Int) < (bs.length : Int)) = false := decide_eq_false (by omega)
    have k1 : nV n 0 4 = 0 ∧ nE n 0 4 = 4 ∧ 0 + nS n 0 0 4 = 0 := by
      unfold nV nE nS
      exact ⟨if_neg (by omega), if_pos (by omega), by rw [if_neg (by omega)]⟩
    have K1 := Lib.hid k1
    have HBL := Lib.hid (show bs.length ≤ 1000 by omega)
    clear k1 hl
    go_enter Try.func8, Try.ntmps8
    have HR9 := Lib.hid (show RdR (([] : List Int).drop 0) 0 0 4 from d9)
    go_wp2
    have hbz := blk_below (blk_new w (.cells #[.bool false, .slice none 0 0, .int .i64 0] 66)) (below_alloc (Below.refl (w.alloc (.cells #[.bool false, .slice none 0 0, .int .i64 0] 66)).heap.size _) (.cells #[.pointer none, .pointer (some ⟨w.heap.size, 0, none⟩)] 28))
    have hbl := blk_new (w.alloc (.cells #[.bool false, .slice none 0 0, .int .i64 0] 66)) (.cells #[.pointer none, .pointer (some ⟨w.heap.size, 0, none⟩)] 28)
    have hb0 : Below w.heap.size w ((w.alloc (.cells #[.bool false, .slice none 0 0, .int .i64 0] 66)).alloc (.cells #[.pointer none, .pointer (some ⟨w.heap.size, 0, none⟩)] 28)) := below_alloc (below_alloc (Below.refl _ _) _) _
    rw [size_al] at hbl
    generalize (w.alloc (.cells #[.bool false, .slice none 0 0, .int .i64 0] 66)).alloc (.cells #[.pointer none, .pointer (some ⟨w.heap.size, 0, none⟩)] 28) = W0 at *
    have BZ := Lib.hid hbz
    have BL := Lib.hid hbl
    have B0 := Lib.hid hb0
    clear hbz hbl hb0
    go_loopw [21] (fun i wr => ∃ (k : Nat), k ≤ 2 ∧ i = .int .i64 k ∧ Below W0.heap.size W0 wr) (fun i _ => (2 : Int).toNat - (intOf i).toNat)
    case atStart => exact ⟨0, by omega, rfl, Below.refl _ _⟩
    case round =>
      obtain ⟨k, hk, rfl, hB⟩ := hrel
      have KB := Lib.hid hB
      have hz1 := blk_below BZ.out hB
      have hl1 := blk_below BL.out hB
      clear hB
      have hk3 : k = 0 ∨ k = 1 ∨ k = 2 := by omega
      rcases hk3 with rfl | rfl | rfl
      · have c0 := (blk_cell hl1 0).trans rfl
        have ZD := Lib.hid (show Zd wr (.pointer none) from .inl rfl)
        clear hz1 hl1
        go_wp2_with (first | (go_at_call 16; refine (reads_zd _ _ ZD.out n).mono ?_; rintro en w3 ⟨rfl, hb⟩; have KB := Lib.hid (below_step KB.out hb); have ZD := Lib.hid (ZD.out.below hb); clear hb) | (go_at_call 18; refine (signed_zd _ _ ZD.out).mono ?_; rintro en w3 ⟨rfl, hb⟩; have KB := Lib.hid (below_step KB.out hb); have ZD := Lib.hid (ZD.out.below hb); clear hb) | (go_at_call 30; refine (hears_zd _ _ ZD.out most _ s7).mono ?_; rintro en w3 ⟨rfl, hb⟩; have KB := Lib.hid (below_step KB.out hb); have ZD := Lib.hid (ZD.out.below hb); clear hb) | (go_at_call 31; refine (takes_zd _ _ ZD.out most _ s7).mono ?_; rintro en w3 ⟨rfl, hb⟩; have KB := Lib.hid (below_step KB.out hb); have ZD := Lib.hid (ZD.out.below hb); clear hb) | (go_at_call 29; refine (left_zd _ _ ZD.out).mono ?_; rintro en w3 ⟨rfl, rfl⟩) | (go_at_call 32; refine (at_zd _ _ ZD.out).mono ?_; rintro en w3 ⟨rfl, rfl⟩) | (go_at_call 17; refine (end_zd _ _ ZD.out).mono ?_; rintro en w3 ⟨rfl, rfl⟩) | (go_at_call 34; refine (copy_zd _ _ ZD.out).mono ?_; rintro en w3 ⟨rfl, rfl⟩))
        go_roundw
        case rel => exact ⟨1, by omega, by go_num, KB.out⟩
        case measure => simp [intOf]
      · have c0 := (blk_cell hl1 1).trans rfl
        have ZD := Lib.hid (show Zd wr (.pointer (some ⟨w.heap.size, 0, none⟩)) from .inr ⟨_, rfl, hz1⟩)
        clear hz1 hl1
        go_wp2_with (first | (go_at_call 16; refine (reads_zd _ _ ZD.out n).mono ?_; rintro en w3 ⟨rfl, hb⟩; have KB := Lib.hid (below_step KB.out hb); have ZD := Lib.hid (ZD.out.below hb); clear hb) | (go_at_call 18; refine (signed_zd _ _ ZD.out).mono ?_; rintro en w3 ⟨rfl, hb⟩; have KB := Lib.hid (below_step KB.out hb); have ZD := Lib.hid (ZD.out.below hb); clear hb) | (go_at_call 30; refine (hears_zd _ _ ZD.out most _ s7).mono ?_; rintro en w3 ⟨rfl, hb⟩; have KB := Lib.hid (below_step KB.out hb); have ZD := Lib.hid (ZD.out.below hb); clear hb) | (go_at_call 31; refine (takes_zd _ _ ZD.out most _ s7).mono ?_; rintro en w3 ⟨rfl, hb⟩; have KB := Lib.hid (below_step KB.out hb); have ZD := Lib.hid (ZD.out.below hb); clear hb) | (go_at_call 29; refine (left_zd _ _ ZD.out).mono ?_; rintro en w3 ⟨rfl, rfl⟩) | (go_at_call 32; refine (at_zd _ _ ZD.out).mono ?_; rintro en w3 ⟨rfl, rfl⟩) | (go_at_call 17; refine (end_zd _ _ ZD.out).mono ?_; rintro en w3 ⟨rfl, rfl⟩) | (go_at_call 34; refine (copy_zd _ _ ZD.out).mono ?_; rintro en w3 ⟨rfl, rfl⟩))
        go_roundw
        case rel => exact ⟨2, by omega, by go_num, KB.out⟩
        case measure => simp [intOf]
      · clear hz1 hl1
        go_wp2_with (first | (go_at_call 21; refine (wnum_nil1 _ n 22 HN.out).mono ?_; rintro en w4 ⟨rfl, hb⟩; have KB := Lib.hid (below_step KB.out hb); clear hb) | (go_at_call 22; refine (wint_nil1 _ most 3 HM.out).mono ?_; rintro en w4 ⟨rfl, hb⟩; have KB := Lib.hid (below_step KB.out hb); clear hb) | (go_at_call 37; refine (put_nil _ A c bs.length HBL.out).mono ?_; rintro en w4 ⟨rfl, hb⟩; have KB := Lib.hid (below_step KB.out hb); clear hb) | (go_at_call 38; refine (raw_nil _ _).mono ?_; rintro en w4 ⟨rfl, hb⟩; have KB := Lib.hid (below_step KB.out hb); clear hb) | (go_at_call 15; refine (new_any none 0 [] _ (Kd.C_nil _ _) (by simp)).mono ?_; rintro en w5 hnew; obtain ⟨gR, AR, cR, rfl, hN, hlt, hb⟩ := newq hnew; have GR := Lib.hid (Nat.le_trans KB.out.size hN.2.1); have KB := Lib.hid (below_step KB.out hb); have R := Lib.hid hN.rd; clear hnew hN hlt hb) | (go_at_call 28; refine (len_nil _).mono ?_; rintro en w6 ⟨rfl, hb⟩; have KB := Lib.hid (below_step KB.out hb); have R := Lib.hid (R.out.below hb); clear hb) | (go_at_call 24; refine (bytes_nil _).mono ?_; rintro en w6 ⟨rfl, hb⟩; have KB := Lib.hid (below_step KB.out hb); have R := Lib.hid (R.out.below hb); clear hb) | (go_at_call 17; refine (end_s _ R.out 0 (by decide)).mono ?_; rintro en w6 ⟨rfl, hb⟩; have KB := Lib.hid (below_step KB.out hb); have R := Lib.hid (R.out.below hb); clear hb) | (go_at_call 29; refine (qu_be (left_any _ R.out)).mono ?_; rintro en w6 ⟨rfl, hb⟩; have KB := Lib.hid (below_step KB.out hb); have R := Lib.hid (R.out.below hb); clear hb) | (go_at_call 16; refine (reads_yes _ R.out bys9 n HR9.out 0 4 0 K1.out.1 K1.out.2.1 K1.out.2.2).mono ?_; rintro en w7 ⟨rfl, hR, hF⟩; have KB := Lib.hid (Fr.to_below KB.out hF KB.out.size (fun i e => e ▸ GR.out)); clear hR hF) | (go_at_call 20; refine (known_any _).mono ?_; rintro en w14 ⟨rfl, hb⟩; have KB := Lib.hid (below_step KB.out hb); clear hb))
        go_ret
        exact ⟨rfl, below_step B0.out KB.out⟩
  · have hd : decide ((100 : Int) < (bs.length : Int)) = true := decide_eq_true (by omega)
    go_enter Try.func8, Try.ntmps8
    go_wp2_with (go_at_call 20; refine (known_any _).mono ?_; rintro en w14 ⟨rfl, hb⟩; have KD := Lib.hid hb; clear hb)
    go_ret
    exact ⟨rfl, KD.out⟩
end Go.Proofs.Ytfcpofkhcfilmaa.Vn
