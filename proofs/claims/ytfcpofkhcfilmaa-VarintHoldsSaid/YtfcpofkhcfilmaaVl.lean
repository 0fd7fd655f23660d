/- VarintLists of layer 1: the walk. -/
import Derived.Test.YtfcpofkhcfilmaaVu
namespace Go.Proofs.Ytfcpofkhcfilmaa.Vn
open Go.RowKit Go.Proofs Go.Proofs.YtfcpofkhcfilmaaW.PrintWords Go.Proofs.Ytfcpofkhcfilmaa.Kit
set_option linter.unusedSimpArgs false
set_option linter.unusedVariables false

theorem off_old {k : IntKind} {w0 w : World} {g : Nat} {v : Value} {xs zs : List Int} {A : Option Addr} {n : Nat} (h : Wr w0 w g v xs) (hx : (Kd.int k).C w0 A n zs) : Off A n g v := by
  intro ad e hp
  have hlt := C_lt hx e hp
  have hge := h.ge
  exact ⟨by omega, fun e2 => by have := Kd.R_base h.row _ e2.symm; omega⟩
/-- What is wanted stands in a row that is none of the writer's. -/
def Wt (w0 w : World) (g : Nat) (v u : Value) (zs : List Int) : Prop := k8.R 5 w w0.heap.size (fun j => w0.heap.size ≤ j ∧ j ≠ g ∧ some j ≠ v.ownBlock) u zs
section
variable {w0 w w1 : World} {g : Nat} {v u : Value} {xs zs : List Int}
theorem Wt.below (h : Wt w0 w g v u zs) (hb : Below w.heap.size w w1) : Wt w0 w1 g v u zs := Kd.R_below h hb
theorem Wt.fresh (hW : Wr w0 w g v xs) : ∀ k, w.heap.size ≤ k → w0.heap.size ≤ k ∧ k ≠ g ∧ some k ≠ v.ownBlock := fun k hk =>
  ⟨Nat.le_trans hW.bel.size hk, Nat.ne_of_gt (Nat.lt_of_lt_of_le (blk_lt hW.own) hk), fun e => by have := Kd.R_lt hW.row k e.symm; omega⟩
theorem Wt.wr (h : Wt w0 w g v u zs) (hW : Wr w0 w g v xs) (hg : w.grownBy w1 u.ownBlock) : Wr w0 w1 g v xs :=
  hW.frame (Fr.grown hg) (fun e => (h.1 g e.symm).2.1 rfl) (fun j hj e => (h.1 j e.symm).2.2 hj.symm) (fun i e => Kd.R_base h i e.symm)
theorem Wt.nil : Wt w0 w g v (.slice none 0 0) [] := Kd.R_nil _ _ _ _ _
end

set_option maxHeartbeats 8000000 in
set_option maxRecDepth 100000 in
theorem varintLists_walk (A1 : Option Addr) (c1 : Nat) (ns : List Int) (A2 : Option Addr) (c2 : Nat) (ms : List Int) (w : World) (hx : (Kd.int .u64).C w A1 ns.length ns) (hy : (Kd.int .i64).C w A2 ms.length ms)
    (hu : U64 ns) (hv : ∀ n ∈ ms, -9223372036854775808 ≤ n ∧ n ≤ 9223372036854775807) : Calls Try.prog 4 #[.slice A1 ns.length c1, .slice A2 ms.length c2] w (YepP w) := by
  have lx : ns.length ≤ 9223372036854775807 := hx.2.1
  have ly : ms.length ≤ 9223372036854775807 := hy.2.1
  have HX := Lib.hid hx
  have HY := Lib.hid hy
  have HU := Lib.hid hu
  have HV := Lib.hid hv
  clear hx hy hu hv
  by_cases hl : ns.length ≤ 40
  · have hd : decide ((40 : Int) < (ns.length : Int)) = false := decide_eq_false (by omega)
    by_cases hs : ms.length ≤ 40
    · have hd2 : decide ((40 : Int) < (ms.length : Int)) = false := decide_eq_false (by omega)
      have hzu : U64 (ms.map zig) := fun m hm => by
        obtain ⟨q, hq, rfl⟩ := List.mem_map.1 hm
        have := HV.out q hq
        exact zig_in this.1 this.2
      have L1 := encs_length ns HU.out
      have L2 := encs_length (ms.map zig) hzu
      rw [List.length_map] at L2
      have HLN := Lib.hid (And.intro L1 L2)
      clear L1 L2 hzu
      go_enter Try.func4, Try.ntmps4
      go_upto_region 7 with (first | ((with_reducible refine gate_dst (N := 5) rfl ?_); refine box_event rfl (N := 5) rfl (cs := #[.slice none 0 0]) (t := 40) ?hr ?_; (case hr => first | (go_simp; done) | (go_simp; rfl)); intro g hg w1 hbox hb; have HW := Lib.hid (wr_box (Below.refl w.heap.size w) hg hbox hb); clear hb hbox hg) | (go_at_call 21; refine (wnum_any w _ g _ [] A1 c1 ns HW.out (Kd.C_below HX.out HW.out.bel) HU.out (off_old HW.out HX.out) (by simp; omega)).mono ?_; rintro en w2 ⟨rfl, v2, hW2, hS2⟩; have HW := Lib.hid hW2; clear hW2 hS2) | (go_at_call 22; refine (wint_any w _ g v2 _ A2 c2 ms HW.out (Kd.C_below HY.out HW.out.bel) HV.out (off_old HW.out HY.out) (by have := HLN.out.1; rw [List.nil_append]; omega)).mono ?_; rintro en w3 ⟨rfl, v3, hW2, hS2⟩; rw [List.nil_append] at hW2; have HW := Lib.hid hW2; clear hW2 hS2))
      go_wp2
      go_loopw [6, 26] (fun u i wr => ∃ (k : Nat), k ≤ ns.length ∧ i = .int .i64 k ∧ Wr w wr g v3 (encs ns ++ encs (ms.map zig)) ∧ Wt w wr g v3 u (encs (ns.take k))) (fun _ i _ => (ns.length : Int).toNat - (intOf i).toNat)
      case atStart => exact ⟨0, by omega, rfl, HW.out, Wt.nil⟩
      case round =>
        obtain ⟨k, hk, rfl, hW, hT⟩ := hrel
        have HW := Lib.hid hW
        have HT := Lib.hid hT
        clear hW hT
        by_cases hlt : k < ns.length
        · obtain ⟨ad, eA, q0⟩ := at_int (Kd.C_below HX.out HW.out.bel) (k : Int) (by omega) (by omega)
          subst eA
          rw [Int.toNat_natCast] at q0
          have hm := HU.out _ (mem_getD hlt)
          have hT := take_succ ns k hlt
          have hlen : (encs (ns.take k)).length ≤ 400 := by
            have := encs_length (ns.take k) (fun m hm => HU.out m (List.mem_of_mem_take hm))
            rw [List.length_take] at this
            omega
          generalize hn : ns.getD k 0 = n at *
          obtain ⟨m, rfl⟩ : ∃ m : Nat, n = m := ⟨n.toNat, by omega⟩
          have hm2 : m < 18446744073709551616 := by omega
          have h10 := enc_length64 hm2
          have LEN := Lib.hid (show ((encs (ns.take k)).length + (enc m).length) * 1 ≤ 140737488355328 by omega)
          have TK := Lib.hid hT
          clear hm hn hT hlen h10
          go_wp2_with (first | (go_at_call 9; refine (rnumber_any m hm2 _).mono ?_; rintro en w1 ⟨v1, rfl, hr, hb⟩; obtain ⟨Ae, ce, rfl, _, hC⟩ := Kd.R_reads hr; have HW := Lib.hid (HW.out.below hb); have HT := Lib.hid (HT.out.below hb); have CE := Lib.hid hC; clear hr hb hC) | ((with_reducible refine gate_builtin (b := .append) (xs := #[.tmp 30, .tmp 32]) rfl ?_); at_builtin; refine Kd.R_append_rows k8 (w0 := w) w.heap.size rfl (.tmp 30) (.tmp 32) 23 5 (.int .u8 0) 1 rfl Try.underlying23 info8 rfl (by decide) (by omega) u6 (encs (ns.take k)) (enc m) _ _ _ (fun j => w.heap.size ≤ j ∧ j ≠ g ∧ some j ≠ v3.ownBlock) (fun _ => False) rfl rfl HT.out CE.out (fun _ _ h => h) (fun _ h => h.elim) (Wt.fresh HW.out) HW.out.bel HW.out.bel.size LEN.out ?_; intro v7 w7 ho hb hg_ hat; have HW := Lib.hid (HT.out.wr HW.out hg_); have HT := Lib.hid ho; clear ho hb hg_ hat))
          go_roundw
          case rel => exact ⟨k + 1, by omega, by go_num, HW.out, by rw [TK.out, encs_append, encs_one, Int.toNat_natCast]; exact HT.out⟩
          case measure => simp [intOf]; omega
        · obtain rfl : k = ns.length := by omega
          rw [List.take_length] at HT
          go_wp2
          go_loopw [6, 37] (fun u i wr => ∃ (k : Nat), k ≤ ms.length ∧ i = .int .i64 k ∧ Wr w wr g v3 (encs ns ++ encs (ms.map zig)) ∧ Wt w wr g v3 u (encs ns ++ encs ((ms.take k).map zig))) (fun _ i _ => (ms.length : Int).toNat - (intOf i).toNat)
          case atStart => exact ⟨0, by omega, rfl, HW.out, by simpa [encs] using HT.out⟩
          case round =>
            clear HW HT
            obtain ⟨k, hk, rfl, hW, hT⟩ := hrel
            have HW := Lib.hid hW
            have HT := Lib.hid hT
            clear hW hT
            by_cases hlt : k < ms.length
            · obtain ⟨ad, eA, q0⟩ := at_int (Kd.C_below HY.out HW.out.bel) (k : Int) (by omega) (by omega)
              subst eA
              rw [Int.toNat_natCast] at q0
              have hm := HV.out _ (mem_getD hlt)
              have hT := take_succ ms k hlt
              have hlen : (encs ns).length + (encs ((ms.take k).map zig)).length ≤ 800 := by
                have := encs_length ((ms.take k).map zig) (fun m hm => by
                  obtain ⟨q, hq, rfl⟩ := List.mem_map.1 hm
                  have := HV.out q (List.mem_of_mem_take hq)
                  exact zig_in this.1 this.2)
                rw [List.length_map, List.length_take] at this
                have := HLN.out.1
                omega
              generalize hn : ms.getD k 0 = n at *
              obtain ⟨hm0, hm1⟩ := hm
              have hz := zig_in hm0 hm1
              have hz2 : (zig n).toNat < 18446744073709551616 := by omega
              have hz3 : (((zig n).toNat : Nat) : Int) = zig n := by omega
              have h10 := enc_length64 hz2
              have LEN := Lib.hid (show ((encs ns ++ encs ((ms.take k).map zig)).length + (enc (zig n).toNat).length) * 1 ≤ 140737488355328 by rw [List.length_append]; omega)
              have RN := Lib.hid (fun w => rnumber_any (zig n).toNat hz2 w)
              rw [hz3] at RN
              have RZ := Lib.hid (fun w => qu_be (rzig_any n w hm0 hm1))
              have TK := Lib.hid hT
              clear hz hz3 hn hT hlen h10
              go_wp2_with (first | (go_at_call 23; refine (RZ.out _).mono ?_; rintro en w1 ⟨rfl, hb⟩; have HW := Lib.hid (HW.out.below hb); have HT := Lib.hid (HT.out.below hb); clear hb) | (go_at_call 9; refine (RN.out _).mono ?_; rintro en w1 ⟨v1, rfl, hr, hb⟩; obtain ⟨Ae, ce, rfl, _, hC⟩ := Kd.R_reads hr; have HW := Lib.hid (HW.out.below hb); have HT := Lib.hid (HT.out.below hb); have CE := Lib.hid hC; clear hr hb hC) | ((with_reducible refine gate_builtin (b := .append) (xs := #[.tmp 41, .tmp 44]) rfl ?_); at_builtin; refine Kd.R_append_rows k8 (w0 := w) w.heap.size rfl (.tmp 41) (.tmp 44) 23 5 (.int .u8 0) 1 rfl Try.underlying23 info8 rfl (by decide) (by omega) u6 (encs ns ++ encs ((ms.take k).map zig)) (enc (zig n).toNat) _ _ _ (fun j => w.heap.size ≤ j ∧ j ≠ g ∧ some j ≠ v3.ownBlock) (fun _ => False) rfl rfl HT.out CE.out (fun _ _ h => h) (fun _ h => h.elim) (Wt.fresh HW.out) HW.out.bel HW.out.bel.size LEN.out ?_; intro v7 w7 ho hb hg_ hat; have HW := Lib.hid (HT.out.wr HW.out hg_); have HT := Lib.hid ho; clear ho hb hg_ hat))
              go_roundw
              case rel => exact ⟨k + 1, by omega, by go_num, HW.out, by rw [TK.out, List.map_append, encs_append, List.map_cons, List.map_nil, encs_one, ← List.append_assoc]; exact HT.out⟩
              case measure => simp [intOf]; omega
            · obtain rfl : k = ms.length := by omega
              rw [List.take_length] at HT
              have hl8 : (encs ns ++ encs (ms.map zig)).length ≤ 100000000 := by rw [List.length_append]; have := HLN.out; omega
              generalize encs ns ++ encs (ms.map zig) = X at *
              obtain ⟨A6, c6, rfl, hc6, hC6⟩ := Kd.R_reads HT.out
              have C6 := Lib.hid hC6
              have L8 := Lib.hid hl8
              clear hc6 hC6 hl8
              have hq0 := conv8 (c := c6) C6.out
              have hq1 := conv8 (c := c6) (Kd.C_drew C6.out)
              go_upto_region 17 with (fail)
              have hW0 := Lib.hid (HW.out.below (below_drew (Below.refl _ _)))
              go_region_with (first | (go_at_call 24; (refine (bytes_any w _ g v3 X hW0.out L8.out).mono ?_); rintro en w2 ⟨v2, rfl, hr, hb⟩; obtain ⟨A5, c5, rfl, _, hC5⟩ := Kd.R_reads hr; have hq5 := conv8 (c := c5) hC5; have hq6 := conv8 (c := c6) (Kd.C_below (Kd.C_drew C6.out) hb); have hW6 := Lib.hid (hW0.out.below hb); clear hb hr hC5) | (go_at_call 20; (refine (known_any _).mono ?_); rintro en w3 ⟨rfl, hb⟩; have hW6 := Lib.hid (hW6.out.below hb); clear hb))
              all_goals go_wp2
              all_goals go_ret
              all_goals exact ⟨rfl, hW6.out.bel⟩
    · have hd2 : decide ((40 : Int) < (ms.length : Int)) = true := decide_eq_true (by omega)
      go_enter Try.func4, Try.ntmps4
      go_wp2_with (go_at_call 20; refine (known_any _).mono ?_; rintro en w14 ⟨rfl, hb⟩; have KD := Lib.hid hb; clear hb)
      go_ret
      exact ⟨rfl, KD.out⟩

  · have hd : decide ((40 : Int) < (ns.length : Int)) = true := decide_eq_true (by omega)
    go_enter Try.func4, Try.ntmps4
    go_wp2_with (go_at_call 20; refine (known_any _).mono ?_; rintro en w14 ⟨rfl, hb⟩; have KD := Lib.hid hb; clear hb)
    go_ret
    exact ⟨rfl, KD.out⟩

end Go.Proofs.Ytfcpofkhcfilmaa.Vn
