/- The examples of the chapter, layer 1: known answers true (the walk). -/
import Derived.Test.YtfcpofkhcfilmaaVk
namespace Go.Proofs.Ytfcpofkhcfilmaa.Vn
open Go.RowKit Go.Proofs Go.Proofs.YtfcpofkhcfilmaaW.PrintWords Go.Proofs.Ytfcpofkhcfilmaa.Kit
set_option linter.unusedSimpArgs false
set_option linter.unusedVariables false

theorem d1 : RdR [172, 2, 5] 300 2 0 := rdr_lit _ (by unfold Bys; decide) (by decide) (by decide +kernel)
theorem d2 : RdR [5] 5 1 0 := rdr_lit _ (by unfold Bys; decide) (by decide) (by decide +kernel)
theorem d3 : RdR [2, 97, 98] 2 1 0 := rdr_lit _ (by unfold Bys; decide) (by decide) (by decide +kernel)
theorem d4 : RdR [2, 97] 2 1 0 := rdr_lit _ (by unfold Bys; decide) (by decide) (by decide +kernel)
theorem d5 : RdR [128] 0 0 4 := rdr_lit _ (by unfold Bys; decide) (by decide) (by decide +kernel)
theorem d6 : RdR [128, 0] 0 0 12 := rdr_lit _ (by unfold Bys; decide) (by decide) (by decide +kernel)
theorem d7 : RdR (ninesL 255) 0 0 12 := rdr_lit _ (by unfold Bys ninesL; decide) (by decide) (by decide +kernel)
theorem d8 : RdR (ninesL 2) 0 0 12 := rdr_lit _ (by unfold Bys ninesL; decide) (by decide) (by decide +kernel)
theorem d9 : RdR [] 0 0 4 := rdr_lit _ (by unfold Bys; decide) (by decide) (by decide +kernel)
theorem bys1 : Bys [172, 2, 5] := by unfold Bys; decide
theorem bys2 : Bys [5] := by unfold Bys; decide
theorem bys3 : Bys [2, 97, 98] := by unfold Bys; decide
theorem bys4 : Bys [2, 97] := by unfold Bys; decide
theorem bys5 : Bys [128] := by unfold Bys; decide
theorem bys6 : Bys [128, 0] := by unfold Bys; decide
theorem bys7 : Bys (ninesL 255) := by unfold Bys ninesL; decide
theorem bys8 : Bys (ninesL 2) := by unfold Bys ninesL; decide
theorem bys9 : Bys [] := by unfold Bys; decide
theorem s1 : strOfNums [0] = { data := #[0] } := by decide +kernel
theorem s2 : strOfNums [127] = { data := #[127] } := by decide +kernel
theorem s3 : strOfNums [128, 1] = { data := #[128, 1] } := by decide +kernel
theorem s4 : strOfNums [172, 2] = { data := #[172, 2] } := by decide +kernel
theorem s5 : strOfNums [2, 97, 98] = { data := #[2, 97, 98] } := by decide +kernel
theorem s6 : strOfNums [97, 98] = { data := #[97, 98] } := by decide +kernel
theorem s7 : strOfNums [] = { data := #[] } := by decide +kernel
theorem s8 : strOfNums [7] = { data := #[7] } := by decide +kernel

/-- A value, and nothing of the caller's was written. -/
def BeP (v : Value) (w : World) (en : Ending) (w' : World) : Prop := en = .returned v ∧ Below w.heap.size w w'
theorem qu_be {f : FuncId} {args : Array Value} {w : World} {v : Value} (h : Calls Try.prog f args w (QuP v w)) : Calls Try.prog f args w (BeP v w) := by
  refine h.mono ?_
  rintro en w' ⟨rfl, n, rfl⟩
  exact ⟨rfl, pw_below_drewN (Below.refl _ _) n⟩
theorem zig_b (n z : Int) (h0 : -9223372036854775808 ≤ n) (h1 : n ≤ 9223372036854775807) (hz : zig n = z) (w : World) : Calls Try.prog 14 #[.int .i64 n] w (BeP (.int .u64 z) w) := qu_be (zig_s n z h0 h1 hz w)
theorem zag_b (n z : Int) (h0 : 0 ≤ n) (h1 : n ≤ 18446744073709551615) (hz : zag n = z) (w : World) : Calls Try.prog 12 #[.int .u64 n] w (BeP (.int .i64 z) w) := qu_be (zag_s n z h0 h1 hz w)
theorem end_s {g : Nat} {A : Option Addr} {c : Nat} {xs : List Int} {p : Nat} (w : World) (h : Rd w g A c xs p) (z : Int) (hz : (if p < xs.length then (12 : Int) else 0) = z) : Calls Try.prog 17 #[.pointer (some ⟨g, 0, none⟩)] w (BeP (.int .i64 z) w) := by
  subst hz; exact qu_be (end_any w h)
theorem at_s {g : Nat} {A : Option Addr} {c : Nat} {xs : List Int} {p : Nat} (w : World) (h : Rd w g A c xs p) (z : Int) (hz : (p : Int) = z) : Calls Try.prog 32 #[.pointer (some ⟨g, 0, none⟩)] w (BeP (.int .i64 z) w) := by
  subst hz; exact qu_be (at_any w h)
theorem first_n (A : Option Addr) (c n : Nat) (xs : List Int) (w : World) (hx : k8.C w A n xs) (hb : Bys xs) (hl : xs.length ≤ 10000000) (no : Int) (hn : no ≠ 0) (hr : RdR xs 0 0 no) :
    Calls Try.prog 19 #[.int .i64 no, .slice A n c] w (YepP w) := by
  obtain rfl : xs.length = n := hx.1
  exact first_any A c xs w hx hb hl no hn hr
section
variable {g : Nat} {A : Option Addr} {c : Nat}
theorem k_r1 (w : World) (h : Rd w g A c [172, 2, 5] 0) : Calls Try.prog 16 #[.pointer (some ⟨g, 0, none⟩), .int .u64 1000, .int .u64 300, .int .i64 0] w (YesP g A c [172, 2, 5] 2 w) := reads_yes w h bys1 1000 d1 300 0 2 (by decide) (by decide) (by decide)
theorem k_r2 (w : World) (h : Rd w g A c [172, 2, 5] 2) : Calls Try.prog 16 #[.pointer (some ⟨g, 0, none⟩), .int .u64 4, .int .u64 0, .int .i64 3] w (YesP g A c [172, 2, 5] 2 w) := reads_yes w h bys1 4 d2 0 3 2 (by decide) (by decide) (by decide)
theorem k_r3 (w : World) (h : Rd w g A c [172, 2, 5] 2) : Calls Try.prog 16 #[.pointer (some ⟨g, 0, none⟩), .int .u64 5, .int .u64 5, .int .i64 0] w (YesP g A c [172, 2, 5] 3 w) := reads_yes w h bys1 5 d2 5 0 3 (by decide) (by decide) (by decide)
theorem k_s1 (w : World) (h : Rd w g A c [5] 0) : Calls Try.prog 18 #[.pointer (some ⟨g, 0, none⟩), .int .i64 (-3), .int .i64 0] w (YesP g A c [5] 1 w) := signed_yes w h bys2 d2 (-3) 0 1 (by decide) (by decide) (by decide)
theorem k_x (w : World) (h : Rd w g A c [2, 97, 98] 0) : Calls Try.prog 30 #[.pointer (some ⟨g, 0, none⟩), .int .i64 5, .string { data := #[97, 98] }, .int .i64 0] w (YesP g A c [2, 97, 98] 3 w) := hears_yes (l := [2, 97, 98]) rfl w h bys3 5 (by decide) d3 _ 0 3 s6 (by decide) (by decide)
theorem k_y (w : World) (h : Rd w g A c [2, 97, 98] 0) : Calls Try.prog 30 #[.pointer (some ⟨g, 0, none⟩), .int .i64 1, .string { data := #[] }, .int .i64 5] w (YesP g A c [2, 97, 98] 0 w) := hears_yes (l := [2, 97, 98]) rfl w h bys3 1 (by decide) d3 _ 5 0 s7 (by decide) (by decide)
theorem k_z (w : World) (h : Rd w g A c [2, 97] 0) : Calls Try.prog 30 #[.pointer (some ⟨g, 0, none⟩), .int .i64 5, .string { data := #[] }, .int .i64 4] w (YesP g A c [2, 97] 0 w) := hears_yes (l := [2, 97]) rfl w h bys4 5 (by decide) d4 _ 4 0 s7 (by decide) (by decide)
theorem k_t (w : World) (h : Rd w g A c [7, 8] 0) : Calls Try.prog 31 #[.pointer (some ⟨g, 0, none⟩), .int .i64 1, .string { data := #[7] }, .int .i64 0] w (YesP g A c [7, 8] 1 w) := takes_yes (l := [7, 8]) rfl w h 1 _ 0 1 s8 (by decide) (by decide)
end
theorem newr (xs : List Int) {n : Nat} {cs : Array Value} (t : TypeId) (hn : xs.length = n) (hcs : cs = (xs.map (fun x => Value.int .u8 x)).toArray) (hl : xs.length ≤ 1000) (w : World) :
    Calls Try.prog 15 #[.slice (some ⟨w.heap.size, 0, none⟩) n n] (w.alloc (.cells cs t)) (NewQ xs w) := (new_lit xs t hn hcs hl w).mono fun _ _ h => newq h

set_option maxHeartbeats 8000000 in
set_option maxRecDepth 100000 in
theorem known_any (w : World) : Calls Try.prog 20 #[] w (YepP w) := by
  have PUT := Lib.hid (put_lit [97, 98] (n := 2) (cs := #[.int .u8 97, .int .u8 98]) 5 rfl rfl (by decide))
  have NUM0 := Lib.hid (lnumber_s 0 { data := #[0] } (by decide) (by show strOfNums (enc 0) = _; rw [enc0]; try exact s1))
  have NUM1 := Lib.hid (lnumber_s 127 { data := #[127] } (by decide) (by show strOfNums (enc 127) = _; rw [enc127]; try exact s2))
  have NUM2 := Lib.hid (lnumber_s 128 { data := #[128, 1] } (by decide) (by show strOfNums (enc 128) = _; rw [enc128]; try exact s3))
  have NUM3 := Lib.hid (lnumber_s 300 { data := #[172, 2] } (by decide) (by show strOfNums (enc 300) = _; rw [enc300]; try exact s4))
  have NUM4 := Lib.hid (lnumber_s 18446744073709551615 (strOfNums (ninesL 1)) (by decide) (by show strOfNums (enc 18446744073709551615) = _; rw [encmax]))
  have ENC : [] ++ (enc ([97, 98] : List Int).length ++ [97, 98]) = [2, 97, 98] := by show [] ++ (enc 2 ++ [97, 98]) = _; rw [enc2]; rfl
  have NR := Lib.hid (newr [172, 2, 5] (n := 3) (cs := #[.int .u8 172, .int .u8 2, .int .u8 5]) 5 rfl rfl (by decide))
  have NS := Lib.hid (newr [5] (n := 1) (cs := #[.int .u8 5]) 5 rfl rfl (by decide))
  have NX := Lib.hid (newr [2, 97, 98] (n := 3) (cs := #[.int .u8 2, .int .u8 97, .int .u8 98]) 5 rfl rfl (by decide))
  have NZ := Lib.hid (newr [2, 97] (n := 2) (cs := #[.int .u8 2, .int .u8 97]) 5 rfl rfl (by decide))
  have NT := Lib.hid (newr [7, 8] (n := 2) (cs := #[.int .u8 7, .int .u8 8]) 5 rfl rfl (by decide))
  have FI1 := Lib.hid (first_lit [128] (n := 1) (cs := #[.int .u8 128]) 5 rfl rfl (by decide) bys5 4 (by decide) d5)
  have FI2 := Lib.hid (first_lit [128, 0] (n := 2) (cs := #[.int .u8 128, .int .u8 0]) 5 rfl rfl (by decide) bys6 12 (by decide) d6)
  have FI5 := Lib.hid (fun w => first_n none 0 0 [] w ⟨rfl, by decide, fun h => absurd h (by decide)⟩ bys9 (by decide) 4 (by decide) d9)
  have ZI0 := Lib.hid (zig_b (0) 0 (by decide) (by decide) (by decide))
  have ZI1 := Lib.hid (zig_b (-1) 1 (by decide) (by decide) (by decide))
  have ZI2 := Lib.hid (zig_b (1) 2 (by decide) (by decide) (by decide))
  have ZI3 := Lib.hid (zig_b (-9223372036854775808) 18446744073709551615 (by decide) (by decide) (by decide))
  have ZA0 := Lib.hid (zag_b 4 (2) (by decide) (by decide) (by decide))
  have ZA1 := Lib.hid (zag_b 5 (-3) (by decide) (by decide) (by decide))
  have L7 := Lib.hid (show (ninesL 255).length ≤ 10000000 by decide)
  have L8 := Lib.hid (show (ninesL 2).length ≤ 10000000 by decide)
  go_enter Try.func20, Try.ntmps20
  go_wp2_with (first | ((with_reducible refine gate_dst (N := 1) rfl ?_); refine box_event rfl (N := 1) rfl (cs := #[.slice none 0 0]) (t := 40) ?hr ?_; (case hr => first | (go_simp; done) | (go_simp; rfl)); intro g hg w1 hbox hb; have HW := Lib.hid (wr_box (Below.refl w.heap.size w) hg hbox hb); clear hb hbox hg) | (go_at_call 37; refine (PUT.out w _ g _ [] HW.out (by decide)).mono ?_; rintro en w2 ⟨rfl, v2, hW2, hS2⟩; have HW := Lib.hid hW2; clear hW2 hS2) | (go_at_call 10; (first | (with_reducible refine (NUM0.out _).mono ?_) | (with_reducible refine (NUM1.out _).mono ?_) | (with_reducible refine (NUM2.out _).mono ?_) | (with_reducible refine (NUM3.out _).mono ?_) | (with_reducible refine (NUM4.out _).mono ?_)); rintro en w3 ⟨rfl, hb⟩; have HW := Lib.hid (HW.out.below hb); clear hb) | (go_at_call 43; refine (nines_any _ _).mono ?_; rintro en w4 ⟨A4, rfl, hC4, hb⟩; have hq4 := conv8n (c := 10) hC4; have HW := Lib.hid (HW.out.below hb); clear hb hC4) | (go_at_call 24; refine (bytes_any w _ g _ _ HW.out (by rw [ENC]; decide)).mono ?_; rintro en w5 ⟨v5, rfl, hr, hb⟩; rw [ENC] at hr; obtain ⟨A5, c5, rfl, _, hC5⟩ := Kd.R_reads hr; have hq5 := conv8n (n := 3) (c := c5) hC5; rw [s5] at hq5; have KB := Lib.hid (below_step HW.out.bel hb); clear hr hb hC5 HW) | (go_at_call 14; (first | (with_reducible refine (ZI0.out _).mono ?_) | (with_reducible refine (ZI1.out _).mono ?_) | (with_reducible refine (ZI2.out _).mono ?_) | (with_reducible refine (ZI3.out _).mono ?_)); rintro en w6 ⟨rfl, hb⟩; have KB := Lib.hid (below_step KB.out hb); clear hb) | (go_at_call 12; (first | (with_reducible refine (ZA0.out _).mono ?_) | (with_reducible refine (ZA1.out _).mono ?_)); rintro en w6 ⟨rfl, hb⟩; have KB := Lib.hid (below_step KB.out hb); clear hb) | (go_at_call 15; (with_reducible refine (NR.out _).mono ?_); rintro en wR ⟨gR, AR, cR, rfl, hN, hlt, hb⟩; have GR := Lib.hid (Nat.le_trans KB.out.size hN.2.1); have KB := Lib.hid (below_step KB.out hb); have R := Lib.hid hN.1; have LR := Lib.hid hlt; clear hN hlt hb) | (go_at_call 15; (with_reducible refine (NS.out _).mono ?_); rintro en wS ⟨gS, AS, cS, rfl, hN, hlt, hb⟩; have GS := Lib.hid (Nat.le_trans KB.out.size hN.2.1); have KB := Lib.hid (below_step KB.out hb); have R := Lib.hid (R.out.below hb); have S := Lib.hid hN; clear hN hlt hb) | (go_at_call 16; (first | (with_reducible refine (k_r1 _ R.out).mono ?_) | (with_reducible refine (k_r2 _ R.out).mono ?_) | (with_reducible refine (k_r3 _ R.out).mono ?_)); rintro en w7 ⟨rfl, hR, hF⟩; have KB := Lib.hid (Fr.to_below KB.out hF KB.out.size (fun i e => e ▸ GR.out)); have S := Lib.hid (S.out.frame hF LR.out); have R := Lib.hid hR; clear hR hF) | (go_at_call 32; (refine (at_s _ R.out 2 (by decide)).mono ?_); rintro en w7 ⟨rfl, hb⟩; have KB := Lib.hid (below_step KB.out hb); have S := Lib.hid (S.out.below hb); have R := Lib.hid (R.out.below hb); clear hb) | (go_at_call 17; (refine (end_s _ R.out 0 (by decide)).mono ?_); rintro en w7 ⟨rfl, hb⟩; have KB := Lib.hid (below_step KB.out hb); have S := Lib.hid (S.out.below hb); clear R hb) | (go_at_call 18; (refine (k_s1 _ S.out.1).mono ?_); rintro en w8 ⟨rfl, hR, hF⟩; have KB := Lib.hid (Fr.to_below KB.out hF KB.out.size (fun i e => e ▸ GS.out)); clear hR hF S) | (go_at_call 19; (first | (with_reducible refine (FI1.out _).mono ?_) | (with_reducible refine (FI2.out _).mono ?_) | (with_reducible refine (FI5.out _).mono ?_) | (with_reducible refine (first_n _ _ _ _ _ C4.out bys7 L7.out 12 (by decide) d7).mono ?_) | (with_reducible refine (first_n _ _ _ _ _ C4.out bys8 L8.out 12 (by decide) d8).mono ?_)); rintro en w9 ⟨rfl, hb⟩; have KB := Lib.hid (below_step KB.out hb); clear hb) | (go_at_call 43; refine (nines_any _ _).mono ?_; rintro en w4 ⟨A4, rfl, hC4, hb⟩; have C4 := Lib.hid hC4; have KB := Lib.hid (below_step KB.out hb); clear hb hC4) | (go_at_call 15; have XX := X; clear XX; (with_reducible refine (NX.out _).mono ?_); rintro en wY ⟨gY, AY, cY, rfl, hN, hlt, hb⟩; have GY := Lib.hid (Nat.le_trans KB.out.size hN.2.1); have KB := Lib.hid (below_step KB.out hb); have X := Lib.hid (X.out.below hb); have LY := Lib.hid (And.intro hlt hb.size); have Y := Lib.hid hN; clear hN hlt hb) | (go_at_call 15; (with_reducible refine (NX.out _).mono ?_); rintro en wX ⟨gX, AX, cX, rfl, hN, hlt, hb⟩; have GX := Lib.hid (Nat.le_trans KB.out.size hN.2.1); have KB := Lib.hid (below_step KB.out hb); have LX := Lib.hid hlt; have X := Lib.hid hN; clear hN hlt hb) | (go_at_call 15; (with_reducible refine (NZ.out _).mono ?_); rintro en wZ ⟨gZ, AZ, cZ, rfl, hN, hlt, hb⟩; have GZ := Lib.hid (Nat.le_trans KB.out.size hN.2.1); have KB := Lib.hid (below_step KB.out hb); have X := Lib.hid (X.out.below hb); have Y := Lib.hid (Y.out.below hb); have LZ := Lib.hid (And.intro hlt hb.size); have Z := Lib.hid hN; clear hN hlt hb) | (go_at_call 15; (with_reducible refine (NT.out _).mono ?_); rintro en wT ⟨gT, AT, cT, rfl, hN, hlt, hb⟩; have GT := Lib.hid (Nat.le_trans KB.out.size hN.2.1); have KB := Lib.hid (below_step KB.out hb); have X := Lib.hid (X.out.below hb); have Y := Lib.hid (Y.out.below hb); have Z := Lib.hid (Z.out.below hb); have T := Lib.hid hN; clear hN hlt hb) | (go_at_call 30; (with_reducible refine (k_x _ X.out.rd).mono ?_); rintro en w10 ⟨rfl, hR, hF⟩; have KB := Lib.hid (Fr.to_below KB.out hF KB.out.size (fun i e => e ▸ GX.out)); have Y := Lib.hid (Y.out.frame hF LX.out); have Z := Lib.hid (Z.out.frame hF (by have := LX.out; have := LY.out; omega)); have T := Lib.hid (T.out.frame hF (by have := LX.out; have := LY.out; have := LZ.out; omega)); clear hR hF X) | (go_at_call 30; (with_reducible refine (k_y _ Y.out.rd).mono ?_); rintro en w11 ⟨rfl, hR, hF⟩; have KB := Lib.hid (Fr.to_below KB.out hF KB.out.size (fun i e => e ▸ GY.out)); have Z := Lib.hid (Z.out.frame hF LY.out.1); have T := Lib.hid (T.out.frame hF (by have := LY.out; have := LZ.out; omega)); clear hR hF Y) | (go_at_call 30; (with_reducible refine (k_z _ Z.out.rd).mono ?_); rintro en w12 ⟨rfl, hR, hF⟩; have KB := Lib.hid (Fr.to_below KB.out hF KB.out.size (fun i e => e ▸ GZ.out)); have T := Lib.hid (T.out.frame hF LZ.out.1); clear hR hF Z) | (go_at_call 31; (with_reducible refine (k_t _ T.out.rd).mono ?_); rintro en w13 ⟨rfl, hR, hF⟩; have KB := Lib.hid (Fr.to_below KB.out hF KB.out.size (fun i e => e ▸ GT.out)); have T2 := Lib.hid hR; clear hR hF T) | (go_at_call 17; (refine (end_s _ T2.out 12 (by decide)).mono ?_); rintro en w14 ⟨rfl, hb⟩; have KB := Lib.hid (below_step KB.out hb); clear hb))
  go_ret
  exact ⟨rfl, KB.out⟩
end Go.Proofs.Ytfcpofkhcfilmaa.Vn
