/- VarintNumbers of layer 1: the walk. -/
import Derived.Test.YtfcpofkhcfilmaaVkn
namespace Go.Proofs.Ytfcpofkhcfilmaa.Vn
open Go.RowKit Go.Proofs Go.Proofs.YtfcpofkhcfilmaaW.PrintWords Go.Proofs.Ytfcpofkhcfilmaa.Kit
set_option linter.unusedSimpArgs false
set_option linter.unusedVariables false

theorem enc_last {n : Nat} (h : n < 18446744073709551616) : ∃ e, e + 1 = (enc n).length ∧ (enc n).getD e 0 < 128 ∧ (∀ j, j < e → 128 ≤ (enc n).getD j 0) := by
  obtain ⟨e, q1, q2, q3, q4, _⟩ := enc_ends 9 n [] (by omega)
  rw [List.append_nil] at q2 q3 q4
  exact ⟨e, q1, q3, q4⟩
theorem enc_short {n : Nat} (h : n < 18446744073709551616) {k : Nat} (hk : k < (enc n).length) : RdR ((enc n).take k) 0 0 4 := by
  obtain ⟨e, q1, q2, q3⟩ := enc_last h
  have h10 := enc_length64 h
  refine .short (by rw [List.length_take]; omega) (fun j hj => ?_)
  rw [List.length_take] at hj
  rw [List.getD_eq_getElem?_getD, List.getElem?_take_of_lt (by omega), ← List.getD_eq_getElem?_getD]
  exact q3 j (by omega)
def longer (L : List Int) : List Int := L.set (L.length - 1) (L.getD (L.length - 1) 0 + 128)
theorem longer_length (L : List Int) : (longer L).length = L.length := by unfold longer; rw [List.length_set]
theorem enc_long {n : Nat} (h : n < 18446744073709551616) : RdR (longer (enc n) ++ [0]) 0 0 12 ∧ Bys (longer (enc n) ++ [0]) := by
  obtain ⟨e, q1, q2, q3⟩ := enc_last h
  have h10 := enc_length64 h
  have hb := enc_bys n
  have he : (enc n).length - 1 = e := by omega
  have hle := longer_length (enc n)
  have hx := hb.at (j := e) (by omega)
  have hg : ∀ j, j < e + 1 → 128 ≤ (longer (enc n) ++ [0]).getD j 0 ∧ (longer (enc n) ++ [0]).getD j 0 ≤ 255 := fun j hj => by
    rw [List.getD_eq_getElem?_getD, List.getElem?_append_left (by omega)]
    unfold longer
    rw [he, List.getElem?_set]
    by_cases q : e = j
    · subst q
      rw [if_pos rfl, if_pos (by omega)]
      show 128 ≤ (enc n).getD e 0 + 128 ∧ (enc n).getD e 0 + 128 ≤ 255
      omega
    · rw [if_neg q, ← List.getD_eq_getElem?_getD]
      exact ⟨q3 j (by omega), (hb.at (by omega)).2⟩
  have hz : (longer (enc n) ++ [0]).getD (e + 1) 0 = 0 := by
    rw [List.getD_eq_getElem?_getD, List.getElem?_append_right (by omega), show e + 1 - (longer (enc n)).length = 0 by omega]
    rfl
  have hlen : (longer (enc n) ++ [0]).length = e + 2 := by rw [List.length_append, hle]; simp; omega
  refine ⟨?_, ?_⟩
  · by_cases q : e + 1 < 10
    · exact .bad (e + 1) ⟨q, by omega, by omega, fun j hj => (hg j hj).1⟩ (.inl ⟨by omega, hz⟩)
    · exact .over (by omega) (fun j hj => (hg j (by omega)).1)
  · intro x hx
    obtain ⟨j, hj, rfl⟩ := List.getElem_of_mem hx
    have e1 : (longer (enc n) ++ [0])[j] = (longer (enc n) ++ [0]).getD j 0 := by rw [List.getD_eq_getElem?_getD, List.getElem?_eq_getElem hj]; rfl
    rw [e1]
    by_cases q : j < e + 1
    · have := hg j q; omega
    · obtain rfl : j = e + 1 := by omega
      rw [hz]; omega

set_option maxHeartbeats 8000000 in
set_option maxRecDepth 100000 in
theorem varintNumbers_walk (n : Int) (h0 : 0 ≤ n) (h1 : n ≤ 18446744073709551615) (w : World) : Calls Try.prog 3 #[.int .u64 n] w (YepP w) := by
  have hN : n.toNat < 18446744073709551616 := by omega
  have hnn : ((n.toNat : Nat) : Int) = n := by omega
  have h10 := enc_length64 hN
  have hpos := enc_pos n.toNat
  have hb := enc_bys n.toNat
  have hr := enc_read hN []
  rw [List.append_nil, hnn] at hr
  have rn : ∀ w, Calls Try.prog 9 #[.int .u64 n] w (MadeP (enc n.toNat) w) := fun w => by have := rnumber_any n.toNat hN w; rwa [hnn] at this
  have sz : ∀ w, Calls Try.prog 11 #[.int .u64 n] w (BeP (.int .i64 (enc n.toNat).length) w) := fun w => by have := size_any n.toNat hN w; rwa [hnn] at this
  have RN := Lib.hid rn
  have SZ := Lib.hid sz
  have LN := Lib.hid (lnumber_s n (strOfNums (enc n.toNat)) ⟨h0, h1⟩ rfl)
  have hzi := zag_in h0 h1
  have ZA := Lib.hid (zag_b n _ h0 h1 rfl)
  have RZ := Lib.hid (fun w => qu_be (rzag_any n w h0 h1))
  have ZG := Lib.hid (zig_b (zag n) n hzi.1 hzi.2 (zig_zag _ h0))
  have SH := Lib.hid (fun k (hk : k < (enc n.toNat).length) => enc_short hN hk)
  have LG := Lib.hid (enc_long hN)
  have hlast := (enc_last hN)
  have HLAST := Lib.hid hlast
  generalize hm : zag n = m at *
  have HM := Lib.hid hm
  clear hm rn sz hlast
  generalize enc n.toNat = E at *
  have HB := Lib.hid hb
  have HR := Lib.hid (show RdR (E.drop 0) n E.length 0 from hr)
  have HL := Lib.hid (show E.length ≤ 10000000 by omega)
  have k1 : 0 < n → nV (n - 1) n 0 = 0 ∧ nE (n - 1) n 0 = 3 ∧ 0 + nS (n - 1) n E.length 0 = 0 := fun hp => by
    unfold nV nE nS
    exact ⟨if_neg (by omega), by rw [if_neg (by omega), if_pos (by omega)], by rw [if_neg (by omega)]⟩
  have k2 : nV n n 0 = n ∧ nE n n 0 = 0 ∧ 0 + nS n n E.length 0 = E.length := by
    unfold nV nE nS
    exact ⟨if_pos ⟨rfl, Int.le_refl _⟩, by rw [if_neg (by omega), if_neg (by omega)], by rw [if_pos ⟨rfl, Int.le_refl _⟩]; omega⟩
  have K1 := Lib.hid k1
  have K2 := Lib.hid k2
  have HNN := Lib.hid hnn
  have hsub : 0 < n → IntKind.u64.wrap (n - 1) = n - 1 := fun _ => by rw [wrapu]; omega
  have HSUB := Lib.hid hsub
  have hcase : decide (0 < n) = true ∨ decide (0 < n) = false := by cases decide (0 < n) <;> simp
  clear hb hr hzi k1 k2 hnn hsub
  rcases hcase with hd | hd
  all_goals (
    go_enter Try.func3, Try.ntmps3
    go_upto_region 2 with (go_at_call 9; refine (RN.out _).mono ?_; rintro en w1 ⟨v1, rfl, hr, hb⟩; obtain ⟨A1, c1, rfl, hc1, hC1⟩ := Kd.R_reads hr; have C1 := Lib.hid (And.intro hc1 hC1); have KB := Lib.hid hb; clear hr hb hc1 hC1)
    go_region_held3 (fun w' => (convert 23 9 (.slice A1 E.length c1)).run Try.prog w' = .ok (.string (strOfNums E)) w' ∧ Below w1.heap.size w1 w') (first | exact ⟨conv8 (Kd.C_drew C1.out.2), below_drew (Below.refl _ _)⟩ | (refine ⟨conv8 (Kd.C_below C1.out.2 ?_), ?_⟩ <;> assumption)) (first | (go_at_call 10; (refine (LN.out _).mono ?_); rintro en w2 ⟨rfl, hb⟩; have hb1 : Below w1.heap.size w1 w2 := (by first | exact below_step (below_drew (Below.refl _ _)) hb | (refine below_step ?_ hb; assumption)); clear hb) | (go_at_call 11; (refine (SZ.out _).mono ?_); rintro en w2 ⟨rfl, hb⟩; have hb1 : Below w1.heap.size w1 w2 := (by first | exact below_step (below_drew (Below.refl _ _)) hb | (refine below_step ?_ hb; assumption)); clear hb) | (go_at_call 12; (refine (ZA.out _).mono ?_); rintro en w2 ⟨rfl, hb⟩; have hb1 : Below w1.heap.size w1 w2 := (by first | exact below_step (below_drew (Below.refl _ _)) hb | (refine below_step ?_ hb; assumption)); clear hb) | (go_at_call 13; (refine (RZ.out _).mono ?_); rintro en w2 ⟨rfl, hb⟩; have hb1 : Below w1.heap.size w1 w2 := (by first | exact below_step (below_drew (Below.refl _ _)) hb | (refine below_step ?_ hb; assumption)); clear hb) | (go_at_call 14; (refine (ZG.out _).mono ?_); rintro en w2 ⟨rfl, hb⟩; have hb1 : Below w1.heap.size w1 w2 := (by first | exact below_step (below_drew (Below.refl _ _)) hb | (refine below_step ?_ hb; assumption)); clear hb))
    have KD := Lib.hid hb1
    try have HP := Lib.hid (of_decide_eq_true hd : 0 < n)
    try have hsub := HSUB.out HP.out
    go_upto_region 7 with (first | (go_at_call 15; have XX := R; clear XX; refine (new_any A1 c1 E _ (Kd.C_below C1.out.2 KD.out) HL.out).mono ?_; rintro en wS hnew; obtain ⟨gS, AS, cS, rfl, hN, hlt, hb⟩ := newq hnew; have GS := Lib.hid (Nat.le_trans KD.out.size hN.2.1); have KD := Lib.hid (below_step KD.out hb); have R := Lib.hid (R.out.below hb); have S := Lib.hid hN; clear hnew hN hlt hb) | (go_at_call 15; refine (new_any A1 c1 E _ (Kd.C_below C1.out.2 KD.out) HL.out).mono ?_; rintro en wR hnew; obtain ⟨gR, AR, cR, rfl, hN, hlt, hb⟩ := newq hnew; have GR := Lib.hid (Nat.le_trans KD.out.size hN.2.1); have KD := Lib.hid (below_step KD.out hb); have R := Lib.hid hN.rd; have LR := Lib.hid hlt; clear hnew hN hlt hb) | (go_at_call 16; (first | (with_reducible refine (reads_yes _ R.out HB.out (n - 1) HR.out 0 3 0 (K1.out HP.out).1 (K1.out HP.out).2.1 (K1.out HP.out).2.2).mono ?_) | (with_reducible refine (reads_yes _ R.out HB.out n HR.out n 0 E.length K2.out.1 K2.out.2.1 K2.out.2.2).mono ?_)); rintro en w3 ⟨rfl, hR, hF⟩; have KD := Lib.hid (Fr.to_below KD.out hF KD.out.size (fun i e => e ▸ GR.out)); have S := Lib.hid (S.out.frame hF LR.out); have R := Lib.hid hR; clear hR hF) | (go_at_call 17; refine (end_s _ R.out 0 (if_neg (Nat.lt_irrefl _))).mono ?_; rintro en w4 ⟨rfl, hb⟩; have KD := Lib.hid (below_step KD.out hb); have S := Lib.hid (S.out.below hb); clear hb R) | (go_at_call 13; (refine (RZ.out _).mono ?_); rintro en w5 ⟨rfl, hb⟩; have KD := Lib.hid (below_step KD.out hb); have S := Lib.hid (S.out.below hb); clear hb) | (go_at_call 18; refine (signed_yes _ S.out.rd HB.out HR.out m 0 _ HM.out rfl rfl).mono ?_; rintro en w6 ⟨rfl, hR, hF⟩; have KD := Lib.hid (Fr.to_below KD.out hF KD.out.size (fun i e => e ▸ GS.out)); clear hR hF S))
    have hposE := Lib.hid hpos
    have h10E := Lib.hid h10
    clear hd hpos h10 hN h0 h1
    try clear hsub
    go_wp2
    go_loopw [6] (fun i wr => ∃ (k : Nat), k ≤ E.length ∧ i = .int .i64 k ∧ Below w1.heap.size w1 wr) (fun i _ => (E.length : Int).toNat - (intOf i).toNat)
    case atStart => exact ⟨0, by omega, rfl, KD.out⟩
    case round =>
      obtain ⟨k, hk, rfl, hKD⟩ := hrel
      clear KD
      have KD := Lib.hid hKD
      clear hKD
      have lx := h10E.out
      by_cases hlt : k < E.length
      · obtain ⟨k1, k2, _⟩ := take8 A1 c1 E k (by omega) C1.out.1
        have T := Lib.hid (k2 _ (Kd.C_below C1.out.2 KD.out))
        have e3 : (E.take k).length = k := by rw [List.length_take]; omega
        rw [e3] at k1 T
        have T2 := Lib.hid (show (E.take k).length ≤ 10000000 by omega)
        clear k2 e3
        go_wp2_with (go_at_call 19; refine (first_n A1 c1 k (E.take k) _ T.out (HB.out.take k) T2.out 4 (by decide) (SH.out k hlt)).mono ?_; rintro en w8 ⟨rfl, hb⟩; have KD := Lib.hid (below_step KD.out hb); clear hb)
        go_roundw
        case rel => exact ⟨k + 1, by omega, by go_num, KD.out⟩
        case measure => simp [intOf]; omega
      · obtain rfl : k = E.length := by omega
        go_upto_region 13 with ((with_reducible refine gate_builtin (b := .append) (xs := #[.const (.slice none 0 0), .tmp 87]) rfl ?_); at_builtin; refine Kd.R_append_rows k8 (w0 := w1) w1.heap.size rfl (.const (.slice none 0 0)) (.tmp 87) 23 5 (.int .u8 0) 1 rfl Try.underlying23 info8 rfl (by decide) (by omega) (.slice none 0 0) [] E _ _ _ (fun j => w1.heap.size ≤ j) (fun _ => False) rfl rfl (Kd.R_nil _ _ _ _ _) (Kd.C_below C1.out.2 KD.out) (fun _ _ h => h) (fun _ h => h.elim) (fun k hk => Nat.le_trans KD.out.size hk) KD.out KD.out.size (by have := h10E.out; simp; omega) ?_; intro v9 w9 ho hb hg_ hat; rw [List.nil_append] at ho; have O9 := Lib.hid ho; have KD := Lib.hid hb; clear ho hb hg_ hat)
        have ho := O9.out
        have lp := hposE.out
        obtain ⟨g9, cap9, rfl, hg9, _⟩ := Kd.R_form ho lp
        obtain ⟨e, he⟩ : ∃ e, e + 1 = E.length := ⟨E.length - 1, by omega⟩
        obtain ⟨hc9, hf9⟩ := Kd.R_cell (0 : Int) ho (e : Int) (by omega) (by omega)
        obtain ⟨e2, q1, q2, q3⟩ := HLAST.out
        obtain rfl : e2 = e := by omega
        have hx : rdOf 0 E (e2 : Int) = E.getD e2 0 := by show E.getD (e2 : Int).toNat 0 = _; rw [Int.toNat_natCast]
        rw [hx, Int.toNat_natCast] at hc9
        rw [Int.toNat_natCast] at hf9
        have hxb := HB.out.at (j := e2) (by omega)
        obtain ⟨O10, hg10⟩ := Kd.R_put ho (e2 : Int) (E.getD e2 0 + 128)
        have eL : E.set (e2 : Int).toNat (E.getD e2 0 + 128) = longer E := by unfold longer; rw [Int.toNat_natCast, show E.length - 1 = e2 by omega]
        rw [eL, Int.toNat_natCast] at O10
        rw [Int.toNat_natCast] at hg10
        have hll := longer_length E
        have KD10 := grown_below KD.out KD.out.size hg10 (fun k hk => by injection hk with hk; omega)
        generalize E.getD e2 0 = x at *
        have hsum : IntKind.u8.wrap (x + 128) = x + 128 := by simp [IntKind.wrap, IntKind.bits, IntKind.signed]; omega
        rw [← he] at O10 hll
        rw [← he]
        have O10 := Lib.hid O10
        have KD := Lib.hid KD10
        have HLL := Lib.hid hll
        have lx2 : (e2 : Int) ≤ 100 := by omega
        have C1 := Lib.hid C1.out
        clear ho O9 hx hxb eL hg10 KD10 q1 q2 q3 he lp hposE lx hk hlt
        go_upto_region 14 with (fail)
        clear hc9 hf9 hsum
        generalize w9.setCell ⟨g9, e2, none⟩ (.int .u8 (x + 128)) = W10 at *
        have O11 := Lib.hid (Kd.R_alloc O10.out (.cells #[.int .u8 0] 5))
        have C11 := Lib.hid (C_one .u8 5 W10 0)
        have KD11 := Lib.hid (below_alloc KD.out (.cells #[.int .u8 0] 5))
        have LL2 := Lib.hid (show (longer E ++ [0]).length = e2 + 2 by rw [List.length_append, HLL.out]; rfl)
        have LL3 := Lib.hid (show (longer E ++ [0]).length ≤ 10000000 by rw [LL2.out]; omega)
        go_wp2_with (first | ((with_reducible refine gate_builtin (b := .append) (xs := #[.tmp 97, .tmp 98]) rfl ?_); at_builtin; refine Kd.R_append_rows k8 (w0 := w1) w1.heap.size rfl (.tmp 97) (.tmp 98) 23 5 (.int .u8 0) 1 rfl Try.underlying23 info8 rfl (by decide) (by omega) (.slice (some ⟨g9, 0, none⟩) (e2 + 1) cap9) (longer E) [0] _ _ _ (fun j => w1.heap.size ≤ j) (fun _ => False) rfl rfl O11.out C11.out (fun _ _ h => h) (fun _ h => h.elim) (fun k hk => Nat.le_trans KD11.out.size hk) KD11.out KD11.out.size (by rw [HLL.out]; omega) ?_; intro v12 w12 ho hb hg_ hat; obtain ⟨A12, c12, rfl, _, hC12⟩ := Kd.R_reads ho; rw [LL2.out] at hC12; rw [LL2.out]; have C12 := Lib.hid hC12; have KD := Lib.hid hb; clear ho hb hg_ hat hC12) | (go_at_call 19; (with_reducible refine (first_n A12 c12 (e2 + 2) (longer E ++ [0]) _ C12.out LG.out.2 LL3.out 12 (by decide) LG.out.1).mono ?_); rintro en w13 ⟨rfl, hb⟩; have KD := Lib.hid (below_step KD.out hb); clear hb) | (go_at_call 20; refine (known_any _).mono ?_; rintro en w14 ⟨rfl, hb⟩; have KD := Lib.hid (below_step KD.out hb); clear hb))
        go_ret
        exact ⟨rfl, below_step KB.out KD.out⟩)
theorem wf_u64 {n : Int} (h : (Lit.int .u64 n).wf = true) : 0 ≤ n ∧ n ≤ 18446744073709551615 := by
  simp only [Lit.wf, Bool.and_eq_true, decide_eq_true_eq] at h
  exact ⟨by have := h.1; simpa [IntKind.min, IntKind.signed] using this, by have := h.2; simp [IntKind.max, IntKind.signed, IntKind.bits] at this; omega⟩
theorem wf_i64 {n : Int} (h : (Lit.int .i64 n).wf = true) : -9223372036854775808 ≤ n ∧ n ≤ 9223372036854775807 := by
  simp only [Lit.wf, Bool.and_eq_true, decide_eq_true_eq] at h
  exact ⟨by have := h.1; simpa [IntKind.min, IntKind.signed, IntKind.bits] using this, by have := h.2; simp [IntKind.max, IntKind.signed, IntKind.bits] at this; omega⟩
theorem wf_u8 {n : Int} (h : (Lit.int .u8 n).wf = true) : 0 ≤ n ∧ n ≤ 255 := by
  simp only [Lit.wf, Bool.and_eq_true, decide_eq_true_eq] at h
  exact ⟨by have := h.1; simpa [IntKind.min, IntKind.signed] using this, by have := h.2; simp [IntKind.max, IntKind.signed, IntKind.bits] at this; omega⟩
end Go.Proofs.Ytfcpofkhcfilmaa.Vn
