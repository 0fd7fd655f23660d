/- VarintReads of layer 1: the walk. -/
import Derived.Test.YtfcpofkhcfilmaaVa
namespace Go.Proofs.Ytfcpofkhcfilmaa.Vn
open Go.RowKit Go.Proofs Go.Proofs.YtfcpofkhcfilmaaW.PrintWords Go.Proofs.Ytfcpofkhcfilmaa.Kit Go.Proofs.Ytfcpofkhcfilmaa.PVarintWrites
set_option linter.unusedSimpArgs false
set_option linter.unusedVariables false

theorem left_s {g : Nat} {A : Option Addr} {c : Nat} {xs : List Int} {p : Nat} (w : World) (h : Rd w g A c xs p) (z : Int) (hz : ((xs.length - p : Nat) : Int) = z) : Calls Try.prog 29 #[.pointer (some ⟨g, 0, none⟩)] w (BeP (.int .i64 z) w) := by
  subst hz; exact qu_be (left_any w h)
def d59 : Kd (Int × Int × Int) := Kd.pair (Kd.int .i64) (Kd.pair (Kd.int .u64) (Kd.int .i64))
def z59 : Int × Int × Int := (0, 0, 0)
theorem at_ask {w : World} {A : Option Addr} {n : Nat} {xs : List (Int × Int × Int)} (h : d59.C w A n xs) (k : Nat) (hk : k < n) : ∃ ad, A = some ad ∧ w.cell? (ad.add (k * 3)) = some (.int .i64 (xs.getD k z59).1) ∧ w.cell? ⟨(ad.add (k * 3)).block, (ad.add (k * 3)).off + 1, none⟩ = some (.int .u64 (xs.getD k z59).2.1) ∧ w.cell? ⟨(ad.add (k * 3)).block, (ad.add (k * 3)).off + 2, none⟩ = some (.int .i64 (xs.getD k z59).2.2) := by
  obtain ⟨ad, c, e, _, hK, hc0⟩ := Kd.C_get h z59 (k : Int) (by omega) (by omega)
  rw [Int.toNat_natCast] at hK hc0
  have hc : ∀ j u, c[j]? = some u → w.cell? (ad.add (k * 3 + j)) = some u := hc0
  obtain ⟨_, _, rfl, hx, ⟨_, _, rfl, hy, hz⟩⟩ := hK
  cases hx
  cases hy
  cases hz
  exact ⟨ad, e, hc 0 _ rfl, by rw [← add_field _ _ 1 (by omega)]; exact hc 1 _ rfl, by rw [← add_field _ _ 2 (by omega)]; exact hc 2 _ rfl⟩

set_option maxHeartbeats 8000000 in
set_option maxRecDepth 100000 in
theorem varintReads_walk (A1 : Option Addr) (c1 : Nat) (bs : List Int) (A2 : Option Addr) (c2 : Nat) (qs : List (Int × Int × Int)) (w : World) (hx : k8.C w A1 bs.length bs) (hc : bs.length ≤ c1) (hb : Bys bs) (hy : d59.C w A2 qs.length qs)
    (hok : ∀ a ∈ qs, -9223372036854775808 ≤ a.2.2 ∧ a.2.2 ≤ 9223372036854775807) : Calls Try.prog 7 #[.slice A1 bs.length c1, .slice A2 qs.length c2] w (YepP w) := by
  have lx : bs.length ≤ 9223372036854775807 := hx.2.1
  have ly : qs.length ≤ 9223372036854775807 := hy.2.1
  have HC1 := Lib.hid (And.intro hc hx)
  have HB := Lib.hid hb
  have HY := Lib.hid hy
  have OK := Lib.hid hok
  clear hx hc hb hy hok
  by_cases hl : bs.length ≤ 300
  · have hd : decide ((300 : Int) < (bs.length : Int)) = false := decide_eq_false (by omega)
    by_cases hs : qs.length ≤ 60
    · have hd2 : decide ((60 : Int) < (qs.length : Int)) = false := decide_eq_false (by omega)
      have HL := Lib.hid hl
      clear hs hl
      go_enter Try.func7, Try.ntmps7
      go_upto_region 7 with (first | ((with_reducible refine gate_builtin (b := .append) (xs := #[.const (.slice none 0 0), .tmp 22]) rfl ?_); at_builtin; refine Kd.R_append_rows k8 (w0 := w) w.heap.size rfl (.const (.slice none 0 0)) (.tmp 22) 23 5 (.int .u8 0) 1 rfl Try.underlying23 info8 rfl (by decide) (by omega) (.slice none 0 0) [] bs _ _ _ (fun j => w.heap.size ≤ j) (fun _ => False) rfl rfl (Kd.R_nil _ _ _ _ _) HC1.out.2 (fun _ _ h => h) (fun _ h => h.elim) (fun k hk => hk) (Below.refl _ _) (Nat.le_refl _) (by have := HL.out; simp; omega) ?_; intro v9 w9 ho hb hg_ hat; rw [List.nil_append] at ho; obtain ⟨A9, c9, rfl, hc9, hC9⟩ := Kd.R_reads ho; have HO := Lib.hid (Kd.R_mono (Kd.R_bound ho) (fun j hj => (⟨hj.1, hj.2.2.1⟩ : w.heap.size ≤ j ∧ j < w9.heap.size))); have KB := Lib.hid hb; have C9 := Lib.hid hC9; clear ho hb hg_ hat hC9 hc9) | (go_at_call 15; refine (new_any A9 c9 bs _ C9.out (by have := HL.out; omega)).mono ?_; rintro en wR hnew; obtain ⟨g, A, c, rfl, hN, hlt, hb⟩ := newq hnew; have GE := Lib.hid (Nat.le_trans KB.out.size hN.2.1); have KB := Lib.hid (below_step KB.out hb); have R := Lib.hid hN; have HO := Lib.hid (Kd.R_below HO.out hb); clear hnew hN hlt hb))
      clear C9 hd hd2
      go_wp2
      go_loopw [30] (fun i wr => ∃ (j : Nat) (zs : List Int), j ≤ bs.length ∧ i = .int .i64 j ∧ zs.length = bs.length ∧ NewR w9.heap.size wr g A c bs 0 ∧ Below w.heap.size w wr ∧ k8.R 5 wr w.heap.size (fun j => w.heap.size ≤ j ∧ j < w9.heap.size) (.slice A9 bs.length c9) zs) (fun i _ => (bs.length : Int).toNat - (intOf i).toNat)
      case atStart => exact ⟨0, bs, by omega, rfl, rfl, R.out, KB.out, HO.out⟩
      case round =>
        clear R KB HO
        obtain ⟨j, zs, hj, rfl, hlz, hR, hKB, hO⟩ := hrel
        have R := Lib.hid hR
        have KB := Lib.hid hKB
        clear hR hKB
        by_cases hlj : j < bs.length
        · obtain ⟨g9, cap9, hv9, _, _, _⟩ := Kd.R_form hO (by omega)
          injection hv9 with hA9 hn9 hc9
          subst hA9
          subst hc9
          have hO2 := hO
          rw [← hlz] at hO2
          obtain ⟨hcj, hfj⟩ := Kd.R_cell (0 : Int) hO2 (j : Int) (by omega) (by omega)
          have hput := fun x => (Kd.R_put hO2 (j : Int) x).1
          have h9 := hO.1 g9 (by simp [Value.ownBlock])
          rw [Int.toNat_natCast] at hcj hfj
          simp only [Int.toNat_natCast, hlz] at hput
          generalize rdOf 0 zs (j : Int) = xj at hcj
          have HP := Lib.hid hput
          have R := Lib.hid (fun u => R.out.frame (Fr.set wr g9 j u) h9.2)
          have KB := Lib.hid (fun u => Fr.to_below KB.out (Fr.set wr g9 j u) KB.out.size (fun i e => by subst e; exact h9.1))
          have HLZ2 := Lib.hid hlz
          clear hput hO hO2 hlz hn9 h9
          go_wp2
          go_roundw
          case rel => exact ⟨j + 1, zs.set j _, by omega, by go_num, by rw [List.length_set]; exact HLZ2.out, R.out _, KB.out _, HP.out _⟩
          case measure => simp [intOf]; omega
        · clear hO hlz
          have R := Lib.hid R.out.rd
          go_wp2
          go_loopw [6, 8, 42] (fun r at_ i wr => ∃ (k g p : Nat), k ≤ qs.length ∧ i = .int .i64 k ∧ r = .pointer (some ⟨g, 0, none⟩) ∧ at_ = .int .i64 p ∧ Rd wr g A c bs p ∧ w.heap.size ≤ g ∧ Below w.heap.size w wr) (fun _ _ i _ => (qs.length : Int).toNat - (intOf i).toNat)
          case atStart => exact ⟨0, g, 0, by omega, rfl, rfl, rfl, R.out, GE.out, KB.out⟩
          case round =>
            clear R KB GE
            obtain ⟨k, g, p, hk, rfl, rfl, rfl, hR, hGE, hKB⟩ := hrel
            have R := Lib.hid hR
            have KB := Lib.hid hKB
            have GE := Lib.hid hGE
            clear hR hKB hGE
            by_cases hlt : k < qs.length
            · obtain ⟨ad, eA, q0, q1, q2⟩ := at_ask HY.out k hlt
              subst eA
              have hmem : qs.getD k z59 ∈ qs := by rw [List.getD_eq_getElem?_getD, List.getElem?_eq_getElem hlt]; exact List.getElem_mem hlt
              have hf2 := OK.out _ hmem
              have q0 := cell_below q0 KB.out
              have q1 := cell_below q1 KB.out
              have q2 := cell_below q2 KB.out
              generalize qs.getD k z59 = a at *
              obtain ⟨f0, f1, f2⟩ := a
              have HF2 := Lib.hid hf2
              clear hmem hf2
              simp only at q0 q1 q2
              go_upto_region 16 with (fail)
              have HBX := Lib.hid (blk_new wr (.cells #[.int .i64 f0, .int .u64 f1, .int .i64 f2] 59))
              have hb6 := below_alloc (Below.refl wr.heap.size wr) (.cells #[.int .i64 f0, .int .u64 f1, .int .i64 f2] 59)
              have N6 := Lib.hid (show wr.heap.size ≠ g from Nat.ne_of_gt (blk_lt R.out.own))
              have R := Lib.hid (R.out.below hb6)
              have KB := Lib.hid (below_step KB.out hb6)
              have hbx := HBX.out
              have p0 := (blk_cell hbx 0).trans rfl
              have p1 := (blk_cell hbx 1).trans rfl
              have p2 := (blk_cell hbx 2).trans rfl
              clear hb6 q0 q1 q2 hbx
              generalize wr.alloc (.cells #[.int .i64 f0, .int .u64 f1, .int .i64 f2] 59) = w6 at *
              generalize wr.heap.size = g6 at *
              by_cases hneg : f0 < 0
              · have hd : decide (f0 < 0) = true := decide_eq_true hneg
                clear hneg
                have hrt := rdr_total (bs.drop p)
                obtain ⟨v, s, e, hr⟩ := hrt
                have HR := Lib.hid hr
                clear hr
                go_upto_region 27 with (first | (go_at_call 34; refine (copy_rd _ R.out).mono ?_; rintro en w11 ⟨g2, rfl, h1, h2, hb⟩; have N2 := Lib.hid (show g2 ≠ g by have := blk_lt R.out.own; omega); have GE2 := Lib.hid (Nat.le_trans KB.out.size h2); have R := Lib.hid (R.out.below hb); have R2 := Lib.hid h1; have KB := Lib.hid (below_step KB.out hb); clear h1 h2 hb) | (go_at_call 33; refine (rdnum_any _ R.out HB.out 1099511627776 HR.out).mono ?_; rintro en w12 ⟨rfl, h1, hF⟩; have R2 := Lib.hid (R2.out.frame hF N2.out R.out.ne); have KB := Lib.hid (Fr.to_below KB.out hF KB.out.size (fun i e => e ▸ GE.out)); have R := Lib.hid h1; clear h1 hF) | (go_at_call 35; refine (raw_rd _ R.out 1).mono ?_; rintro en w13 ⟨v13, rfl, _, h1, hF⟩; have R2 := Lib.hid (R2.out.frame hF N2.out R.out.ne); have KB := Lib.hid (Fr.to_below KB.out hF KB.out.size (fun i e => e ▸ GE.out)); clear h1 hF R))
                clear GE
                have GE := Lib.hid GE2.out
                have R := Lib.hid R2.out
                clear R2 GE2 N2 HR
                have hq3 : p < bs.length ∨ p = bs.length := by have := R.out.le; omega
                rcases hq3 with hq3 | hq3
                · have h1 : decide (p < bs.length) = true := decide_eq_true hq3
                  have h2 : (p == bs.length) = false := beq_eq_false_iff_ne.2 (by omega)
                  have h3 : decide ((p : Int) < (bs.length : Int)) = true := decide_eq_true (by omega)
                  have h4 : ((p : Int) == (bs.length : Int)) = false := beq_eq_false_iff_ne.2 (by omega)
                  have EN := Lib.hid (show (if p < bs.length then (12 : Int) else 0) = 12 from if_pos hq3)
                  have LF := Lib.hid (show ((bs.length - p : Nat) : Int) = (bs.length : Int) - p by omega)
                  have hqb : (p : Int) ≤ 1000 := by have := HL.out; omega
                  have hlb : (bs.length : Int) ≤ 1000 := by have := HL.out; omega
                  clear hq3
                  go_wp2_with (first | (go_at_call 32; refine (at_s _ R.out p rfl).mono ?_; rintro en w20 ⟨rfl, hb⟩; have KB := Lib.hid (below_step KB.out hb); have R := Lib.hid (R.out.below hb); clear hb) | (go_at_call 29; refine (left_s _ R.out _ LF.out).mono ?_; rintro en w20 ⟨rfl, hb⟩; have KB := Lib.hid (below_step KB.out hb); have R := Lib.hid (R.out.below hb); clear hb) | (go_at_call 17; refine (end_s _ R.out _ EN.out).mono ?_; rintro en w20 ⟨rfl, hb⟩; have KB := Lib.hid (below_step KB.out hb); have R := Lib.hid (R.out.below hb); clear hb))
                  go_roundw
                  case rel => exact ⟨k + 1, g2, p, by omega, by go_num, rfl, rfl, R.out, GE.out, KB.out⟩
                  case measure => simp [intOf]; omega
                · have h1 : decide (p < bs.length) = false := decide_eq_false (by omega)
                  have h2 : (p == bs.length) = true := beq_iff_eq.2 hq3
                  have h3 : decide ((p : Int) < (bs.length : Int)) = false := decide_eq_false (by omega)
                  have h4 : ((p : Int) == (bs.length : Int)) = true := beq_iff_eq.2 (by omega)
                  have EN := Lib.hid (show (if p < bs.length then (12 : Int) else 0) = 0 from if_neg (by omega))
                  have LF := Lib.hid (show ((bs.length - p : Nat) : Int) = (bs.length : Int) - p by omega)
                  have hqb : (p : Int) ≤ 1000 := by have := HL.out; omega
                  have hlb : (bs.length : Int) ≤ 1000 := by have := HL.out; omega
                  clear hq3
                  go_wp2_with (first | (go_at_call 32; refine (at_s _ R.out p rfl).mono ?_; rintro en w20 ⟨rfl, hb⟩; have KB := Lib.hid (below_step KB.out hb); have R := Lib.hid (R.out.below hb); clear hb) | (go_at_call 29; refine (left_s _ R.out _ LF.out).mono ?_; rintro en w20 ⟨rfl, hb⟩; have KB := Lib.hid (below_step KB.out hb); have R := Lib.hid (R.out.below hb); clear hb) | (go_at_call 17; refine (end_s _ R.out _ EN.out).mono ?_; rintro en w20 ⟨rfl, hb⟩; have KB := Lib.hid (below_step KB.out hb); have R := Lib.hid (R.out.below hb); clear hb))
                  go_roundw
                  case rel => exact ⟨k + 1, g2, p, by omega, by go_num, rfl, rfl, R.out, GE.out, KB.out⟩
                  case measure => simp [intOf]; omega
              · have hd : decide (f0 < 0) = false := decide_eq_false hneg
                by_cases hbig : 3 < f0
                · have hd2 : decide (3 < f0) = true := decide_eq_true hbig
                  clear hneg hbig
                  have hrt := rdr_total (bs.drop p)
                  obtain ⟨v, s, e, hr⟩ := hrt
                  have HR := Lib.hid hr
                  clear hr
                  go_upto_region 27 with (first | (go_at_call 34; refine (copy_rd _ R.out).mono ?_; rintro en w11 ⟨g2, rfl, h1, h2, hb⟩; have N2 := Lib.hid (show g2 ≠ g by have := blk_lt R.out.own; omega); have GE2 := Lib.hid (Nat.le_trans KB.out.size h2); have R := Lib.hid (R.out.below hb); have R2 := Lib.hid h1; have KB := Lib.hid (below_step KB.out hb); clear h1 h2 hb) | (go_at_call 33; refine (rdnum_any _ R.out HB.out 1099511627776 HR.out).mono ?_; rintro en w12 ⟨rfl, h1, hF⟩; have R2 := Lib.hid (R2.out.frame hF N2.out R.out.ne); have KB := Lib.hid (Fr.to_below KB.out hF KB.out.size (fun i e => e ▸ GE.out)); have R := Lib.hid h1; clear h1 hF) | (go_at_call 35; refine (raw_rd _ R.out 1).mono ?_; rintro en w13 ⟨v13, rfl, _, h1, hF⟩; have R2 := Lib.hid (R2.out.frame hF N2.out R.out.ne); have KB := Lib.hid (Fr.to_below KB.out hF KB.out.size (fun i e => e ▸ GE.out)); clear h1 hF R))
                  clear GE
                  have GE := Lib.hid GE2.out
                  have R := Lib.hid R2.out
                  clear R2 GE2 N2 HR
                  have hq3 : p < bs.length ∨ p = bs.length := by have := R.out.le; omega
                  rcases hq3 with hq3 | hq3
                  · have h1 : decide (p < bs.length) = true := decide_eq_true hq3
                    have h2 : (p == bs.length) = false := beq_eq_false_iff_ne.2 (by omega)
                    have h3 : decide ((p : Int) < (bs.length : Int)) = true := decide_eq_true (by omega)
                    have h4 : ((p : Int) == (bs.length : Int)) = false := beq_eq_false_iff_ne.2 (by omega)
                    have EN := Lib.hid (show (if p < bs.length then (12 : Int) else 0) = 12 from if_pos hq3)
                    have LF := Lib.hid (show ((bs.length - p : Nat) : Int) = (bs.length : Int) - p by omega)
                    have hqb : (p : Int) ≤ 1000 := by have := HL.out; omega
                    have hlb : (bs.length : Int) ≤ 1000 := by have := HL.out; omega
                    clear hq3
                    go_wp2_with (first | (go_at_call 32; refine (at_s _ R.out p rfl).mono ?_; rintro en w20 ⟨rfl, hb⟩; have KB := Lib.hid (below_step KB.out hb); have R := Lib.hid (R.out.below hb); clear hb) | (go_at_call 29; refine (left_s _ R.out _ LF.out).mono ?_; rintro en w20 ⟨rfl, hb⟩; have KB := Lib.hid (below_step KB.out hb); have R := Lib.hid (R.out.below hb); clear hb) | (go_at_call 17; refine (end_s _ R.out _ EN.out).mono ?_; rintro en w20 ⟨rfl, hb⟩; have KB := Lib.hid (below_step KB.out hb); have R := Lib.hid (R.out.below hb); clear hb))
                    go_roundw
                    case rel => exact ⟨k + 1, g2, p, by omega, by go_num, rfl, rfl, R.out, GE.out, KB.out⟩
                    case measure => simp [intOf]; omega
                  · have h1 : decide (p < bs.length) = false := decide_eq_false (by omega)
                    have h2 : (p == bs.length) = true := beq_iff_eq.2 hq3
                    have h3 : decide ((p : Int) < (bs.length : Int)) = false := decide_eq_false (by omega)
                    have h4 : ((p : Int) == (bs.length : Int)) = true := beq_iff_eq.2 (by omega)
                    have EN := Lib.hid (show (if p < bs.length then (12 : Int) else 0) = 0 from if_neg (by omega))
                    have LF := Lib.hid (show ((bs.length - p : Nat) : Int) = (bs.length : Int) - p by omega)
                    have hqb : (p : Int) ≤ 1000 := by have := HL.out; omega
                    have hlb : (bs.length : Int) ≤ 1000 := by have := HL.out; omega
                    clear hq3
                    go_wp2_with (first | (go_at_call 32; refine (at_s _ R.out p rfl).mono ?_; rintro en w20 ⟨rfl, hb⟩; have KB := Lib.hid (below_step KB.out hb); have R := Lib.hid (R.out.below hb); clear hb) | (go_at_call 29; refine (left_s _ R.out _ LF.out).mono ?_; rintro en w20 ⟨rfl, hb⟩; have KB := Lib.hid (below_step KB.out hb); have R := Lib.hid (R.out.below hb); clear hb) | (go_at_call 17; refine (end_s _ R.out _ EN.out).mono ?_; rintro en w20 ⟨rfl, hb⟩; have KB := Lib.hid (below_step KB.out hb); have R := Lib.hid (R.out.below hb); clear hb))
                    go_roundw
                    case rel => exact ⟨k + 1, g2, p, by omega, by go_num, rfl, rfl, R.out, GE.out, KB.out⟩
                    case measure => simp [intOf]; omega
                · have hd2 : decide (3 < f0) = false := decide_eq_false hbig
                  clear hneg hbig
                  obtain ⟨A5, k1, k2, k3⟩ := drop8 A1 c1 bs p R.out.le HC1.out.1
                  have hC5 := k2 w HC1.out.2
                  generalize hl : bs.drop p = l at *
                  have HLL := Lib.hid hl
                  have C5 := Lib.hid hC5
                  have K3 := Lib.hid k3
                  have hne : ∀ ad, A5 = some ad → 0 < l.length → ad.block ≠ g := fun ad e hp => by have := C_lt hC5 e hp; have := GE.out; omega
                  have NE := Lib.hid hne
                  clear k2 k3 hC5 hl hne
                  go_upto_region 23 with (fail)
                  have hd0 := below_drew (Below.refl w6.heap.size w6)
                  have R0 := Lib.hid (R.out.below hd0)
                  have KB0 := Lib.hid (below_step KB.out hd0)
                  have hbx0 := blk_below HBX.out hd0
                  have HB0 := Lib.hid hbx0
                  have p00 := (blk_cell hbx0 0).trans rfl
                  have p10 := (blk_cell hbx0 1).trans rfl
                  have p20 := (blk_cell hbx0 2).trans rfl
                  go_region_held3 (fun w' => w'.cell? ⟨g6, 0, none⟩ = some (.int .i64 f0) ∧ w'.cell? ⟨g6, 1, none⟩ = some (.int .u64 f1) ∧ w'.cell? ⟨g6, 2, none⟩ = some (.int .i64 f2)) (refine ⟨?_, ?_, ?_⟩ <;> assumption) (first | (go_at_call 36; (refine (asks_any _ R0.out HB.out A5 (c1 - p) HLL.out (Kd.C_below C5.out KB0.out) K3.out NE.out f0 f1 f2 HF2.out).mono ?_); rintro en w14 ⟨d, rfl, h1, hF⟩; have hb3 := hF.blk HB0.out N6.out; have p01 := (blk_cell hb3 0).trans rfl; have p11 := (blk_cell hb3 1).trans rfl; have p21 := (blk_cell hb3 2).trans rfl; have hdd : decide ((d : Int) < 0) = false := decide_eq_false (by omega); have hpd1 : (p : Int) + d ≤ 1000 := (by have := h1.le; have := HL.out; omega); have R2 := Lib.hid h1; have KB2 := Lib.hid (Fr.to_below KB0.out hF KB0.out.size (fun i e => e ▸ GE.out)); clear h1 hF hb3))
                  go_upto_region 27 with (fail)
                  have R := Lib.hid R2.out
                  have KB := Lib.hid KB2.out
                  clear R2 KB2 R0 KB0
                  obtain ⟨q, hq⟩ : ∃ q, p + d = q := ⟨_, rfl⟩
                  rw [hq] at R
                  have hq2 : (p : Int) + (d : Int) = (q : Int) := by omega
                  rw [hq2]
                  clear hq hq2 hpd1 hdd
                  have hq3 : q < bs.length ∨ q = bs.length := by have := R.out.le; omega
                  rcases hq3 with hq3 | hq3
                  · have h1 : decide (q < bs.length) = true := decide_eq_true hq3
                    have h2 : (q == bs.length) = false := beq_eq_false_iff_ne.2 (by omega)
                    have h3 : decide ((q : Int) < (bs.length : Int)) = true := decide_eq_true (by omega)
                    have h4 : ((q : Int) == (bs.length : Int)) = false := beq_eq_false_iff_ne.2 (by omega)
                    have EN := Lib.hid (show (if q < bs.length then (12 : Int) else 0) = 12 from if_pos hq3)
                    have LF := Lib.hid (show ((bs.length - q : Nat) : Int) = (bs.length : Int) - q by omega)
                    have hqb : (q : Int) ≤ 1000 := by have := HL.out; omega
                    have hlb : (bs.length : Int) ≤ 1000 := by have := HL.out; omega
                    clear hq3
                    go_wp2_with (first | (go_at_call 32; refine (at_s _ R.out q rfl).mono ?_; rintro en w20 ⟨rfl, hb⟩; have KB := Lib.hid (below_step KB.out hb); have R := Lib.hid (R.out.below hb); clear hb) | (go_at_call 29; refine (left_s _ R.out _ LF.out).mono ?_; rintro en w20 ⟨rfl, hb⟩; have KB := Lib.hid (below_step KB.out hb); have R := Lib.hid (R.out.below hb); clear hb) | (go_at_call 17; refine (end_s _ R.out _ EN.out).mono ?_; rintro en w20 ⟨rfl, hb⟩; have KB := Lib.hid (below_step KB.out hb); have R := Lib.hid (R.out.below hb); clear hb))
                    go_roundw
                    case rel => exact ⟨k + 1, g, q, by omega, by go_num, rfl, rfl, R.out, GE.out, KB.out⟩
                    case measure => simp [intOf]; omega
                  · have h1 : decide (q < bs.length) = false := decide_eq_false (by omega)
                    have h2 : (q == bs.length) = true := beq_iff_eq.2 hq3
                    have h3 : decide ((q : Int) < (bs.length : Int)) = false := decide_eq_false (by omega)
                    have h4 : ((q : Int) == (bs.length : Int)) = true := beq_iff_eq.2 (by omega)
                    have EN := Lib.hid (show (if q < bs.length then (12 : Int) else 0) = 0 from if_neg (by omega))
                    have LF := Lib.hid (show ((bs.length - q : Nat) : Int) = (bs.length : Int) - q by omega)
                    have hqb : (q : Int) ≤ 1000 := by have := HL.out; omega
                    have hlb : (bs.length : Int) ≤ 1000 := by have := HL.out; omega
                    clear hq3
                    go_wp2_with (first | (go_at_call 32; refine (at_s _ R.out q rfl).mono ?_; rintro en w20 ⟨rfl, hb⟩; have KB := Lib.hid (below_step KB.out hb); have R := Lib.hid (R.out.below hb); clear hb) | (go_at_call 29; refine (left_s _ R.out _ LF.out).mono ?_; rintro en w20 ⟨rfl, hb⟩; have KB := Lib.hid (below_step KB.out hb); have R := Lib.hid (R.out.below hb); clear hb) | (go_at_call 17; refine (end_s _ R.out _ EN.out).mono ?_; rintro en w20 ⟨rfl, hb⟩; have KB := Lib.hid (below_step KB.out hb); have R := Lib.hid (R.out.below hb); clear hb))
                    go_roundw
                    case rel => exact ⟨k + 1, g, q, by omega, by go_num, rfl, rfl, R.out, GE.out, KB.out⟩
                    case measure => simp [intOf]; omega
            · go_wp2_with (go_at_call 20; refine (known_any _).mono ?_; rintro en w14 ⟨rfl, hb⟩; have KB := Lib.hid (below_step KB.out hb); clear hb)
              go_ret
              exact ⟨rfl, KB.out⟩
    · have hd2 : decide ((60 : Int) < (qs.length : Int)) = true := decide_eq_true (by omega)
      go_enter Try.func7, Try.ntmps7
      have KB := Lib.hid (Below.refl w.heap.size w)
      go_wp2_with (go_at_call 20; refine (known_any _).mono ?_; rintro en w14 ⟨rfl, hb⟩; have KB := Lib.hid (below_step KB.out hb); clear hb)
      go_ret
      exact ⟨rfl, KB.out⟩
  · have hd : decide ((300 : Int) < (bs.length : Int)) = true := decide_eq_true (by omega)
    go_enter Try.func7, Try.ntmps7
    have KB := Lib.hid (Below.refl w.heap.size w)
    go_wp2_with (go_at_call 20; refine (known_any _).mono ?_; rintro en w14 ⟨rfl, hb⟩; have KB := Lib.hid (below_step KB.out hb); clear hb)
    go_ret
    exact ⟨rfl, KB.out⟩
end Go.Proofs.Ytfcpofkhcfilmaa.Vn
