/- VarintHolds of layer 1: the walk. -/
import Derived.Test.YtfcpofkhcfilmaaVb
namespace Go.Proofs.Ytfcpofkhcfilmaa.Vn
open Go.RowKit Go.Proofs Go.Proofs.YtfcpofkhcfilmaaW.PrintWords Go.Proofs.Ytfcpofkhcfilmaa.Kit Go.Proofs.Ytfcpofkhcfilmaa.PVarintWrites
set_option linter.unusedSimpArgs false
set_option linter.unusedVariables false

theorem pcat_split (xs : List S48) (k : Nat) : pcat xs xs.length = pcat xs k ++ (xs.drop k).flatMap pbs := by
  unfold pcat
  rw [List.take_length, ← List.flatMap_append, List.take_append_drop]
theorem pcat_drop (xs : List S48) {k : Nat} (h : k < xs.length) : (pcat xs xs.length).drop (pcat xs k).length = pbs (xs.getD k z48) ++ (xs.drop (k + 1)).flatMap pbs := by
  rw [pcat_split xs (k + 1), pcat_succ xs h, List.append_assoc, List.drop_left]
theorem pcat_bys {xs : List S48} (h : ∀ j, j < xs.length → PartOk (xs.getD j z48)) : ∀ k, k ≤ xs.length → Bys (pcat xs k)
  | 0, _ => by unfold pcat Bys; simp
  | k + 1, hk => by
    rw [pcat_succ xs (by omega)]
    exact (pcat_bys h k (by omega)).app (pbs_bys (h k (by omega)))
theorem held_mono {P : Program} {md : Region.Mode} {ops : Array Oper} {Q : Exit → Act → World → Prop} {S S' : World → Prop} (hss : ∀ w, S' w → S w) : ∀ (fuel : Nat) (listed : Array Bool) (a : Act) (w : World), wpAnyH P md ops Q S' fuel listed a w → wpAnyH P md ops Q S fuel listed a w
  | 0, _, _, _, h => h
  | fuel + 1, _, _, _, h => ⟨h.1, fun i hi => wpOp_mono (fun a' w' h' => ⟨hss _ h'.1, held_mono hss fuel _ a' w' h'.2⟩) (h.2 i hi)⟩
theorem len_s (w0 w : World) (g : Nat) (v : Value) (xs : List Int) (h : Wr w0 w g v xs) (hl : xs.length ≤ 100000000) (z : Int) (hz : (xs.length : Int) = z) : Calls Try.prog 28 #[.pointer (some ⟨g, 0, none⟩)] w (BeP (.int .i64 z) w) := by
  subst hz
  exact (len_any w0 w g v xs h hl).mono fun _ _ h => h
theorem nn_self (n : Int) (s : Nat) (P : Nat) : nV n n 0 = n ∧ nE n n 0 = 0 ∧ P + nS n n s 0 = P + s := by
  unfold nV nE nS
  exact ⟨if_pos ⟨rfl, Int.le_refl _⟩, by rw [if_neg (by omega), if_neg (by omega)], by rw [if_pos ⟨rfl, Int.le_refl _⟩]; omega⟩
theorem hear_self (ys r : List Int) (P : Nat) (L : List Int) (hL : L = enc ys.length ++ ys ++ r) : hY L ys.length (enc ys.length).length 0 = ys ∧ hE ys.length ys.length (enc ys.length).length 0 L.length = 0 ∧ P + hS ys.length (enc ys.length).length 0 = P + (enc ys.length ++ ys).length := by
  subst hL
  refine ⟨?_, ?_, ?_⟩
  · unfold hY
    rw [if_pos rfl, Int.toNat_natCast, Int.toNat_natCast, List.append_assoc, List.drop_left, List.take_left]
  · unfold hE
    rw [if_neg (by simp), if_neg (by omega), if_neg (by simp only [List.length_append]; omega)]
  · unfold hS
    rw [if_pos rfl, List.length_append]; omega
theorem take_self (ys r : List Int) : tY ys.length (ys ++ r) = ys ∧ tE ys.length (ys ++ r) = 0 := by
  refine ⟨?_, ?_⟩
  · unfold tY
    rw [if_pos (by rw [List.length_append]; omega), Int.toNat_natCast, List.take_left]
  · unfold tE
    rw [if_neg (by omega), if_neg (by rw [List.length_append]; omega)]
/-- What was read, written again, is what was read. -/
theorem read_take {bs : List Int} {p : Nat} (hb : Bys bs) {v s : Int} (h : RdR (bs.drop p) v s 0) : ∃ S : Nat, s = S ∧ bs.take (p + S) = bs.take p ++ enc v.toNat := by
  cases h with
  | good e he hn =>
    refine ⟨e + 1, rfl, ?_⟩
    have h1 := read_enc e (bs.drop p) (hb.drop p) he.lt he.last he.more (fun hp h0 => hn (.inl ⟨hp, h0⟩))
    rw [h1, List.take_add]
/-- A reader is apart from what a writer owns. -/
def Sep (v : Value) (g : Nat) (A : Option Addr) (n : Nat) : Prop := some g ≠ v.ownBlock ∧ ∀ ad, A = some ad → 0 < n → some ad.block ≠ v.ownBlock
theorem Sep.wrote {w w1 : World} {ga g : Nat} {v v1 : Value} {A : Option Addr} {c : Nat} {xs : List Int} {p : Nat} (h : Sep v g A xs.length) (hR : Rd w g A c xs p) (hS : WrS w w1 ga v v1) : Sep v1 g A xs.length := by
  rcases hS.2 with q | ⟨b, q, hb⟩
  · exact ⟨by rw [q]; exact h.1, fun ad e hp => by rw [q]; exact h.2 ad e hp⟩
  · refine ⟨fun e => ?_, fun ad e hp e2 => ?_⟩
    · rw [q] at e; injection e with e; have := blk_lt hR.own; omega
    · rw [q] at e2; injection e2 with e2; have := C_lt hR.rd e hp; omega
theorem Sep.rd {w w1 : World} {ga g : Nat} {v v1 : Value} {A : Option Addr} {c : Nat} {xs : List Int} {p : Nat} (h : Sep v g A xs.length) (hg : g ≠ ga) (hA : ∀ ad, A = some ad → 0 < xs.length → ad.block ≠ ga) (hR : Rd w g A c xs p) (hS : WrS w w1 ga v v1) : Rd w1 g A c xs p :=
  hR.frame hS.1 (fun q => q.elim hg h.1) (fun ad e hp q => q.elim (hA ad e hp) (h.2 ad e hp))

set_option maxHeartbeats 8000000 in
set_option maxRecDepth 100000 in
theorem varintHolds_walk (A : Option Addr) (c : Nat) (xs : List S48) (A2 : Option Addr) (c2 : Nat) (bs : List Int) (w : World) (hx : k48.C w A xs.length xs) (hc : xs.length ≤ c)
    (hok : ∀ x ∈ xs, (0 ≤ x.f1 ∧ x.f1 ≤ 18446744073709551615) ∧ (-9223372036854775808 ≤ x.f2 ∧ x.f2 ≤ 9223372036854775807) ∧ Bys x.f3) (hy : k8.C w A2 bs.length bs) (hyc : bs.length ≤ c2) (hby : Bys bs) :
    Calls Try.prog 6 #[.slice A xs.length c, .slice A2 bs.length c2] w (YepP w) := by
  have lx : xs.length ≤ 9223372036854775807 := hx.2.1
  have ly : bs.length ≤ 9223372036854775807 := hy.2.1
  obtain ⟨r, hf, hs⟩ := small_l0 xs hx.2.1 41 0 rfl (fun j hj => by omega)
  have sm : ∀ w, k48.C w A xs.length xs → Calls Try.prog 25 #[.slice A xs.length c] w (BeP (.bool r) w) := fun w hx => by
    refine (redpencillaw01_small.calls 84 A c xs r w hx hc hf).mono ?_
    rintro en w' ⟨rfl, hd⟩
    obtain ⟨n, rfl⟩ := hd.out
    exact ⟨rfl, pw_below_drewN (Below.refl _ _) n⟩
  have SM := Lib.hid sm
  have HX := Lib.hid hx
  have HY := Lib.hid (And.intro hyc hy)
  have HBY := Lib.hid hby
  have OK := Lib.hid hok
  clear sm hf hx hok hy hyc hby
  cases r with
  | false =>
    clear hs
    go_enter Try.func6, Try.ntmps6
    go_wp2_with (first | (go_at_call 25; refine (SM.out _ HX.out).mono ?_; rintro en w1 ⟨rfl, hb⟩; have KD := Lib.hid hb; clear hb) | (go_at_call 20; refine (known_any _).mono ?_; rintro en w14 ⟨rfl, hb⟩; have KD := Lib.hid (below_step KD.out hb); clear hb))
    go_ret
    exact ⟨rfl, KD.out⟩
  | true =>
    obtain ⟨hl, hd⟩ := hs rfl
    by_cases hbl : bs.length ≤ 300
    · have hdb : decide ((300 : Int) < (bs.length : Int)) = false := decide_eq_false (by omega)
      have HBL := Lib.hid hbl
      have pok : ∀ j, j < xs.length → PartOk (xs.getD j z48) := fun j hj => by
        have e : xs.getD j z48 = xs[j] := by rw [List.getD_eq_getElem?_getD, List.getElem?_eq_getElem hj]; rfl
        have h1 := OK.out _ (List.getElem_mem hj)
        rw [← e] at h1
        exact ⟨h1.1.1, h1.1.2, h1.2.1.1, h1.2.1.2, h1.2.2, hd j hj⟩
      have POK := Lib.hid pok
      have PL := Lib.hid (pcat_length pok)
      have PB := Lib.hid (pcat_bys pok)
      clear hs hd pok OK hbl
      go_enter Try.func6, Try.ntmps6
      go_upto_region 4 with (first | (go_at_call 25; refine (SM.out _ HX.out).mono ?_; rintro en w1 ⟨rfl, hb⟩; have KD := Lib.hid hb; clear hb) | ((with_reducible refine gate_dst (N := 5) rfl ?_); refine box_event rfl (N := 5) rfl (cs := #[.slice none 0 0]) (t := 40) ?hr ?_; (case hr => first | (go_simp; done) | (go_simp; rfl)); intro g hg w2 hbox hb; have HW := Lib.hid (wr_box KD.out hg hbox hb); clear hb hbox hg))
      clear hdb
      go_wp2
      go_loopw [29] (fun i wr => ∃ (k : Nat) (v : Value), k ≤ xs.length ∧ i = .int .i64 k ∧ Wr w wr g v (pcat xs k)) (fun i _ => (xs.length : Int).toNat - (intOf i).toNat)
      case atStart => exact ⟨0, _, by omega, rfl, HW.out⟩
      case round =>
        clear HW KD
        obtain ⟨k, v, hk, rfl, hW⟩ := hrel
        have HW := Lib.hid hW
        clear hW
        by_cases hlt : k < xs.length
        · obtain ⟨ad, A3, c3, eA, q0, q1, q2, q3, l3, g3⟩ := at_T48 HX.out (k : Int) (by omega) (by omega)
          subst eA
          have hrd : rd_T48 xs (k : Int) = xs.getD k z48 := by unfold rd_T48; rw [Int.toNat_natCast]
          rw [hrd, Int.toNat_natCast] at q0 q1 q2 q3
          rw [hrd] at l3 g3
          have hp := POK.out k hlt
          have hpl := pbs_length hp
          have hpc := PL.out k (by omega)
          have hcat := pcat_succ xs hlt
          have q0 := cell_below q0 HW.out.bel
          have q1 := cell_below q1 HW.out.bel
          have q2 := cell_below q2 HW.out.bel
          have q3 := cell_below q3 HW.out.bel
          generalize xs.getD k z48 = x at *
          obtain ⟨f0, f1, f2, ys⟩ := x
          have HP := Lib.hid hp
          have HPC := Lib.hid (And.intro hpl hpc)
          have HCAT := Lib.hid hcat
          have G3 := Lib.hid (And.intro l3 g3)
          clear hp hpl hpc hcat l3 g3
          simp only at q0 q1 q2 q3
          have LEN1 := Lib.hid (show (pcat xs k).length + ys.length ≤ 10000000 by have h0 : ys.length ≤ 300 := HP.out.len; have := HPC.out; omega)
          have hz := zig_in HP.out.s0 HP.out.s1
          have ZG := Lib.hid (zig_b f2 _ HP.out.s0 HP.out.s1 rfl)
          have ZA := Lib.hid (zag_b (zig f2) f2 hz.1 hz.2 (zag_zig f2))
          clear hz
          go_upto_region 7 with (fail)
          have HBX := Lib.hid (blk_new wr (.cells #[.int .i64 f0, .int .u64 f1, .int .i64 f2, .slice A3 ys.length c3] 48))
          have hb6 := below_alloc (Below.refl wr.heap.size wr) (.cells #[.int .i64 f0, .int .u64 f1, .int .i64 f2, .slice A3 ys.length c3] 48)
          have HW := Lib.hid (HW.out.below hb6)
          have hbx := HBX.out
          have p0 := (blk_cell hbx 0).trans rfl
          have p1 := (blk_cell hbx 1).trans rfl
          have p2 := (blk_cell hbx 2).trans rfl
          have p3 := (blk_cell hbx 3).trans rfl
          clear hb6 q0 q1 q2 q3 hbx
          generalize wr.alloc (.cells #[.int .i64 f0, .int .u64 f1, .int .i64 f2, .slice A3 ys.length c3] 48) = w6 at *
          generalize wr.heap.size = g6 at *
          have P2 := Lib.hid p2
          go_region_held3 (fun w' => w'.cell? ⟨g6, 2, none⟩ = some (.int .i64 f2) ∧ Below w6.heap.size w6 w') (first | exact ⟨cell_below P2.out (below_drew (Below.refl _ _)), below_drew (Below.refl _ _)⟩ | (refine ⟨cell_below P2.out ?_, ?_⟩ <;> assumption)) (first | (go_at_call 14; (refine (ZG.out _).mono ?_); rintro en w7 ⟨rfl, hb⟩; have hb1 : Below w6.heap.size w6 w7 := (by first | exact below_step (below_drew (Below.refl _ _)) hb | (refine below_step ?_ hb; assumption)); clear hb) | (go_at_call 12; (refine (ZA.out _).mono ?_); rintro en w7 ⟨rfl, hb⟩; have hb1 : Below w6.heap.size w6 w7 := (by first | exact below_step (below_drew (Below.refl _ _)) hb | (refine below_step ?_ hb; assumption)); clear hb))
          have HW := Lib.hid (HW.out.below hb1)
          have hbx := blk_below HBX.out hb1
          have p0 := (blk_cell hbx 0).trans rfl
          have p1 := (blk_cell hbx 1).trans rfl
          have p2 := (blk_cell hbx 2).trans rfl
          have p3 := (blk_cell hbx 3).trans rfl
          clear hbx p2
          have p2 := (blk_cell (blk_below HBX.out hb1) 2).trans rfl
          go_wp2_with (go_at_call 26; refine (write_any w _ g v (pcat xs k) f0 f1 f2 (.slice A3 ys.length c3) ys A3 c3 HW.out (Kd.C_below G3.out.2 HW.out.bel) (off_old HW.out G3.out.2) ⟨HP.out.n0, HP.out.n1⟩ ⟨HP.out.s0, HP.out.s1⟩ LEN1.out).mono ?_; rintro en w10 ⟨rfl, v2, hW2, hS2⟩; have HW := Lib.hid hW2; clear hW2 hS2)
          go_roundw
          case rel => exact ⟨k + 1, v2, by omega, by go_num, by rw [HCAT.out]; exact HW.out⟩
          case measure => simp [intOf]; omega
        · obtain rfl : k = xs.length := by omega
          clear hk hlt
          have LENX := Lib.hid (show (pcat xs xs.length).length ≤ 100000 by have := PL.out xs.length (by omega); omega)
          have XB := Lib.hid (PB.out xs.length (by omega))
          have LF0 := Lib.hid (show (((pcat xs xs.length).length - 0 : Nat) : Int) = ((pcat xs xs.length).length : Int) by omega)
          go_upto_region 14 with (first | (go_at_call 24; refine (bytes_any w _ g v _ HW.out (by have := LENX.out; omega)).mono ?_; rintro en w11 ⟨v11, rfl, hr, hb⟩; obtain ⟨A11, c11, rfl, _, hC⟩ := Kd.R_reads hr; have HW := Lib.hid (HW.out.below hb); have C11 := Lib.hid hC; clear hr hb hC) | (go_at_call 15; refine (new_any A11 c11 _ _ C11.out (by have := LENX.out; omega)).mono ?_; rintro en wR hnew; obtain ⟨gR, AR, cR, rfl, hN, hlt, hb⟩ := newq hnew; have NG := Lib.hid (show g ≠ gR ∧ (∀ j, v.ownBlock = some j → j ≠ gR) from ⟨by have := blk_lt HW.out.own; have := hN.2.1; omega, fun j hj e => by have := Kd.R_lt HW.out.row j hj; have := hN.2.1; omega⟩); have GE := Lib.hid (Nat.le_trans HW.out.bel.size hN.2.1); have HW := Lib.hid (HW.out.below hb); have R := Lib.hid hN.rd; clear hnew hN hlt hb C11) | (go_at_call 29; refine (left_s _ R.out _ LF0.out).mono ?_; rintro en w20 ⟨rfl, hb⟩; have HW := Lib.hid (HW.out.below hb); have R := Lib.hid (R.out.below hb); clear hb) | (go_at_call 28; refine (len_any w _ g v _ HW.out (by have := LENX.out; omega)).mono ?_; rintro en w20 ⟨rfl, hb⟩; have HW := Lib.hid (HW.out.below hb); have R := Lib.hid (R.out.below hb); clear hb))
          clear LF0
          go_wp2
          go_loopw [57] (fun i wr => ∃ (k : Nat), k ≤ xs.length ∧ i = .int .i64 k ∧ Rd wr gR AR cR (pcat xs xs.length) (pcat xs k).length ∧ Wr w wr g v (pcat xs xs.length)) (fun i _ => (xs.length : Int).toNat - (intOf i).toNat)
          case atStart => exact ⟨0, by omega, rfl, R.out, HW.out⟩
          case round =>
            clear HW R
            obtain ⟨k, hk, rfl, hR, hW⟩ := hrel
            have HW := Lib.hid hW
            have R := Lib.hid hR
            clear hW hR
            by_cases hlt : k < xs.length
            · obtain ⟨ad, A3, c3, eA, q0, q1, q2, q3, l3, g3⟩ := at_T48 HX.out (k : Int) (by omega) (by omega)
              subst eA
              have hrd : rd_T48 xs (k : Int) = xs.getD k z48 := by unfold rd_T48; rw [Int.toNat_natCast]
              rw [hrd, Int.toNat_natCast] at q0 q1 q2 q3
              rw [hrd] at l3 g3
              have hp := POK.out k hlt
              have hpl := pbs_length hp
              have hpc := PL.out k (by omega)
              have hcat := pcat_succ xs hlt
              have hdrop := pcat_drop xs hlt
              generalize hrest : (xs.drop (k + 1)).flatMap pbs = rest at hdrop
              clear hrest
              have q0 := cell_below q0 HW.out.bel
              have q1 := cell_below q1 HW.out.bel
              have q2 := cell_below q2 HW.out.bel
              have q3 := cell_below q3 HW.out.bel
              generalize xs.getD k z48 = x at *
              obtain ⟨f0, f1, f2, ys⟩ := x
              have HP := Lib.hid hp
              have HPC := Lib.hid (And.intro hpl hpc)
              have HCAT := Lib.hid hcat
              have G3 := Lib.hid (And.intro l3 g3)
              clear hp hpl hpc hcat l3 g3
              simp only at q0 q1 q2 q3
              have hdrop2 : (pcat xs xs.length).drop (pcat xs k).length = pbd f0 f1 f2 ys ++ rest := hdrop
              have hpl2 : (pcat xs (k + 1)).length = (pcat xs k).length + (pbd f0 f1 f2 ys).length := by rw [HCAT.out, List.length_append]; rfl
              clear hdrop
              go_upto_region 17 with (fail)
              have HBX := Lib.hid (blk_new wr (.cells #[.int .i64 f0, .int .u64 f1, .int .i64 f2, .slice A3 ys.length c3] 48))
              have hb6 := below_alloc (Below.refl wr.heap.size wr) (.cells #[.int .i64 f0, .int .u64 f1, .int .i64 f2, .slice A3 ys.length c3] 48)
              have HW := Lib.hid (HW.out.below hb6)
              have R := Lib.hid (R.out.below hb6)
              have hbx := HBX.out
              have p0 := (blk_cell hbx 0).trans rfl
              have p1 := (blk_cell hbx 1).trans rfl
              have p2 := (blk_cell hbx 2).trans rfl
              have p3 := (blk_cell hbx 3).trans rfl
              clear hb6 q0 q1 q2 q3 hbx
              generalize wr.alloc (.cells #[.int .i64 f0, .int .u64 f1, .int .i64 f2, .slice A3 ys.length c3] 48) = w6 at *
              generalize wr.heap.size = g6 at *
              by_cases e0 : f0 = 0
              · subst e0
                have hv : pbd 0 f1 f2 ys = enc f1.toNat := if_pos rfl
                have hn1 : ((f1.toNat : Nat) : Int) = f1 := by have h : 0 ≤ f1 := HP.out.n0; omega
                have hr : RdR ((pcat xs xs.length).drop (pcat xs k).length) f1 (enc f1.toNat).length 0 := by
                  rw [hdrop2, hv]
                  have := enc_read (n := f1.toNat) (by have h : f1 ≤ 18446744073709551615 := HP.out.n1; omega) rest
                  rwa [hn1] at this
                rw [hv] at hpl2
                have HR := Lib.hid hr
                have KK := Lib.hid (nn_self f1 (enc f1.toNat).length (pcat xs k).length)
                have HPL2 := Lib.hid hpl2
                clear hv hn1 hr hpl2 hdrop2
                go_upto_region 26 with (go_at_call 16; refine (reads_yes _ R.out XB.out f1 HR.out f1 0 (pcat xs (k + 1)).length KK.out.1 KK.out.2.1 (KK.out.2.2.trans HPL2.out.symm)).mono ?_; rintro en w12 ⟨rfl, h1, hF⟩; have HW := Lib.hid (HW.out.frame hF NG.out.1 NG.out.2 (fun i e => e ▸ GE.out)); have R := Lib.hid h1; clear h1 hF)
                have hq0 := R.out.le
                obtain ⟨Q, hQ⟩ : ∃ Q : Int, ((pcat xs (k + 1)).length : Int) = Q := ⟨_, rfl⟩
                obtain ⟨z, hz⟩ : ∃ z : Int, (((pcat xs xs.length).length - (pcat xs (k + 1)).length : Nat) : Int) = z := ⟨_, rfl⟩
                have hlX := LENX.out
                have hsum : Q + z = ((pcat xs xs.length).length : Int) := by omega
                have hQ0 : 0 ≤ Q := by omega
                have hz0 : 0 ≤ z := by omega
                have hQ1 : Q ≤ 100000 := by omega
                have hz1 : z ≤ 100000 := by omega
                have HQ := Lib.hid hQ
                have HZ := Lib.hid hz
                clear hQ hz hq0
                go_wp2_with (first | (go_at_call 32; refine (at_s _ R.out Q HQ.out).mono ?_; rintro en w20 ⟨rfl, hb⟩; have HW := Lib.hid (HW.out.below hb); have R := Lib.hid (R.out.below hb); clear hb) | (go_at_call 29; refine (left_s _ R.out z HZ.out).mono ?_; rintro en w20 ⟨rfl, hb⟩; have HW := Lib.hid (HW.out.below hb); have R := Lib.hid (R.out.below hb); clear hb) | (go_at_call 28; refine (len_any w _ g v _ HW.out (by have := LENX.out; omega)).mono ?_; rintro en w20 ⟨rfl, hb⟩; have HW := Lib.hid (HW.out.below hb); have R := Lib.hid (R.out.below hb); clear hb))
                go_roundw
                case rel => exact ⟨k + 1, by omega, by go_num, R.out, HW.out⟩
                case measure => simp [intOf]; omega
              · have d0 : (f0 == 0) = false := beq_eq_false_iff_ne.2 e0
                by_cases e1 : f0 = 1
                · subst e1
                  have hv : pbd 1 f1 f2 ys = enc (zig f2).toNat := by unfold pbd; rw [if_neg (by decide), if_pos rfl]
                  have hzi : 0 ≤ zig f2 ∧ zig f2 ≤ 18446744073709551615 := zig_in HP.out.s0 HP.out.s1
                  have hn1 : (((zig f2).toNat : Nat) : Int) = zig f2 := by omega
                  have hr : RdR ((pcat xs xs.length).drop (pcat xs k).length) (zig f2) (enc (zig f2).toNat).length 0 := by
                    rw [hdrop2, hv]
                    have := enc_read (n := (zig f2).toNat) (by omega) rest
                    rwa [hn1] at this
                  rw [hv] at hpl2
                  have HR := Lib.hid hr
                  have HPL2 := Lib.hid hpl2
                  clear hv hn1 hr hpl2 hdrop2 hzi d0
                  go_upto_region 26 with (go_at_call 18; refine (signed_yes _ R.out XB.out HR.out f2 0 (pcat xs (k + 1)).length (zag_zig f2) rfl (by rw [Int.toNat_natCast]; exact HPL2.out.symm)).mono ?_; rintro en w12 ⟨rfl, h1, hF⟩; have HW := Lib.hid (HW.out.frame hF NG.out.1 NG.out.2 (fun i e => e ▸ GE.out)); have R := Lib.hid h1; clear h1 hF)
                  have hq0 := R.out.le
                  obtain ⟨Q, hQ⟩ : ∃ Q : Int, ((pcat xs (k + 1)).length : Int) = Q := ⟨_, rfl⟩
                  obtain ⟨z, hz⟩ : ∃ z : Int, (((pcat xs xs.length).length - (pcat xs (k + 1)).length : Nat) : Int) = z := ⟨_, rfl⟩
                  have hlX := LENX.out
                  have hsum : Q + z = ((pcat xs xs.length).length : Int) := by omega
                  have hQ0 : 0 ≤ Q := by omega
                  have hz0 : 0 ≤ z := by omega
                  have hQ1 : Q ≤ 100000 := by omega
                  have hz1 : z ≤ 100000 := by omega
                  have HQ := Lib.hid hQ
                  have HZ := Lib.hid hz
                  clear hQ hz hq0
                  go_wp2_with (first | (go_at_call 32; refine (at_s _ R.out Q HQ.out).mono ?_; rintro en w20 ⟨rfl, hb⟩; have HW := Lib.hid (HW.out.below hb); have R := Lib.hid (R.out.below hb); clear hb) | (go_at_call 29; refine (left_s _ R.out z HZ.out).mono ?_; rintro en w20 ⟨rfl, hb⟩; have HW := Lib.hid (HW.out.below hb); have R := Lib.hid (R.out.below hb); clear hb) | (go_at_call 28; refine (len_any w _ g v _ HW.out (by have := LENX.out; omega)).mono ?_; rintro en w20 ⟨rfl, hb⟩; have HW := Lib.hid (HW.out.below hb); have R := Lib.hid (R.out.below hb); clear hb))
                  go_roundw
                  case rel => exact ⟨k + 1, by omega, by go_num, R.out, HW.out⟩
                  case measure => simp [intOf]; omega
                · have d1 : (f0 == 1) = false := beq_eq_false_iff_ne.2 e1
                  have lys : ys.length ≤ 300 := HP.out.len
                  have lys2 : (ys.length : Int) ≤ 300 := by omega
                  have hcv := conv8 (c := c3) (Kd.C_below G3.out.2 HW.out.bel)
                  by_cases e2 : f0 = 2
                  · subst e2
                    have hv : pbd 2 f1 f2 ys = enc ys.length ++ ys := by unfold pbd; rw [if_neg (by decide), if_neg (by decide), if_pos rfl]
                    rw [hv] at hpl2 hdrop2
                    have hr : RdR (enc ys.length ++ ys ++ rest) ys.length (enc ys.length).length 0 := by
                      rw [List.append_assoc]
                      exact enc_read (by omega) _
                    have HR := Lib.hid hr
                    have KK := Lib.hid (hear_self ys rest (pcat xs k).length _ rfl)
                    have HPL2 := Lib.hid hpl2
                    have HD := Lib.hid hdrop2
                    clear hv hr hpl2 hdrop2 d0 d1
                    go_upto_region 26 with (go_at_call 30; refine (hears_yes HD.out _ R.out XB.out (ys.length : Int) (by omega) HR.out (strOfNums ys) 0 (pcat xs (k + 1)).length (by rw [KK.out.1]) KK.out.2.1 (KK.out.2.2.trans HPL2.out.symm)).mono ?_; rintro en w12 ⟨rfl, h1, hF⟩; have HW := Lib.hid (HW.out.frame hF NG.out.1 NG.out.2 (fun i e => e ▸ GE.out)); have R := Lib.hid h1; clear h1 hF)
                    clear hcv lys lys2
                    have hq0 := R.out.le
                    obtain ⟨Q, hQ⟩ : ∃ Q : Int, ((pcat xs (k + 1)).length : Int) = Q := ⟨_, rfl⟩
                    obtain ⟨z, hz⟩ : ∃ z : Int, (((pcat xs xs.length).length - (pcat xs (k + 1)).length : Nat) : Int) = z := ⟨_, rfl⟩
                    have hlX := LENX.out
                    have hsum : Q + z = ((pcat xs xs.length).length : Int) := by omega
                    have hQ0 : 0 ≤ Q := by omega
                    have hz0 : 0 ≤ z := by omega
                    have hQ1 : Q ≤ 100000 := by omega
                    have hz1 : z ≤ 100000 := by omega
                    have HQ := Lib.hid hQ
                    have HZ := Lib.hid hz
                    clear hQ hz hq0
                    go_wp2_with (first | (go_at_call 32; refine (at_s _ R.out Q HQ.out).mono ?_; rintro en w20 ⟨rfl, hb⟩; have HW := Lib.hid (HW.out.below hb); have R := Lib.hid (R.out.below hb); clear hb) | (go_at_call 29; refine (left_s _ R.out z HZ.out).mono ?_; rintro en w20 ⟨rfl, hb⟩; have HW := Lib.hid (HW.out.below hb); have R := Lib.hid (R.out.below hb); clear hb) | (go_at_call 28; refine (len_any w _ g v _ HW.out (by have := LENX.out; omega)).mono ?_; rintro en w20 ⟨rfl, hb⟩; have HW := Lib.hid (HW.out.below hb); have R := Lib.hid (R.out.below hb); clear hb))
                    go_roundw
                    case rel => exact ⟨k + 1, by omega, by go_num, R.out, HW.out⟩
                    case measure => simp [intOf]; omega
                  · have d2 : (f0 == 2) = false := beq_eq_false_iff_ne.2 e2
                    have hv : pbd f0 f1 f2 ys = ys := by unfold pbd; rw [if_neg e0, if_neg e1, if_neg e2]
                    rw [hv] at hpl2 hdrop2
                    have KK := Lib.hid (take_self ys rest)
                    have HPL2 := Lib.hid hpl2
                    have HD := Lib.hid hdrop2
                    clear hv hpl2 hdrop2
                    go_upto_region 26 with (go_at_call 31; refine (takes_yes HD.out _ R.out (ys.length : Int) (strOfNums ys) 0 (pcat xs (k + 1)).length (by rw [KK.out.1]) KK.out.2 (by rw [KK.out.1]; exact HPL2.out.symm)).mono ?_; rintro en w12 ⟨rfl, h1, hF⟩; have HW := Lib.hid (HW.out.frame hF NG.out.1 NG.out.2 (fun i e => e ▸ GE.out)); have R := Lib.hid h1; clear h1 hF)
                    clear hcv lys lys2
                    have hq0 := R.out.le
                    obtain ⟨Q, hQ⟩ : ∃ Q : Int, ((pcat xs (k + 1)).length : Int) = Q := ⟨_, rfl⟩
                    obtain ⟨z, hz⟩ : ∃ z : Int, (((pcat xs xs.length).length - (pcat xs (k + 1)).length : Nat) : Int) = z := ⟨_, rfl⟩
                    have hlX := LENX.out
                    have hsum : Q + z = ((pcat xs xs.length).length : Int) := by omega
                    have hQ0 : 0 ≤ Q := by omega
                    have hz0 : 0 ≤ z := by omega
                    have hQ1 : Q ≤ 100000 := by omega
                    have hz1 : z ≤ 100000 := by omega
                    have HQ := Lib.hid hQ
                    have HZ := Lib.hid hz
                    clear hQ hz hq0
                    go_wp2_with (first | (go_at_call 32; refine (at_s _ R.out Q HQ.out).mono ?_; rintro en w20 ⟨rfl, hb⟩; have HW := Lib.hid (HW.out.below hb); have R := Lib.hid (R.out.below hb); clear hb) | (go_at_call 29; refine (left_s _ R.out z HZ.out).mono ?_; rintro en w20 ⟨rfl, hb⟩; have HW := Lib.hid (HW.out.below hb); have R := Lib.hid (R.out.below hb); clear hb) | (go_at_call 28; refine (len_any w _ g v _ HW.out (by have := LENX.out; omega)).mono ?_; rintro en w20 ⟨rfl, hb⟩; have HW := Lib.hid (HW.out.below hb); have R := Lib.hid (R.out.below hb); clear hb))
                    go_roundw
                    case rel => exact ⟨k + 1, by omega, by go_num, R.out, HW.out⟩
                    case measure => simp [intOf]; omega
            · obtain rfl : k = xs.length := by omega
              clear hk hlt
              go_upto_region 35 with (first | (go_at_call 17; refine (end_s _ R.out 0 (if_neg (Nat.lt_irrefl _))).mono ?_; rintro en w21 ⟨rfl, hb⟩; have HW := Lib.hid (HW.out.below hb); clear hb R) | (go_at_call 15; refine (new_any A2 c2 bs _ (Kd.C_below HY.out.2 HW.out.bel) (by have := HBL.out; omega)).mono ?_; rintro en wX hnew; obtain ⟨gx, Ax, cx, rfl, hN, hlt, hb⟩ := newq hnew; have GX := Lib.hid (Nat.le_trans HW.out.bel.size hN.2.1); have KD := Lib.hid (below_step HW.out.bel hb); have RX := Lib.hid hN.rd; clear hnew hN hlt hb HW) | ((with_reducible refine gate_dst (N := 13) rfl ?_); refine box_event rfl (N := 13) rfl (cs := #[.slice none 0 0]) (t := 40) ?hr ?_; (case hr => first | (go_simp; done) | (go_simp; rfl)); intro ga hga w22 hbox hb; have HA := Lib.hid (wr_box KD.out hga hbox hb); have NX := Lib.hid (show gx ≠ ga ∧ (∀ ad, Ax = some ad → 0 < bs.length → ad.block ≠ ga) from ⟨by have := blk_lt RX.out.own; omega, fun ad e hp => by have := C_lt RX.out.rd e hp; omega⟩); have RX := Lib.hid (RX.out.below hb); clear hb hbox hga))
              go_wp2
              go_loopw [14] (fun i wr => ∃ (m p : Nat) (va : Value), m ≤ bs.length ∧ i = .int .i64 m ∧ Rd wr gx Ax cx bs p ∧ Wr w wr ga va (bs.take p) ∧ Sep va gx Ax bs.length) (fun i _ => (bs.length : Int).toNat - (intOf i).toNat)
              case atStart => exact ⟨0, 0, _, by omega, rfl, RX.out, HA.out, ⟨fun e => by simp [Value.ownBlock] at e, fun ad _ _ e => by simp [Value.ownBlock] at e⟩⟩
              case round =>
                clear RX HA KD
                obtain ⟨m, p, va, hm, rfl, hRX, hHA, hSP⟩ := hrel
                have RX := Lib.hid hRX
                have HA := Lib.hid hHA
                have SP := Lib.hid hSP
                have hple := hRX.le
                clear hRX hHA hSP
                by_cases hlt : m < bs.length
                · obtain ⟨v5, s5, e5, hr5⟩ := rdr_total (bs.drop p)
                  have hin := rdr_in (HBY.out.drop p) hr5
                  have hnm := nmax (HBY.out.drop p) hr5
                  have HR5 := Lib.hid hr5
                  by_cases he : e5 = 0
                  · subst he
                    obtain ⟨S, rfl, htk⟩ := read_take HBY.out hr5
                    rw [Int.toNat_natCast] at hnm
                    have NM := Lib.hid hnm
                    have HTK := Lib.hid htk
                    have V5 := Lib.hid (And.intro hin.1 hin.2.1)
                    have LT := Lib.hid (show (bs.take p).length ≤ 100000000 by rw [List.length_take]; have := HBL.out; omega)
                    clear hr5 hin hnm htk hple
                    go_wp2_with (first | (go_at_call 33; refine (rdnum_any _ RX.out HBY.out 18446744073709551615 HR5.out).mono ?_; rintro en w23 ⟨rfl, h1, hF⟩; rw [NM.out.1, NM.out.2.1]; rw [NM.out.2.2] at h1; have HA := Lib.hid (HA.out.frame hF (fun e => NX.out.1 e.symm) (fun j hj e => SP.out.1 (by rw [hj, e])) (fun i e => e ▸ GX.out)); have RX := Lib.hid h1; clear h1 hF) | (go_at_call 21; refine (wnum_one w _ ga va (bs.take p) v5 HA.out V5.out LT.out).mono ?_; rintro en w24 ⟨rfl, v6, hW2, hS2⟩; have RX2 := Lib.hid (Sep.rd SP.out NX.out.1 NX.out.2 RX.out hS2); have SP2 := Lib.hid (SP.out.wrote RX.out hS2); have HA := Lib.hid hW2; clear hW2 hS2))
                    go_roundw
                    case rel => exact ⟨m + 1, p + S, v6, by omega, by go_num, RX2.out, by rw [HTK.out]; exact HA.out, SP2.out⟩
                    case measure => simp [intOf]; omega
                  · have hs5 : s5 = 0 := (hin.2.2.2.2.2.2.2 he).2
                    subst hs5
                    have NM := Lib.hid hnm
                    have hbe : (e5 != 0) = true := bne_iff_ne.2 he
                    clear hr5 hin hnm he
                    go_upto_region 41 with (go_at_call 33; refine (rdnum_any _ RX.out HBY.out 18446744073709551615 HR5.out).mono ?_; rintro en w23 ⟨rfl, h1, hF⟩; rw [NM.out.1, NM.out.2.1]; rw [NM.out.2.2] at h1; have HA := Lib.hid (HA.out.frame hF (fun e => NX.out.1 e.symm) (fun j hj e => SP.out.1 (by rw [hj, e])) (fun i e => e ▸ GX.out)); have RX := Lib.hid (show Rd w23 gx Ax cx bs p from h1); clear h1 hF)
                    clear hbe
                    have LP := Lib.hid (show (bs.take p).length = p by rw [List.length_take]; omega)
                    have LP8 := Lib.hid (show (bs.take p).length ≤ 100000000 by rw [LP.out]; have := HBL.out; omega)
                    have hpb : decide (p ≤ bs.length) = true := decide_eq_true hple
                    have hpb2 : decide ((p : Int) ≤ (bs.length : Int)) = true := decide_eq_true (by omega)
                    obtain ⟨k1, k2, _⟩ := take8 A2 c2 bs p hple HY.out.1
                    rw [LP.out] at k1 k2
                    have K2 := Lib.hid k2
                    have lp1 : (p : Int) ≤ 1000 := by have := HBL.out; omega
                    clear k2 hple
                    go_upto_region 42 with (go_at_call 28; refine (len_s w _ ga va (bs.take p) HA.out LP8.out (p : Int) (by rw [LP.out])).mono ?_; rintro en w30 ⟨rfl, hb⟩; have HA := Lib.hid (HA.out.below hb); have RX := Lib.hid (RX.out.below hb); clear hb)
                    have hd0 := fun (wx : World) => below_drew (Below.refl wx.heap.size wx)
                    have HA0 := Lib.hid (HA.out.below (hd0 _))
                    have RX0 := Lib.hid (RX.out.below (hd0 _))
                    have C0 := Lib.hid (Kd.C_below HY.out.2 HA0.out.bel)
                    have cv0 := conv8n (c := c2) (K2.out _ C0.out)
                    clear hd0
                    refine wp_region_held_drew (S := fun w' => (convert 23 9 (.slice A2 p c2)).run Try.prog w' = .ok (.string (strOfNums (bs.take p))) w' ∧ Wr w w' ga va (bs.take p)) (by kernel_rfl) ⟨cv0, HA0.out⟩ (fun hHeld => ?_)
                    refine wpAnyH_take (i := 0) (oi := ?_) (v := ?_) ?_ (by kernel_rfl) (by kernel_rfl) (by kernel_rfl) ?_ ?_ (by assumption) ?_
                    rotate_left 2
                    · (try simp only [List.getElem?_toArray, List.getElem?_cons_succ, List.getElem?_cons_zero]) <;> rfl
                    · exact fun _ _ _ h => h
                    · refine Or.inl ⟨by rfl, ?_⟩
                      intro wz hSw
                      try dsimp only at hSw
                      first | (go_simp; done) | (go_simp; with_reducible rfl)
                    (try simp only [Act.put, List.setIfInBounds_toArray, List.set_cons_zero, List.set_cons_succ])
                    refine wpAnyH_take (i := 2) (oi := ?_) (v := ?_) ?_ (by kernel_rfl) (by kernel_rfl) (by kernel_rfl) ?_ ?_ (by assumption) ?_
                    rotate_left 2
                    · (try simp only [List.getElem?_toArray, List.getElem?_cons_succ, List.getElem?_cons_zero]) <;> rfl
                    · exact fun _ _ _ h => h
                    · refine Or.inl ⟨by rfl, ?_⟩
                      intro wz hSw
                      try dsimp only at hSw
                      first | (go_simp; done) | (go_simp; with_reducible rfl)
                    (try simp only [Act.put, List.setIfInBounds_toArray, List.set_cons_zero, List.set_cons_succ])
                    refine wpAnyH_ready (rs := [1]) (by kernel_rfl) (by simp) ?_
                    refine AllReadyH.cons (o := ?_) ?_ (fun K hK => ?_) AllReadyH.nil
                    rotate_left 1
                    · (try simp only [List.getElem?_toArray, List.getElem?_cons_succ, List.getElem?_cons_zero]) <;> rfl
                    go_simp
                    refine (at_s _ RX0.out p rfl).mono ?_
                    rintro en w31 ⟨rfl, hb⟩
                    have hA1 := HA0.out.below hb
                    have cv1 := conv8n (c := c2) (K2.out _ (Kd.C_below HY.out.2 hA1.bel))
                    clear hb
                    refine hK.out _ _ ?_ (fun hHeld => ?_)
                    · exact ⟨cv1, hA1⟩
                    clear hK K
                    (try simp only [Act.put, List.setIfInBounds_toArray, List.set_cons_zero, List.set_cons_succ])
                    refine wpAnyH_take (i := 3) (oi := ?_) (v := ?_) ?_ (by kernel_rfl) (by kernel_rfl) (by kernel_rfl) ?_ ?_ (by assumption) ?_
                    rotate_left 2
                    · (try simp only [List.getElem?_toArray, List.getElem?_cons_succ, List.getElem?_cons_zero]) <;> rfl
                    · exact fun _ _ _ h => h
                    · refine Or.inl ⟨by rfl, ?_⟩
                      intro wz hSw
                      try dsimp only at hSw
                      first | (go_simp; done) | (go_simp; with_reducible rfl)
                    (try simp only [Act.put, List.setIfInBounds_toArray, List.set_cons_zero, List.set_cons_succ])
                    refine wpAnyH_take (i := 4) (oi := ?_) (v := ?_) ?_ (by kernel_rfl) (by kernel_rfl) (by kernel_rfl) ?_ ?_ (by assumption) ?_
                    rotate_left 2
                    · (try simp only [List.getElem?_toArray, List.getElem?_cons_succ, List.getElem?_cons_zero]) <;> rfl
                    · exact fun _ _ _ h => h
                    · refine Or.inl ⟨by rfl, ?_⟩
                      intro wz hSw
                      try dsimp only at hSw
                      first | (go_simp; done) | (go_simp; with_reducible rfl)
                    (try simp only [Act.put, List.setIfInBounds_toArray, List.set_cons_zero, List.set_cons_succ])
                    refine wpAnyH_take (i := 5) (oi := ?_) (v := ?_) ?_ (by kernel_rfl) (by kernel_rfl) (by kernel_rfl) ?_ ?_ (by assumption) ?_
                    rotate_left 2
                    · (try simp only [List.getElem?_toArray, List.getElem?_cons_succ, List.getElem?_cons_zero]) <;> rfl
                    · exact fun _ _ _ h => h
                    · refine Or.inl ⟨by rfl, ?_⟩
                      intro wz hSw
                      try dsimp only at hSw
                      first | (go_simp; done) | (go_simp; with_reducible rfl)
                    (try simp only [Act.put, List.setIfInBounds_toArray, List.set_cons_zero, List.set_cons_succ])
                    refine wpAnyH_take (i := 6) (oi := ?_) (v := ?_) ?_ (by kernel_rfl) (by kernel_rfl) (by kernel_rfl) ?_ ?_ (by assumption) ?_
                    rotate_left 2
                    · (try simp only [List.getElem?_toArray, List.getElem?_cons_succ, List.getElem?_cons_zero]) <;> rfl
                    · exact fun _ _ _ h => h
                    · refine Or.inl ⟨by rfl, ?_⟩
                      intro wz hSw
                      try dsimp only at hSw
                      first | (go_simp; done) | (go_simp; with_reducible rfl)
                    (try simp only [Act.put, List.setIfInBounds_toArray, List.set_cons_zero, List.set_cons_succ])
                    refine wpAnyH_take (i := 7) (oi := ?_) (v := ?_) ?_ (by kernel_rfl) (by kernel_rfl) (by kernel_rfl) ?_ ?_ (by assumption) ?_
                    rotate_left 2
                    · (try simp only [List.getElem?_toArray, List.getElem?_cons_succ, List.getElem?_cons_zero]) <;> rfl
                    · exact fun _ _ _ h => h
                    · refine Or.inl ⟨by rfl, ?_⟩
                      intro wz hSw
                      try dsimp only at hSw
                      first | (go_simp; done) | (go_simp; with_reducible rfl)
                    (try simp only [Act.put, List.setIfInBounds_toArray, List.set_cons_zero, List.set_cons_succ])
                    refine wpAnyH_take (i := 8) (oi := ?_) (v := ?_) ?_ (by kernel_rfl) (by kernel_rfl) (by kernel_rfl) ?_ ?_ (by assumption) ?_
                    rotate_left 2
                    · (try simp only [List.getElem?_toArray, List.getElem?_cons_succ, List.getElem?_cons_zero]) <;> rfl
                    · exact fun _ _ _ h => h
                    · refine Or.inl ⟨by rfl, ?_⟩
                      intro wz hSw
                      try dsimp only at hSw
                      first | (go_simp; done) | (go_simp; with_reducible rfl)
                    (try simp only [Act.put, List.setIfInBounds_toArray, List.set_cons_zero, List.set_cons_succ])
                    refine wpAnyH_take (i := 9) (oi := ?_) (v := ?_) ?_ (by kernel_rfl) (by kernel_rfl) (by kernel_rfl) ?_ ?_ (by assumption) ?_
                    rotate_left 2
                    · (try simp only [List.getElem?_toArray, List.getElem?_cons_succ, List.getElem?_cons_zero]) <;> rfl
                    · exact fun _ _ _ h => h
                    · refine Or.inl ⟨by rfl, ?_⟩
                      intro wz hSw
                      try dsimp only at hSw
                      first | (go_simp; done) | (go_simp; with_reducible rfl)
                    (try simp only [Act.put, List.setIfInBounds_toArray, List.set_cons_zero, List.set_cons_succ])
                    refine wpAnyH_take (i := 10) (oi := ?_) (v := ?_) ?_ (by kernel_rfl) (by kernel_rfl) (by kernel_rfl) ?_ ?_ (by assumption) ?_
                    rotate_left 2
                    · (try simp only [List.getElem?_toArray, List.getElem?_cons_succ, List.getElem?_cons_zero]) <;> rfl
                    · exact fun _ _ _ h => h
                    · refine Or.inl ⟨by rfl, ?_⟩
                      intro wz hSw
                      try dsimp only at hSw
                      first | (go_simp; done) | (go_simp; with_reducible rfl)
                    (try simp only [Act.put, List.setIfInBounds_toArray, List.set_cons_zero, List.set_cons_succ])
                    refine wpAnyH_take (i := 11) (oi := ?_) (v := ?_) ?_ (by kernel_rfl) (by kernel_rfl) (by kernel_rfl) ?_ ?_ (by assumption) ?_
                    rotate_left 2
                    · (try simp only [List.getElem?_toArray, List.getElem?_cons_succ, List.getElem?_cons_zero]) <;> rfl
                    · exact fun _ _ _ h => h
                    · refine Or.inl ⟨by rfl, ?_⟩
                      intro wz hSw
                      try dsimp only at hSw
                      first | (go_simp; done) | (go_simp; with_reducible rfl)
                    (try simp only [Act.put, List.setIfInBounds_toArray, List.set_cons_zero, List.set_cons_succ])
                    refine wpAnyH_take (i := 12) (oi := ?_) (v := ?_) ?_ (by kernel_rfl) (by kernel_rfl) (by kernel_rfl) ?_ ?_ (by assumption) ?_
                    rotate_left 2
                    · (try simp only [List.getElem?_toArray, List.getElem?_cons_succ, List.getElem?_cons_zero]) <;> rfl
                    · exact fun _ _ _ h => h
                    · refine Or.inl ⟨by rfl, ?_⟩
                      intro wz hSw
                      try dsimp only at hSw
                      first | (go_simp; done) | (go_simp; with_reducible rfl)
                    (try simp only [Act.put, List.setIfInBounds_toArray, List.set_cons_zero, List.set_cons_succ])
                    refine wpAnyH_take (i := 13) (oi := ?_) (v := ?_) ?_ (by kernel_rfl) (by kernel_rfl) (by kernel_rfl) ?_ ?_ (by assumption) ?_
                    rotate_left 2
                    · (try simp only [List.getElem?_toArray, List.getElem?_cons_succ, List.getElem?_cons_zero]) <;> rfl
                    · exact fun _ _ _ h => h
                    · refine Or.inl ⟨by rfl, ?_⟩
                      intro wz hSw
                      try dsimp only at hSw
                      first | (go_simp; done) | (go_simp; with_reducible rfl)
                    (try simp only [Act.put, List.setIfInBounds_toArray, List.set_cons_zero, List.set_cons_succ])
                    refine wpAnyH_take (i := 14) (oi := ?_) (v := ?_) ?_ (by kernel_rfl) (by kernel_rfl) (by kernel_rfl) ?_ ?_ (by assumption) ?_
                    rotate_left 2
                    · (try simp only [List.getElem?_toArray, List.getElem?_cons_succ, List.getElem?_cons_zero]) <;> rfl
                    · exact fun _ _ _ h => h
                    · refine Or.inl ⟨by rfl, ?_⟩
                      intro wz hSw
                      try dsimp only at hSw
                      first | (go_simp; done) | (go_simp; with_reducible rfl)
                    (try simp only [Act.put, List.setIfInBounds_toArray, List.set_cons_zero, List.set_cons_succ])
                    refine wpAnyH_take (i := 17) (oi := ?_) (v := ?_) ?_ (by kernel_rfl) (by kernel_rfl) (by kernel_rfl) ?_ ?_ (by assumption) ?_
                    rotate_left 2
                    · (try simp only [List.getElem?_toArray, List.getElem?_cons_succ, List.getElem?_cons_zero]) <;> rfl
                    · exact fun _ _ _ h => h
                    · refine Or.inl ⟨by rfl, ?_⟩
                      intro wz hSw
                      try dsimp only at hSw
                      first | (go_simp; done) | (go_simp; with_reducible rfl)
                    (try simp only [Act.put, List.setIfInBounds_toArray, List.set_cons_zero, List.set_cons_succ])
                    refine wpAnyH_take (i := 18) (oi := ?_) (v := ?_) ?_ (by kernel_rfl) (by kernel_rfl) (by kernel_rfl) ?_ ?_ (by assumption) ?_
                    rotate_left 2
                    · (try simp only [List.getElem?_toArray, List.getElem?_cons_succ, List.getElem?_cons_zero]) <;> rfl
                    · exact fun _ _ _ h => h
                    · refine Or.inl ⟨by rfl, ?_⟩
                      intro wz hSw
                      try dsimp only at hSw
                      first | (go_simp; done) | (go_simp; with_reducible rfl)
                    (try simp only [Act.put, List.setIfInBounds_toArray, List.set_cons_zero, List.set_cons_succ])
                    refine wpAnyH_take (i := 19) (oi := ?_) (v := ?_) ?_ (by kernel_rfl) (by kernel_rfl) (by kernel_rfl) ?_ ?_ (by assumption) ?_
                    rotate_left 2
                    · (try simp only [List.getElem?_toArray, List.getElem?_cons_succ, List.getElem?_cons_zero]) <;> rfl
                    · exact fun _ _ _ h => h
                    · refine Or.inl ⟨by rfl, ?_⟩
                      intro wz hSw
                      try dsimp only at hSw
                      first | (go_simp; done) | (go_simp; with_reducible rfl)
                    (try simp only [Act.put, List.setIfInBounds_toArray, List.set_cons_zero, List.set_cons_succ])
                    refine wpAnyH_take (i := 20) (oi := ?_) (v := ?_) ?_ (by kernel_rfl) (by kernel_rfl) (by kernel_rfl) ?_ ?_ (by assumption) ?_
                    rotate_left 2
                    · (try simp only [List.getElem?_toArray, List.getElem?_cons_succ, List.getElem?_cons_zero]) <;> rfl
                    · exact fun _ _ _ h => h
                    · refine Or.inl ⟨by rfl, ?_⟩
                      intro wz hSw
                      try dsimp only at hSw
                      first | (go_simp; done) | (go_simp; with_reducible rfl)
                    (try simp only [Act.put, List.setIfInBounds_toArray, List.set_cons_zero, List.set_cons_succ])
                    refine wpAnyH_ready (rs := [15]) (by kernel_rfl) (by simp) ?_
                    refine AllReadyH.cons (o := ?_) ?_ (fun K hK => ?_) AllReadyH.nil
                    rotate_left 1
                    · (try simp only [List.getElem?_toArray, List.getElem?_cons_succ, List.getElem?_cons_zero]) <;> rfl
                    go_simp
                    refine (bytes_any w _ ga va (bs.take p) hA1 LP8.out).mono ?_
                    rintro en w32 ⟨v32, rfl, hr, hb⟩
                    obtain ⟨A32, c32, rfl, _, hC32⟩ := Kd.R_reads hr
                    have hA2 := hA1.below hb
                    rw [LP.out] at hC32
                    have cv2 := conv8n (c := c32) hC32
                    have cv3 := conv8n (c := c2) (K2.out _ (Kd.C_below HY.out.2 hA2.bel))
                    rw [LP.out]
                    clear hb hr
                    refine hK.out _ _ ?_ (fun hHeld => ?_)
                    · exact ⟨cv3, hA2⟩
                    clear hK K
                    (try simp only [Act.put, List.setIfInBounds_toArray, List.set_cons_zero, List.set_cons_succ])
                    refine held_mono (S' := fun w' => (convert 23 9 (.slice A2 p c2)).run Try.prog w' = .ok (.string (strOfNums (bs.take p))) w' ∧ Wr w w' ga va (bs.take p) ∧ (convert 23 9 (.slice A32 p c32)).run Try.prog w' = .ok (.string (strOfNums (bs.take p))) w') (fun _ h => ⟨h.1, h.2.1⟩) _ _ _ _ ?_
                    have hHeld2 := And.intro cv3 (And.intro hA2 cv2)
                    refine wpAnyH_take (i := 16) (oi := ?_) (v := ?_) ?_ (by kernel_rfl) (by kernel_rfl) (by kernel_rfl) ?_ ?_ (by assumption) ?_
                    rotate_left 2
                    · (try simp only [List.getElem?_toArray, List.getElem?_cons_succ, List.getElem?_cons_zero]) <;> rfl
                    · exact fun _ _ _ h => h
                    · refine Or.inl ⟨by rfl, ?_⟩
                      intro wz hSw
                      try dsimp only at hSw
                      first | (go_simp; done) | (go_simp; with_reducible rfl)
                    (try simp only [Act.put, List.setIfInBounds_toArray, List.set_cons_zero, List.set_cons_succ])
                    refine wpAnyH_take (i := 21) (oi := ?_) (v := ?_) ?_ (by kernel_rfl) (by kernel_rfl) (by kernel_rfl) ?_ ?_ (by assumption) ?_
                    rotate_left 2
                    · (try simp only [List.getElem?_toArray, List.getElem?_cons_succ, List.getElem?_cons_zero]) <;> rfl
                    · exact fun _ _ _ h => h
                    · refine Or.inl ⟨by rfl, ?_⟩
                      intro wz hSw
                      try dsimp only at hSw
                      first | (go_simp; done) | (go_simp; with_reducible rfl)
                    (try simp only [Act.put, List.setIfInBounds_toArray, List.set_cons_zero, List.set_cons_succ])
                    refine wpAnyH_take (i := 22) (oi := ?_) (v := ?_) ?_ (by kernel_rfl) (by kernel_rfl) (by kernel_rfl) ?_ ?_ (by assumption) ?_
                    rotate_left 2
                    · (try simp only [List.getElem?_toArray, List.getElem?_cons_succ, List.getElem?_cons_zero]) <;> rfl
                    · exact fun _ _ _ h => h
                    · refine Or.inl ⟨by rfl, ?_⟩
                      intro wz hSw
                      try dsimp only at hSw
                      first | (go_simp; done) | (go_simp; with_reducible rfl)
                    (try simp only [Act.put, List.setIfInBounds_toArray, List.set_cons_zero, List.set_cons_succ])
                    refine wpAnyH_take (i := 23) (oi := ?_) (v := ?_) ?_ (by kernel_rfl) (by kernel_rfl) (by kernel_rfl) ?_ ?_ (by assumption) ?_
                    rotate_left 2
                    · (try simp only [List.getElem?_toArray, List.getElem?_cons_succ, List.getElem?_cons_zero]) <;> rfl
                    · exact fun _ _ _ h => h
                    · refine Or.inl ⟨by rfl, ?_⟩
                      intro wz hSw
                      try dsimp only at hSw
                      first | (go_simp; done) | (go_simp; with_reducible rfl)
                    (try simp only [Act.put, List.setIfInBounds_toArray, List.set_cons_zero, List.set_cons_succ])
                    refine wpAnyH_ready (rs := [24]) (by kernel_rfl) (by simp) ?_
                    refine AllReadyH.cons (o := ?_) ?_ (fun K hK => ?_) AllReadyH.nil
                    rotate_left 1
                    · (try simp only [List.getElem?_toArray, List.getElem?_cons_succ, List.getElem?_cons_zero]) <;> rfl
                    go_simp
                    refine (known_any _).mono ?_
                    rintro en w33 ⟨rfl, hb⟩
                    have hA3 := hA2.below hb
                    have cv4 := conv8n (c := c2) (K2.out _ (Kd.C_below HY.out.2 hA3.bel))
                    have cv5 := conv8n (c := c32) (Kd.C_below hC32 hb)
                    clear hb
                    refine hK.out _ _ ?_ (fun hHeld => ?_)
                    · exact ⟨cv4, hA3, cv5⟩
                    clear hK K
                    (try simp only [Act.put, List.setIfInBounds_toArray, List.set_cons_zero, List.set_cons_succ])
                    refine wpAnyH_take (i := 25) (oi := ?_) (v := ?_) ?_ (by kernel_rfl) (by kernel_rfl) (by kernel_rfl) ?_ ?_ (by assumption) ?_
                    rotate_left 2
                    · (try simp only [List.getElem?_toArray, List.getElem?_cons_succ, List.getElem?_cons_zero]) <;> rfl
                    · exact fun _ _ _ h => h
                    · refine Or.inl ⟨by rfl, ?_⟩
                      intro wz hSw
                      try dsimp only at hSw
                      first | (go_simp; done) | (go_simp; with_reducible rfl)
                    (try simp only [Act.put, List.setIfInBounds_toArray, List.set_cons_zero, List.set_cons_succ])
                    refine wpAnyH_take (i := 26) (oi := ?_) (v := ?_) ?_ (by kernel_rfl) (by kernel_rfl) (by kernel_rfl) ?_ ?_ (by assumption) ?_
                    rotate_left 2
                    · (try simp only [List.getElem?_toArray, List.getElem?_cons_succ, List.getElem?_cons_zero]) <;> rfl
                    · exact fun _ _ _ h => h
                    · refine Or.inl ⟨by rfl, ?_⟩
                      intro wz hSw
                      try dsimp only at hSw
                      first | (go_simp; done) | (go_simp; with_reducible rfl)
                    (try simp only [Act.put, List.setIfInBounds_toArray, List.set_cons_zero, List.set_cons_succ])
                    refine wpAnyH_done (by kernel_rfl) ?_ _
                    go_wp2
                    go_ret
                    exact ⟨rfl, hA3.bel⟩
                · have LP := Lib.hid (show (bs.take p).length = p by rw [List.length_take]; omega)
                  have LP8 := Lib.hid (show (bs.take p).length ≤ 100000000 by rw [LP.out]; have := HBL.out; omega)
                  have hpb : decide (p ≤ bs.length) = true := decide_eq_true hple
                  have hpb2 : decide ((p : Int) ≤ (bs.length : Int)) = true := decide_eq_true (by omega)
                  obtain ⟨k1, k2, _⟩ := take8 A2 c2 bs p hple HY.out.1
                  rw [LP.out] at k1 k2
                  have K2 := Lib.hid k2
                  have lp1 : (p : Int) ≤ 1000 := by have := HBL.out; omega
                  clear k2 hple
                  go_upto_region 42 with (go_at_call 28; refine (len_s w _ ga va (bs.take p) HA.out LP8.out (p : Int) (by rw [LP.out])).mono ?_; rintro en w30 ⟨rfl, hb⟩; have HA := Lib.hid (HA.out.below hb); have RX := Lib.hid (RX.out.below hb); clear hb)
                  have hd0 := fun (wx : World) => below_drew (Below.refl wx.heap.size wx)
                  have HA0 := Lib.hid (HA.out.below (hd0 _))
                  have RX0 := Lib.hid (RX.out.below (hd0 _))
                  have C0 := Lib.hid (Kd.C_below HY.out.2 HA0.out.bel)
                  have cv0 := conv8n (c := c2) (K2.out _ C0.out)
                  clear hd0
                  refine wp_region_held_drew (S := fun w' => (convert 23 9 (.slice A2 p c2)).run Try.prog w' = .ok (.string (strOfNums (bs.take p))) w' ∧ Wr w w' ga va (bs.take p)) (by kernel_rfl) ⟨cv0, HA0.out⟩ (fun hHeld => ?_)
                  refine wpAnyH_take (i := 0) (oi := ?_) (v := ?_) ?_ (by kernel_rfl) (by kernel_rfl) (by kernel_rfl) ?_ ?_ (by assumption) ?_
                  rotate_left 2
                  · (try simp only [List.getElem?_toArray, List.getElem?_cons_succ, List.getElem?_cons_zero]) <;> rfl
                  · exact fun _ _ _ h => h
                  · refine Or.inl ⟨by rfl, ?_⟩
                    intro wz hSw
                    try dsimp only at hSw
                    first | (go_simp; done) | (go_simp; with_reducible rfl)
                  (try simp only [Act.put, List.setIfInBounds_toArray, List.set_cons_zero, List.set_cons_succ])
                  refine wpAnyH_take (i := 2) (oi := ?_) (v := ?_) ?_ (by kernel_rfl) (by kernel_rfl) (by kernel_rfl) ?_ ?_ (by assumption) ?_
                  rotate_left 2
                  · (try simp only [List.getElem?_toArray, List.getElem?_cons_succ, List.getElem?_cons_zero]) <;> rfl
                  · exact fun _ _ _ h => h
                  · refine Or.inl ⟨by rfl, ?_⟩
                    intro wz hSw
                    try dsimp only at hSw
                    first | (go_simp; done) | (go_simp; with_reducible rfl)
                  (try simp only [Act.put, List.setIfInBounds_toArray, List.set_cons_zero, List.set_cons_succ])
                  refine wpAnyH_ready (rs := [1]) (by kernel_rfl) (by simp) ?_
                  refine AllReadyH.cons (o := ?_) ?_ (fun K hK => ?_) AllReadyH.nil
                  rotate_left 1
                  · (try simp only [List.getElem?_toArray, List.getElem?_cons_succ, List.getElem?_cons_zero]) <;> rfl
                  go_simp
                  refine (at_s _ RX0.out p rfl).mono ?_
                  rintro en w31 ⟨rfl, hb⟩
                  have hA1 := HA0.out.below hb
                  have cv1 := conv8n (c := c2) (K2.out _ (Kd.C_below HY.out.2 hA1.bel))
                  clear hb
                  refine hK.out _ _ ?_ (fun hHeld => ?_)
                  · exact ⟨cv1, hA1⟩
                  clear hK K
                  (try simp only [Act.put, List.setIfInBounds_toArray, List.set_cons_zero, List.set_cons_succ])
                  refine wpAnyH_take (i := 3) (oi := ?_) (v := ?_) ?_ (by kernel_rfl) (by kernel_rfl) (by kernel_rfl) ?_ ?_ (by assumption) ?_
                  rotate_left 2
                  · (try simp only [List.getElem?_toArray, List.getElem?_cons_succ, List.getElem?_cons_zero]) <;> rfl
                  · exact fun _ _ _ h => h
                  · refine Or.inl ⟨by rfl, ?_⟩
                    intro wz hSw
                    try dsimp only at hSw
                    first | (go_simp; done) | (go_simp; with_reducible rfl)
                  (try simp only [Act.put, List.setIfInBounds_toArray, List.set_cons_zero, List.set_cons_succ])
                  refine wpAnyH_take (i := 4) (oi := ?_) (v := ?_) ?_ (by kernel_rfl) (by kernel_rfl) (by kernel_rfl) ?_ ?_ (by assumption) ?_
                  rotate_left 2
                  · (try simp only [List.getElem?_toArray, List.getElem?_cons_succ, List.getElem?_cons_zero]) <;> rfl
                  · exact fun _ _ _ h => h
                  · refine Or.inl ⟨by rfl, ?_⟩
                    intro wz hSw
                    try dsimp only at hSw
                    first | (go_simp; done) | (go_simp; with_reducible rfl)
                  (try simp only [Act.put, List.setIfInBounds_toArray, List.set_cons_zero, List.set_cons_succ])
                  refine wpAnyH_take (i := 5) (oi := ?_) (v := ?_) ?_ (by kernel_rfl) (by kernel_rfl) (by kernel_rfl) ?_ ?_ (by assumption) ?_
                  rotate_left 2
                  · (try simp only [List.getElem?_toArray, List.getElem?_cons_succ, List.getElem?_cons_zero]) <;> rfl
                  · exact fun _ _ _ h => h
                  · refine Or.inl ⟨by rfl, ?_⟩
                    intro wz hSw
                    try dsimp only at hSw
                    first | (go_simp; done) | (go_simp; with_reducible rfl)
                  (try simp only [Act.put, List.setIfInBounds_toArray, List.set_cons_zero, List.set_cons_succ])
                  refine wpAnyH_take (i := 6) (oi := ?_) (v := ?_) ?_ (by kernel_rfl) (by kernel_rfl) (by kernel_rfl) ?_ ?_ (by assumption) ?_
                  rotate_left 2
                  · (try simp only [List.getElem?_toArray, List.getElem?_cons_succ, List.getElem?_cons_zero]) <;> rfl
                  · exact fun _ _ _ h => h
                  · refine Or.inl ⟨by rfl, ?_⟩
                    intro wz hSw
                    try dsimp only at hSw
                    first | (go_simp; done) | (go_simp; with_reducible rfl)
                  (try simp only [Act.put, List.setIfInBounds_toArray, List.set_cons_zero, List.set_cons_succ])
                  refine wpAnyH_take (i := 7) (oi := ?_) (v := ?_) ?_ (by kernel_rfl) (by kernel_rfl) (by kernel_rfl) ?_ ?_ (by assumption) ?_
                  rotate_left 2
                  · (try simp only [List.getElem?_toArray, List.getElem?_cons_succ, List.getElem?_cons_zero]) <;> rfl
                  · exact fun _ _ _ h => h
                  · refine Or.inl ⟨by rfl, ?_⟩
                    intro wz hSw
                    try dsimp only at hSw
                    first | (go_simp; done) | (go_simp; with_reducible rfl)
                  (try simp only [Act.put, List.setIfInBounds_toArray, List.set_cons_zero, List.set_cons_succ])
                  refine wpAnyH_take (i := 8) (oi := ?_) (v := ?_) ?_ (by kernel_rfl) (by kernel_rfl) (by kernel_rfl) ?_ ?_ (by assumption) ?_
                  rotate_left 2
                  · (try simp only [List.getElem?_toArray, List.getElem?_cons_succ, List.getElem?_cons_zero]) <;> rfl
                  · exact fun _ _ _ h => h
                  · refine Or.inl ⟨by rfl, ?_⟩
                    intro wz hSw
                    try dsimp only at hSw
                    first | (go_simp; done) | (go_simp; with_reducible rfl)
                  (try simp only [Act.put, List.setIfInBounds_toArray, List.set_cons_zero, List.set_cons_succ])
                  refine wpAnyH_take (i := 9) (oi := ?_) (v := ?_) ?_ (by kernel_rfl) (by kernel_rfl) (by kernel_rfl) ?_ ?_ (by assumption) ?_
                  rotate_left 2
                  · (try simp only [List.getElem?_toArray, List.getElem?_cons_succ, List.getElem?_cons_zero]) <;> rfl
                  · exact fun _ _ _ h => h
                  · refine Or.inl ⟨by rfl, ?_⟩
                    intro wz hSw
                    try dsimp only at hSw
                    first | (go_simp; done) | (go_simp; with_reducible rfl)
                  (try simp only [Act.put, List.setIfInBounds_toArray, List.set_cons_zero, List.set_cons_succ])
                  refine wpAnyH_take (i := 10) (oi := ?_) (v := ?_) ?_ (by kernel_rfl) (by kernel_rfl) (by kernel_rfl) ?_ ?_ (by assumption) ?_
                  rotate_left 2
                  · (try simp only [List.getElem?_toArray, List.getElem?_cons_succ, List.getElem?_cons_zero]) <;> rfl
                  · exact fun _ _ _ h => h
                  · refine Or.inl ⟨by rfl, ?_⟩
                    intro wz hSw
                    try dsimp only at hSw
                    first | (go_simp; done) | (go_simp; with_reducible rfl)
                  (try simp only [Act.put, List.setIfInBounds_toArray, List.set_cons_zero, List.set_cons_succ])
                  refine wpAnyH_take (i := 11) (oi := ?_) (v := ?_) ?_ (by kernel_rfl) (by kernel_rfl) (by kernel_rfl) ?_ ?_ (by assumption) ?_
                  rotate_left 2
                  · (try simp only [List.getElem?_toArray, List.getElem?_cons_succ, List.getElem?_cons_zero]) <;> rfl
                  · exact fun _ _ _ h => h
                  · refine Or.inl ⟨by rfl, ?_⟩
                    intro wz hSw
                    try dsimp only at hSw
                    first | (go_simp; done) | (go_simp; with_reducible rfl)
                  (try simp only [Act.put, List.setIfInBounds_toArray, List.set_cons_zero, List.set_cons_succ])
                  refine wpAnyH_take (i := 12) (oi := ?_) (v := ?_) ?_ (by kernel_rfl) (by kernel_rfl) (by kernel_rfl) ?_ ?_ (by assumption) ?_
                  rotate_left 2
                  · (try simp only [List.getElem?_toArray, List.getElem?_cons_succ, List.getElem?_cons_zero]) <;> rfl
                  · exact fun _ _ _ h => h
                  · refine Or.inl ⟨by rfl, ?_⟩
                    intro wz hSw
                    try dsimp only at hSw
                    first | (go_simp; done) | (go_simp; with_reducible rfl)
                  (try simp only [Act.put, List.setIfInBounds_toArray, List.set_cons_zero, List.set_cons_succ])
                  refine wpAnyH_take (i := 13) (oi := ?_) (v := ?_) ?_ (by kernel_rfl) (by kernel_rfl) (by kernel_rfl) ?_ ?_ (by assumption) ?_
                  rotate_left 2
                  · (try simp only [List.getElem?_toArray, List.getElem?_cons_succ, List.getElem?_cons_zero]) <;> rfl
                  · exact fun _ _ _ h => h
                  · refine Or.inl ⟨by rfl, ?_⟩
                    intro wz hSw
                    try dsimp only at hSw
                    first | (go_simp; done) | (go_simp; with_reducible rfl)
                  (try simp only [Act.put, List.setIfInBounds_toArray, List.set_cons_zero, List.set_cons_succ])
                  refine wpAnyH_take (i := 14) (oi := ?_) (v := ?_) ?_ (by kernel_rfl) (by kernel_rfl) (by kernel_rfl) ?_ ?_ (by assumption) ?_
                  rotate_left 2
                  · (try simp only [List.getElem?_toArray, List.getElem?_cons_succ, List.getElem?_cons_zero]) <;> rfl
                  · exact fun _ _ _ h => h
                  · refine Or.inl ⟨by rfl, ?_⟩
                    intro wz hSw
                    try dsimp only at hSw
                    first | (go_simp; done) | (go_simp; with_reducible rfl)
                  (try simp only [Act.put, List.setIfInBounds_toArray, List.set_cons_zero, List.set_cons_succ])
                  refine wpAnyH_take (i := 17) (oi := ?_) (v := ?_) ?_ (by kernel_rfl) (by kernel_rfl) (by kernel_rfl) ?_ ?_ (by assumption) ?_
                  rotate_left 2
                  · (try simp only [List.getElem?_toArray, List.getElem?_cons_succ, List.getElem?_cons_zero]) <;> rfl
                  · exact fun _ _ _ h => h
                  · refine Or.inl ⟨by rfl, ?_⟩
                    intro wz hSw
                    try dsimp only at hSw
                    first | (go_simp; done) | (go_simp; with_reducible rfl)
                  (try simp only [Act.put, List.setIfInBounds_toArray, List.set_cons_zero, List.set_cons_succ])
                  refine wpAnyH_take (i := 18) (oi := ?_) (v := ?_) ?_ (by kernel_rfl) (by kernel_rfl) (by kernel_rfl) ?_ ?_ (by assumption) ?_
                  rotate_left 2
                  · (try simp only [List.getElem?_toArray, List.getElem?_cons_succ, List.getElem?_cons_zero]) <;> rfl
                  · exact fun _ _ _ h => h
                  · refine Or.inl ⟨by rfl, ?_⟩
                    intro wz hSw
                    try dsimp only at hSw
                    first | (go_simp; done) | (go_simp; with_reducible rfl)
                  (try simp only [Act.put, List.setIfInBounds_toArray, List.set_cons_zero, List.set_cons_succ])
                  refine wpAnyH_take (i := 19) (oi := ?_) (v := ?_) ?_ (by kernel_rfl) (by kernel_rfl) (by kernel_rfl) ?_ ?_ (by assumption) ?_
                  rotate_left 2
                  · (try simp only [List.getElem?_toArray, List.getElem?_cons_succ, List.getElem?_cons_zero]) <;> rfl
                  · exact fun _ _ _ h => h
                  · refine Or.inl ⟨by rfl, ?_⟩
                    intro wz hSw
                    try dsimp only at hSw
                    first | (go_simp; done) | (go_simp; with_reducible rfl)
                  (try simp only [Act.put, List.setIfInBounds_toArray, List.set_cons_zero, List.set_cons_succ])
                  refine wpAnyH_take (i := 20) (oi := ?_) (v := ?_) ?_ (by kernel_rfl) (by kernel_rfl) (by kernel_rfl) ?_ ?_ (by assumption) ?_
                  rotate_left 2
                  · (try simp only [List.getElem?_toArray, List.getElem?_cons_succ, List.getElem?_cons_zero]) <;> rfl
                  · exact fun _ _ _ h => h
                  · refine Or.inl ⟨by rfl, ?_⟩
                    intro wz hSw
                    try dsimp only at hSw
                    first | (go_simp; done) | (go_simp; with_reducible rfl)
                  (try simp only [Act.put, List.setIfInBounds_toArray, List.set_cons_zero, List.set_cons_succ])
                  refine wpAnyH_ready (rs := [15]) (by kernel_rfl) (by simp) ?_
                  refine AllReadyH.cons (o := ?_) ?_ (fun K hK => ?_) AllReadyH.nil
                  rotate_left 1
                  · (try simp only [List.getElem?_toArray, List.getElem?_cons_succ, List.getElem?_cons_zero]) <;> rfl
                  go_simp
                  refine (bytes_any w _ ga va (bs.take p) hA1 LP8.out).mono ?_
                  rintro en w32 ⟨v32, rfl, hr, hb⟩
                  obtain ⟨A32, c32, rfl, _, hC32⟩ := Kd.R_reads hr
                  have hA2 := hA1.below hb
                  rw [LP.out] at hC32
                  have cv2 := conv8n (c := c32) hC32
                  have cv3 := conv8n (c := c2) (K2.out _ (Kd.C_below HY.out.2 hA2.bel))
                  rw [LP.out]
                  clear hb hr
                  refine hK.out _ _ ?_ (fun hHeld => ?_)
                  · exact ⟨cv3, hA2⟩
                  clear hK K
                  (try simp only [Act.put, List.setIfInBounds_toArray, List.set_cons_zero, List.set_cons_succ])
                  refine held_mono (S' := fun w' => (convert 23 9 (.slice A2 p c2)).run Try.prog w' = .ok (.string (strOfNums (bs.take p))) w' ∧ Wr w w' ga va (bs.take p) ∧ (convert 23 9 (.slice A32 p c32)).run Try.prog w' = .ok (.string (strOfNums (bs.take p))) w') (fun _ h => ⟨h.1, h.2.1⟩) _ _ _ _ ?_
                  have hHeld2 := And.intro cv3 (And.intro hA2 cv2)
                  refine wpAnyH_take (i := 16) (oi := ?_) (v := ?_) ?_ (by kernel_rfl) (by kernel_rfl) (by kernel_rfl) ?_ ?_ (by assumption) ?_
                  rotate_left 2
                  · (try simp only [List.getElem?_toArray, List.getElem?_cons_succ, List.getElem?_cons_zero]) <;> rfl
                  · exact fun _ _ _ h => h
                  · refine Or.inl ⟨by rfl, ?_⟩
                    intro wz hSw
                    try dsimp only at hSw
                    first | (go_simp; done) | (go_simp; with_reducible rfl)
                  (try simp only [Act.put, List.setIfInBounds_toArray, List.set_cons_zero, List.set_cons_succ])
                  refine wpAnyH_take (i := 21) (oi := ?_) (v := ?_) ?_ (by kernel_rfl) (by kernel_rfl) (by kernel_rfl) ?_ ?_ (by assumption) ?_
                  rotate_left 2
                  · (try simp only [List.getElem?_toArray, List.getElem?_cons_succ, List.getElem?_cons_zero]) <;> rfl
                  · exact fun _ _ _ h => h
                  · refine Or.inl ⟨by rfl, ?_⟩
                    intro wz hSw
                    try dsimp only at hSw
                    first | (go_simp; done) | (go_simp; with_reducible rfl)
                  (try simp only [Act.put, List.setIfInBounds_toArray, List.set_cons_zero, List.set_cons_succ])
                  refine wpAnyH_take (i := 22) (oi := ?_) (v := ?_) ?_ (by kernel_rfl) (by kernel_rfl) (by kernel_rfl) ?_ ?_ (by assumption) ?_
                  rotate_left 2
                  · (try simp only [List.getElem?_toArray, List.getElem?_cons_succ, List.getElem?_cons_zero]) <;> rfl
                  · exact fun _ _ _ h => h
                  · refine Or.inl ⟨by rfl, ?_⟩
                    intro wz hSw
                    try dsimp only at hSw
                    first | (go_simp; done) | (go_simp; with_reducible rfl)
                  (try simp only [Act.put, List.setIfInBounds_toArray, List.set_cons_zero, List.set_cons_succ])
                  refine wpAnyH_take (i := 23) (oi := ?_) (v := ?_) ?_ (by kernel_rfl) (by kernel_rfl) (by kernel_rfl) ?_ ?_ (by assumption) ?_
                  rotate_left 2
                  · (try simp only [List.getElem?_toArray, List.getElem?_cons_succ, List.getElem?_cons_zero]) <;> rfl
                  · exact fun _ _ _ h => h
                  · refine Or.inl ⟨by rfl, ?_⟩
                    intro wz hSw
                    try dsimp only at hSw
                    first | (go_simp; done) | (go_simp; with_reducible rfl)
                  (try simp only [Act.put, List.setIfInBounds_toArray, List.set_cons_zero, List.set_cons_succ])
                  refine wpAnyH_ready (rs := [24]) (by kernel_rfl) (by simp) ?_
                  refine AllReadyH.cons (o := ?_) ?_ (fun K hK => ?_) AllReadyH.nil
                  rotate_left 1
                  · (try simp only [List.getElem?_toArray, List.getElem?_cons_succ, List.getElem?_cons_zero]) <;> rfl
                  go_simp
                  refine (known_any _).mono ?_
                  rintro en w33 ⟨rfl, hb⟩
                  have hA3 := hA2.below hb
                  have cv4 := conv8n (c := c2) (K2.out _ (Kd.C_below HY.out.2 hA3.bel))
                  have cv5 := conv8n (c := c32) (Kd.C_below hC32 hb)
                  clear hb
                  refine hK.out _ _ ?_ (fun hHeld => ?_)
                  · exact ⟨cv4, hA3, cv5⟩
                  clear hK K
                  (try simp only [Act.put, List.setIfInBounds_toArray, List.set_cons_zero, List.set_cons_succ])
                  refine wpAnyH_take (i := 25) (oi := ?_) (v := ?_) ?_ (by kernel_rfl) (by kernel_rfl) (by kernel_rfl) ?_ ?_ (by assumption) ?_
                  rotate_left 2
                  · (try simp only [List.getElem?_toArray, List.getElem?_cons_succ, List.getElem?_cons_zero]) <;> rfl
                  · exact fun _ _ _ h => h
                  · refine Or.inl ⟨by rfl, ?_⟩
                    intro wz hSw
                    try dsimp only at hSw
                    first | (go_simp; done) | (go_simp; with_reducible rfl)
                  (try simp only [Act.put, List.setIfInBounds_toArray, List.set_cons_zero, List.set_cons_succ])
                  refine wpAnyH_take (i := 26) (oi := ?_) (v := ?_) ?_ (by kernel_rfl) (by kernel_rfl) (by kernel_rfl) ?_ ?_ (by assumption) ?_
                  rotate_left 2
                  · (try simp only [List.getElem?_toArray, List.getElem?_cons_succ, List.getElem?_cons_zero]) <;> rfl
                  · exact fun _ _ _ h => h
                  · refine Or.inl ⟨by rfl, ?_⟩
                    intro wz hSw
                    try dsimp only at hSw
                    first | (go_simp; done) | (go_simp; with_reducible rfl)
                  (try simp only [Act.put, List.setIfInBounds_toArray, List.set_cons_zero, List.set_cons_succ])
                  refine wpAnyH_done (by kernel_rfl) ?_ _
                  go_wp2
                  go_ret
                  exact ⟨rfl, hA3.bel⟩
    · have hdb : decide ((300 : Int) < (bs.length : Int)) = true := decide_eq_true (by omega)
      clear hs hd hl
      go_enter Try.func6, Try.ntmps6
      go_wp2_with (first | (go_at_call 25; refine (SM.out _ HX.out).mono ?_; rintro en w1 ⟨rfl, hb⟩; have KD := Lib.hid hb; clear hb) | (go_at_call 20; refine (known_any _).mono ?_; rintro en w14 ⟨rfl, hb⟩; have KD := Lib.hid (below_step KD.out hb); clear hb))
      go_ret
      exact ⟨rfl, KD.out⟩
end Go.Proofs.Ytfcpofkhcfilmaa.Vn
