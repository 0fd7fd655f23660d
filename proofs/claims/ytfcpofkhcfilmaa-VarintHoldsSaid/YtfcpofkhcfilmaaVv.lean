/- VarintWrites of layer 1: the walk. -/
import Derived.Test.YtfcpofkhcfilmaaVt
namespace Go.Proofs.Ytfcpofkhcfilmaa.Vn
open Go.RowKit Go.Proofs Go.Proofs.YtfcpofkhcfilmaaW.PrintWords Go.Proofs.Ytfcpofkhcfilmaa.Kit Go.Proofs.Ytfcpofkhcfilmaa.PVarintWrites
set_option linter.unusedSimpArgs false
set_option linter.unusedVariables false

theorem cell_below {w w1 : World} {a : Addr} {u : Value} (h : w.cell? a = some u) (hb : Below w.heap.size w w1) : w1.cell? a = some u := by
  have hlt := World.block_lt_of_cell? w _ h
  rw [← h]
  unfold World.cell?
  rw [hb.block _ hlt]
def pcat (xs : List S48) (k : Nat) : List Int := (xs.take k).flatMap pbs
theorem pcat_succ (xs : List S48) {k : Nat} (h : k < xs.length) : pcat xs (k + 1) = pcat xs k ++ pbs (xs.getD k z48) := by
  unfold pcat
  rw [List.getD_eq_getElem?_getD, List.getElem?_eq_getElem h, List.take_add_one, List.getElem?_eq_getElem h, List.flatMap_append]
  simp
theorem pcat_length {xs : List S48} (h : ∀ j, j < xs.length → PartOk (xs.getD j z48)) : ∀ k, k ≤ xs.length → (pcat xs k).length ≤ 310 * k
  | 0, _ => by simp [pcat]
  | k + 1, hk => by
    have := pcat_length h k (by omega)
    have := pbs_length (h k (by omega))
    rw [pcat_succ xs (by omega), List.length_append]
    omega
theorem Wt.wrote {w0 w w2 : World} {g : Nat} {v v2 u : Value} {zs : List Int} (h : Wt w0 w g v u zs) (hS : WrS w w2 g v v2) : Wt w0 w2 g v2 u zs := by
  have h2 := Fr.row rfl hS.1 h (fun j hj q => by
    have := h.1 j hj
    rcases q with q | q
    · exact this.2.1 q
    · exact this.2.2 q)
  refine Kd.R_mono (Kd.R_tight rfl h2) (fun k hk => ?_)
  have h3 := h.1 k hk.symm
  refine ⟨h3.1, h3.2.1, fun e => ?_⟩
  rcases hS.2 with q | ⟨b, q, hb⟩
  · exact h3.2.2 (e.trans q)
  · rw [q] at e
    injection e with e
    have := Kd.R_lt h k hk.symm
    omega
/-- A row that is none of the writer's and not what is wanted. -/
def Own (w0 w : World) (g : Nat) (v u o : Value) (zs : List Int) : Prop := k8.R 5 w w0.heap.size (fun j => w0.heap.size ≤ j ∧ j ≠ g ∧ some j ≠ v.ownBlock ∧ some j ≠ u.ownBlock) o zs
section
variable {w0 w w1 : World} {g : Nat} {v v1 u u1 o : Value} {xs zs ys : List Int}
theorem Own.below (h : Own w0 w g v u o zs) (hb : Below w.heap.size w w1) : Own w0 w1 g v u o zs := Kd.R_below h hb
theorem Own.fresh (hW : Wr w0 w g v xs) (hT : Wt w0 w g v u ys) : ∀ k, w.heap.size ≤ k → w0.heap.size ≤ k ∧ k ≠ g ∧ some k ≠ v.ownBlock ∧ some k ≠ u.ownBlock := fun k hk =>
  have h := Wt.fresh hW k hk
  ⟨h.1, h.2.1, h.2.2, fun e => by have := Kd.R_lt hT k e.symm; omega⟩
theorem Own.wrote (h : Own w0 w g v u o zs) (hS : WrS w w1 g v v1) : Own w0 w1 g v1 u o zs := by
  have h2 := Fr.row rfl hS.1 h (fun j hj q => by
    have := h.1 j hj
    rcases q with q | q
    · exact this.2.1 q
    · exact this.2.2.1 q)
  refine Kd.R_mono (Kd.R_tight rfl h2) (fun k hk => ?_)
  have h3 := h.1 k hk.symm
  refine ⟨h3.1, h3.2.1, fun e => ?_, h3.2.2.2⟩
  rcases hS.2 with q | ⟨b, q, hb⟩
  · exact h3.2.2.1 (e.trans q)
  · rw [q] at e
    injection e with e
    have := Kd.R_lt h k hk.symm
    omega
theorem Own.wanted (h : Own w0 w g v u o zs) (hg : w.grownBy w1 u.ownBlock) (hat : u1.ownBlock = u.ownBlock ∨ ∃ b, u1.ownBlock = some b ∧ w.heap.size ≤ b) : Own w0 w1 g v u1 o zs := by
  have h2 := Fr.row rfl (Fr.grown hg) h (fun j hj q => (h.1 j hj).2.2.2 q)
  refine Kd.R_mono (Kd.R_tight rfl h2) (fun k hk => ?_)
  have h3 := h.1 k hk.symm
  refine ⟨h3.1, h3.2.1, h3.2.2.1, fun e => ?_⟩
  rcases hat with q | ⟨b, q, hb⟩
  · exact h3.2.2.2 (e.trans q)
  · rw [q] at e
    injection e with e
    have := Kd.R_lt h k hk.symm
    omega
theorem Own.wr {b n c i : Nat} {x : Value} (h : Own w0 w g v u (.slice (some ⟨b, 0, none⟩) n c) zs) (hW : Wr w0 w g v xs) : Wr w0 (w.setCell ⟨b, i, none⟩ x) g v xs := by
  have h3 := h.1 b (by simp [Value.ownBlock])
  exact hW.frame (Fr.set w b i x) (fun e => h3.2.1 e.symm) (fun j hj e => h3.2.2.1 (by rw [hj, e])) (fun j e => by have := h3.1; omega)
theorem Own.wt {b n c i : Nat} {x : Value} (h : Own w0 w g v u (.slice (some ⟨b, 0, none⟩) n c) zs) (hT : Wt w0 w g v u ys) : Wt w0 (w.setCell ⟨b, i, none⟩ x) g v u ys := by
  have h3 := h.1 b (by simp [Value.ownBlock])
  exact Fr.row rfl (Fr.set w b i x) hT (fun j hj e => h3.2.2.2 (by rw [hj, e]))
theorem Own.made {A : World} (hb : k8.R 5 w1 w.heap.size (fun j => w.heap.size ≤ j) o zs) (hW : Wr w0 w g v xs) (hT : Wt w0 w g v u ys) : Own w0 w1 g v u o zs :=
  Kd.R_lower (Kd.R_mono hb (fun k hk => Own.fresh hW hT k hk)) hW.bel.size
end
theorem off_own {w0 w : World} {g : Nat} {v u : Value} {zs : List Int} {A : Option Addr} {c : Nat} (h : Own w0 w g v u (.slice A zs.length c) zs) : Off A zs.length g v := by
  intro ad e hp
  obtain ⟨g9, cap9, hv9, _, _, _⟩ := Kd.R_form h hp
  injection hv9 with hA9 _ _
  rw [hA9] at e
  injection e with e
  have h3 := h.1 g9 (by rw [hA9]; simp [Value.ownBlock])
  rw [← e]
  exact ⟨h3.2.1, h3.2.2.1⟩

set_option maxHeartbeats 8000000 in
set_option maxRecDepth 100000 in
theorem varintWrites_walk (A : Option Addr) (c : Nat) (xs : List S48) (w : World) (hx : k48.C w A xs.length xs) (hc : xs.length ≤ c)
    (hok : ∀ x ∈ xs, (0 ≤ x.f1 ∧ x.f1 ≤ 18446744073709551615) ∧ (-9223372036854775808 ≤ x.f2 ∧ x.f2 ≤ 9223372036854775807) ∧ Bys x.f3) : Calls Try.prog 5 #[.slice A xs.length c] w (YepP w) := by
  have lx : xs.length ≤ 9223372036854775807 := hx.2.1
  obtain ⟨r, hf, hs⟩ := small_l0 xs hx.2.1 41 0 rfl (fun j hj => by omega)
  have sm : ∀ w, k48.C w A xs.length xs → Calls Try.prog 25 #[.slice A xs.length c] w (BeP (.bool r) w) := fun w hx => by
    refine (redpencillaw01_small.calls 84 A c xs r w hx hc hf).mono ?_
    rintro en w' ⟨rfl, hd⟩
    obtain ⟨n, rfl⟩ := hd.out
    exact ⟨rfl, pw_below_drewN (Below.refl _ _) n⟩
  have SM := Lib.hid sm
  have HX := Lib.hid hx
  have OK := Lib.hid hok
  clear sm hf hx hok
  cases r with
  | false =>
    clear hs
    go_enter Try.func5, Try.ntmps5
    go_wp2_with (first | (go_at_call 25; refine (SM.out _ HX.out).mono ?_; rintro en w1 ⟨rfl, hb⟩; have KD := Lib.hid hb; clear hb) | (go_at_call 20; refine (known_any _).mono ?_; rintro en w14 ⟨rfl, hb⟩; have KD := Lib.hid (below_step KD.out hb); clear hb))
    go_ret
    exact ⟨rfl, KD.out⟩
  | true =>
    obtain ⟨hl, hd⟩ := hs rfl
    have pok : ∀ j, j < xs.length → PartOk (xs.getD j z48) := fun j hj => by
      have e : xs.getD j z48 = xs[j] := by rw [List.getD_eq_getElem?_getD, List.getElem?_eq_getElem hj]; rfl
      have h1 := OK.out _ (List.getElem_mem hj)
      rw [← e] at h1
      exact ⟨h1.1.1, h1.1.2, h1.2.1.1, h1.2.1.2, h1.2.2, hd j hj⟩
    have POK := Lib.hid pok
    have PL := Lib.hid (pcat_length pok)
    clear hs hd pok OK
    go_enter Try.func5, Try.ntmps5
    go_upto_region 5 with (first | (go_at_call 25; refine (SM.out _ HX.out).mono ?_; rintro en w1 ⟨rfl, hb⟩; have KD := Lib.hid hb; clear hb) | ((with_reducible refine gate_dst (N := 3) rfl ?_); refine box_event rfl (N := 3) rfl (cs := #[.slice none 0 0]) (t := 40) ?hr ?_; (case hr => first | (go_simp; done) | (go_simp; rfl)); intro g hg w2 hbox hb; have HW := Lib.hid (wr_box KD.out hg hbox hb); clear hb hbox hg))
    go_wp2
    go_loopw [4, 17] (fun u i wr => ∃ (k : Nat) (v : Value), k ≤ xs.length ∧ i = .int .i64 k ∧ Wr w wr g v (pcat xs k) ∧ Wt w wr g v u (pcat xs k)) (fun _ i _ => (xs.length : Int).toNat - (intOf i).toNat)
    case atStart => exact ⟨0, _, by omega, rfl, HW.out, Wt.nil⟩
    case round =>
      clear HW KD
      obtain ⟨k, v, hk, rfl, hW, hT⟩ := hrel
      have HW := Lib.hid hW
      have HT := Lib.hid hT
      clear hW hT
      by_cases hlt : k < xs.length
      · obtain ⟨ad, A3, c3, eA, q0, q1, q2, q3, l3, g3⟩ := at_T48 HX.out (k : Int) (by omega) (by omega)
        subst eA
        have hrd : rd_T48 xs (k : Int) = xs.getD k z48 := by unfold rd_T48; rw [Int.toNat_natCast]
        rw [hrd, Int.toNat_natCast] at q0 q1 q2 q3
        rw [hrd] at l3 g3
        have hp := POK.out k hlt
        have hpl := pbs_length hp
        have hpc := PL.out k (by omega)
        have hcat := pcat_succ xs hlt
        have q0 := cell_below q0 HW.out.bel
        have q1 := cell_below q1 HW.out.bel
        have q2 := cell_below q2 HW.out.bel
        have q3 := cell_below q3 HW.out.bel
        generalize xs.getD k z48 = x at *
        obtain ⟨f0, f1, f2, ys⟩ := x
        have HP := Lib.hid hp
        have HPC := Lib.hid (And.intro hpl hpc)
        have HCAT := Lib.hid hcat
        have G3 := Lib.hid (And.intro l3 g3)
        clear hp hpl hpc hcat l3 g3
        simp only at q0 q1 q2 q3
        go_upto_region 8 with (fail)
        have LEN0 := Lib.hid (show (([] : List Int).length + ys.length) * 1 ≤ 140737488355328 by have h0 : ys.length ≤ 300 := HP.out.len; simp; omega)
        have LEN1 := Lib.hid (show (pcat xs k).length + ys.length ≤ 10000000 by have h0 : ys.length ≤ 300 := HP.out.len; have := HPC.out; omega)
        have LEN2 := Lib.hid (show ys.length ≤ 10000000 by have h0 : ys.length ≤ 300 := HP.out.len; omega)
        have LEN := Lib.hid (show ((pcat xs k).length + (pbd f0 f1 f2 ys).length) * 1 ≤ 140737488355328 by have h1 : (pbd f0 f1 f2 ys).length ≤ 310 := HPC.out.1; have := HPC.out.2; omega)
        have ng6 : ¬ (fun i => i = g ∨ some i = v.ownBlock) wr.heap.size := by
          rintro (e | e)
          · exact absurd (blk_lt HW.out.own) (by rw [← e]; exact Nat.lt_irrefl _)
          · exact absurd (Kd.R_lt HW.out.row _ e.symm) (Nat.lt_irrefl _)
        have NG6 := Lib.hid ng6
        have HBX := Lib.hid (blk_new wr (.cells #[.int .i64 f0, .int .u64 f1, .int .i64 f2, .slice A3 ys.length c3] 48))
        have hb6 := below_alloc (Below.refl wr.heap.size wr) (.cells #[.int .i64 f0, .int .u64 f1, .int .i64 f2, .slice A3 ys.length c3] 48)
        have HW := Lib.hid (HW.out.below hb6)
        have HT := Lib.hid (HT.out.below hb6)
        have hbx := HBX.out
        have p0 := (blk_cell hbx 0).trans rfl
        have p1 := (blk_cell hbx 1).trans rfl
        have p2 := (blk_cell hbx 2).trans rfl
        have p3 := (blk_cell hbx 3).trans rfl
        clear hb6 ng6 q0 q1 q2 q3 hbx
        generalize wr.alloc (.cells #[.int .i64 f0, .int .u64 f1, .int .i64 f2, .slice A3 ys.length c3] 48) = w6 at *
        generalize wr.heap.size = g6 at *
        go_upto_region 11 with (first | ((with_reducible refine gate_builtin (b := .append) (xs := #[.const (.slice none 0 0), .tmp 22]) rfl ?_); at_builtin; refine Kd.R_append_rows k8 (w0 := w) w.heap.size rfl (.const (.slice none 0 0)) (.tmp 22) 23 5 (.int .u8 0) 1 rfl Try.underlying23 info8 rfl (by decide) (by omega) (.slice none 0 0) [] ys _ _ _ (fun j => w.heap.size ≤ j ∧ j ≠ g ∧ some j ≠ v.ownBlock ∧ some j ≠ u4.ownBlock) (fun _ => False) rfl rfl (Kd.R_nil _ _ _ _ _) (Kd.C_below G3.out.2 HW.out.bel) (fun _ _ h => h) (fun _ h => h.elim) (Own.fresh HW.out HT.out) HW.out.bel HW.out.bel.size LEN0.out ?_; intro v9 w9 ho hb hg_ hat; rw [List.nil_append] at ho; obtain ⟨A9, c9, rfl, hc9, hC9⟩ := Kd.R_reads ho; have hb2 : Below w6.heap.size w6 w9 := ⟨hg_.os, hg_.tape, hg_.output, hg_.size, fun i hi => hg_.block i hi (by simp [Value.ownBlock])⟩; have HW := Lib.hid (HW.out.below hb2); have HT := Lib.hid (HT.out.below hb2); have HO := Lib.hid (show Own w w9 g v u4 _ ys from ho); have hbx := blk_below HBX.out hb2; have HBX := Lib.hid hbx; have p0 := (blk_cell hbx 0).trans rfl; have p1 := (blk_cell hbx 1).trans rfl; have p2 := (blk_cell hbx 2).trans rfl; have p3 := (blk_cell hbx 3).trans rfl; have C9 := Lib.hid hC9; clear ho hb hg_ hat hC9 hc9 hb2 hbx) | (go_at_call 26; refine (write_any w _ g v (pcat xs k) f0 f1 f2 (.slice A3 ys.length c3) ys A9 c9 HW.out C9.out (off_own HO.out) ⟨HP.out.n0, HP.out.n1⟩ ⟨HP.out.s0, HP.out.s1⟩ LEN1.out).mono ?_; rintro en w10 ⟨rfl, v2, hW2, hS2⟩; have hbx := hS2.1.blk HBX.out NG6.out; have HT := Lib.hid (HT.out.wrote hS2); have HO := Lib.hid (HO.out.wrote hS2); have HW := Lib.hid hW2; have HBX := Lib.hid hbx; have p0 := (blk_cell hbx 0).trans rfl; have p1 := (blk_cell hbx 1).trans rfl; have p2 := (blk_cell hbx 2).trans rfl; have p3 := (blk_cell hbx 3).trans rfl; clear hW2 hS2 hbx) | (go_at_call 27; refine (lbytes_any _ f0 f1 f2 ys A3 c3 (Kd.C_below G3.out.2 HW.out.bel) G3.out.1 ⟨HP.out.n0, HP.out.n1⟩ ⟨HP.out.s0, HP.out.s1⟩ LEN2.out).mono ?_; rintro en w11 ⟨Ae, ce, rfl, hC, hb⟩; have HW := Lib.hid (HW.out.below hb); have HT := Lib.hid (HT.out.below hb); have HO := Lib.hid (HO.out.below hb); have CE := Lib.hid hC; clear hb hC) | ((with_reducible refine gate_builtin (b := .append) (xs := #[.tmp 27, .tmp 29]) rfl ?_); at_builtin; refine Kd.R_append_rows k8 (w0 := w) w.heap.size rfl (.tmp 27) (.tmp 29) 23 5 (.int .u8 0) 1 rfl Try.underlying23 info8 rfl (by decide) (by omega) u4 (pcat xs k) (pbd f0 f1 f2 ys) _ _ _ (fun j => w.heap.size ≤ j ∧ j ≠ g ∧ some j ≠ (v2).ownBlock) (fun _ => False) rfl rfl HT.out CE.out (fun _ _ h => h) (fun _ h => h.elim) (Wt.fresh HW.out) HW.out.bel HW.out.bel.size LEN.out ?_; intro v7 w7 ho hb hg_ hat; have HW := Lib.hid (HT.out.wr HW.out hg_); have HO := Lib.hid (HO.out.wanted hg_ hat); have HT := Lib.hid (show Wt w w7 g v2 v7 _ from ho); clear ho hb hg_ hat))
        have hcat : pcat xs (k + 1) = pcat xs k ++ pbd f0 f1 f2 ys := HCAT.out
        have LENX := Lib.hid (show (pcat xs k ++ pbd f0 f1 f2 ys).length ≤ 100000 by have h1 : (pbd f0 f1 f2 ys).length ≤ 310 := HPC.out.1; have := HPC.out.2; rw [List.length_append]; omega)
        have HYL := Lib.hid (show ys.length ≤ 300 from HP.out.len)
        clear HCAT HP LEN LEN1 G3 CE C9 NG6 HBX HPC LEN0 LEN2 p0 p1 p2 p3
        generalize pcat xs k ++ pbd f0 f1 f2 ys = X at *
        have HCAT := Lib.hid hcat
        clear hcat
        obtain ⟨A7, c7, rfl, hc7, _⟩ := Kd.R_reads HT.out
        have ly : ys.length ≤ 9223372036854775807 := by have := HYL.out; omega
        go_wp2
        go_loopw [33] (fun i wr => ∃ (j : Nat) (zs : List Int), j ≤ ys.length ∧ i = .int .i64 j ∧ zs.length = ys.length ∧ Wr w wr g v2 X ∧ Wt w wr g v2 (.slice A7 X.length c7) X ∧ Own w wr g v2 (.slice A7 X.length c7) (.slice A9 ys.length c9) zs) (fun i _ => (ys.length : Int).toNat - (intOf i).toNat)
        case atStart => exact ⟨0, ys, by omega, rfl, rfl, HW.out, HT.out, HO.out⟩
        case round =>
          clear HW HT HO
          obtain ⟨j, zs, hj, rfl, hlz, hW, hT, hO⟩ := hrel
          by_cases hlj : j < ys.length
          · obtain ⟨g9, cap9, hv9, _, _, _⟩ := Kd.R_form hO (by omega)
            injection hv9 with hA9 hn9 hc9
            subst hA9
            subst hc9
            have hO2 := hO
            unfold Own at hO2
            rw [← hlz] at hO2
            obtain ⟨hcj, hfj⟩ := Kd.R_cell (0 : Int) hO2 (j : Int) (by omega) (by omega)
            have hput := fun x => (Kd.R_put hO2 (j : Int) x).1
            rw [Int.toNat_natCast] at hcj hfj
            simp only [Int.toNat_natCast, hlz] at hput
            generalize rdOf 0 zs (j : Int) = xj at hcj
            have HP := Lib.hid hput
            have HW := Lib.hid (fun u => hO.wr hW (i := j) (x := u))
            have HT := Lib.hid (fun u => hO.wt hT (i := j) (x := u))
            have HLZ2 := Lib.hid hlz
            clear hput hW hT hO hO2 hlz hn9
            go_wp2
            go_roundw
            case rel => exact ⟨j + 1, zs.set j _, by omega, by go_num, by rw [List.length_set]; exact HLZ2.out, HW.out _, HT.out _, HP.out _⟩
            case measure => simp [intOf]; omega
          · have HW := Lib.hid hW
            have HT := Lib.hid hT
            clear hW hT hO hlz
            go_upto_region 17 with (go_at_call 24; refine (bytes_any w _ g v2 X HW.out (by have := LENX.out; omega)).mono ?_; rintro en w12 ⟨v12, rfl, hr, hb⟩; obtain ⟨A12, c12, rfl, _, hC12⟩ := Kd.R_reads hr; have HO := Lib.hid (Own.made (A := w12) hr HW.out HT.out); have HW := Lib.hid (HW.out.below hb); have HT := Lib.hid (HT.out.below hb); have C12 := Lib.hid hC12; clear hr hb hC12)
            have hq12 := conv8 (c := c12) C12.out
            obtain ⟨_, _, hC7⟩ := Kd.R_reads' HT.out
            have hq7 := conv8 (c := c7) hC7
            clear hC7
            have lX : X.length ≤ 9223372036854775807 := by have := LENX.out; omega
            go_upto_region 19 with (go_at_call 28; refine (len_any w _ g v2 X HW.out (by have := LENX.out; omega)).mono ?_; rintro en w13 ⟨rfl, hb⟩; have HW := Lib.hid (HW.out.below hb); have HT := Lib.hid (HT.out.below hb); have HO := Lib.hid (HO.out.below hb); clear hb)
            clear hq12 hq7 C12
            go_wp2
            go_loopw [57] (fun i wr => ∃ (j : Nat) (zs : List Int), j ≤ X.length ∧ i = .int .i64 j ∧ zs.length = X.length ∧ Wr w wr g v2 X ∧ Wt w wr g v2 (.slice A7 X.length c7) X ∧ Own w wr g v2 (.slice A7 X.length c7) (.slice A12 X.length c12) zs) (fun i _ => (X.length : Int).toNat - (intOf i).toNat)
            case atStart => exact ⟨0, X, by omega, rfl, rfl, HW.out, HT.out, HO.out⟩
            case round =>
              clear HW HT HO
              obtain ⟨j, zs, hj, rfl, hlz, hW, hT, hO⟩ := hrel
              by_cases hlj : j < X.length
              · obtain ⟨g9, cap9, hv9, _, _, _⟩ := Kd.R_form hO (by omega)
                injection hv9 with hA9 hn9 hc9
                subst hA9
                subst hc9
                have hO2 := hO
                unfold Own at hO2
                rw [← hlz] at hO2
                obtain ⟨hcj, hfj⟩ := Kd.R_cell (0 : Int) hO2 (j : Int) (by omega) (by omega)
                have hput := fun x => (Kd.R_put hO2 (j : Int) x).1
                rw [Int.toNat_natCast] at hcj hfj
                simp only [Int.toNat_natCast, hlz] at hput
                generalize rdOf 0 zs (j : Int) = xj at hcj
                have HP := Lib.hid hput
                have HW := Lib.hid (fun u => hO.wr hW (i := j) (x := u))
                have HT := Lib.hid (fun u => hO.wt hT (i := j) (x := u))
                have HLZ2 := Lib.hid hlz
                clear hput hW hT hO hO2 hlz hn9
                go_wp2
                go_roundw
                case rel => exact ⟨j + 1, zs.set j _, by omega, by go_num, by rw [List.length_set]; exact HLZ2.out, HW.out _, HT.out _, HP.out _⟩
                case measure => simp [intOf]; omega
              · have HW := Lib.hid hW
                have HT := Lib.hid hT
                clear hW hT hO hlz
                go_wp2
                go_roundw
                case rel => exact ⟨k + 1, v2, by omega, by go_num, by rw [HCAT.out]; exact HW.out, by rw [HCAT.out]; exact HT.out⟩
                case measure => simp [intOf]; omega
      · obtain rfl : k = xs.length := by omega
        have KD := Lib.hid HW.out.bel
        go_wp2_with (go_at_call 20; refine (known_any _).mono ?_; rintro en w14 ⟨rfl, hb⟩; have KD := Lib.hid (below_step KD.out hb); clear hb)
        go_ret
        exact ⟨rfl, KD.out⟩

end Go.Proofs.Ytfcpofkhcfilmaa.Vn
