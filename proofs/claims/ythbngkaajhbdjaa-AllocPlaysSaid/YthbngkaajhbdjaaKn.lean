/- The examples of layer 7's chapter: known answers true. -/
import Derived.Test.YthbngkaajhbdjaaLb
namespace Go.Proofs.Ythbngkaajhbdjaa.Al
open Go.RowKit Go.Proofs Go.Proofs.YthbngkaajhbdjaaW.PrintWords Go.Proofs.Ythbngkaajhbdjaa.Kit

structure KS (w0 : World) (b g : Nat) (l e : Int) (w : World) : Prop where
  al : Al w b 7 l e
  bel : Below w0.heap.size w0 w
  bw : w0.heap.size ≤ b
  z : w.heap[g]? = some (.cells #[.int .i64 0, .int .i64 0] 32 (0, 0))
  gb : g ≠ b
section
variable {w0 w w1 : World} {b g : Nat} {l e l' e' : Int}
theorem HV7 : validB 7 3 5 = true := rfl
theorem HV1 : validB 1 4294967295 4294967295 = true := rfl
theorem HR1 : ((1 : Int) == 0) = false := rfl
theorem HR7 : ((7 : Int) == 0) = false := rfl
theorem KS.step (h : KS w0 b g l e w) (ha : Al w1 b 7 l' e') (hg : w.grownBy w1 (some b)) : KS w0 b g l' e' w1 :=
  ⟨ha, grown_below h.bel h.bel.size hg (fun k hk => by injection hk with hk; have := h.bw; omega), h.bw, blk_grown h.z hg (fun e => h.gb (by injection e)), h.gb⟩
theorem KS.below (h : KS w0 b g l e w) (hb : Below w.heap.size w w1) : KS w0 b g l e w1 :=
  ⟨h.al.below hb, below_step h.bel hb, h.bw, blk_below h.z hb, h.gb⟩
theorem KS.z0 (h : KS w0 b g l e w) : w.cell? ⟨g, 0, none⟩ = some (.int .i64 0) := (blk_cell h.z 0).trans rfl
theorem KS.z1 (h : KS w0 b g l e w) : w.cell? ⟨g, 1, none⟩ = some (.int .i64 0) := (blk_cell h.z 1).trans rfl
theorem KS.init {w5 : World} (hbw : w0.heap.size ≤ b) (ha : Al w b 7 l e) (hb : Below w0.heap.size w0 w) (hg : g = w.heap.size) (hbox : w5.heap[g]? = some (.cells #[.int .i64 0, .int .i64 0] 32 (0, 0))) (h5 : Below w.heap.size w w5) :
    KS w0 b g l e ((w5.setCell ⟨g, 0, none⟩ (.int .i64 0)).setCell ⟨g, 1, none⟩ (.int .i64 0)) := by
  have hlt := ha.lt
  have hs := hb.size
  have hgb : g ≠ b := by omega
  have hw : w0.heap.size ≤ g := by omega
  exact ⟨(((ha.below h5).grown (grown_set w5 g 0 _) (fun e => hgb (by injection e with e; exact e.symm))).grown (grown_set _ g 1 _) (fun e => hgb (by injection e with e; exact e.symm))), below_set (below_set (below_step hb h5) hw) hw, hbw, blk_put (cs := #[.int .i64 0, .int .i64 0]) (blk_put hbox 0 _ rfl) 1 _ rfl, hgb⟩
end
theorem C_lit1 (W : World) (x y : Int) : d32.C (W.alloc (.cells #[.int .i64 x, .int .i64 y] 32 (0, 0))) (some ⟨W.heap.size, 0, none⟩) 1 [(x, y)] := by
  refine ⟨rfl, by omega, fun _ => ⟨_, rfl, fun j p hj => ?_⟩⟩
  cases j with
  | zero =>
    have hp : (x, y) = p := by simpa using hj
    subst hp
    refine ⟨[.int .i64 x, .int .i64 y], rfl, ⟨[.int .i64 x], [.int .i64 y], rfl, rfl, rfl⟩, fun i u hu => ?_⟩
    rw [add_plain, blk_cell (blk_new W _)]
    simpa [d32, Kd.pair, Kd.int, Kd.scalar] using hu
  | succ j => simp at hj

theorem takes_nil (b : Nat) (r l e n no : Int) (w : World) (hr : (r == 0) = false) (h : Al w b r l e) (hl : 0 ≤ l) (hle : l ≤ e) (he : e ≤ 4294967295) (h1 : no = takeE l e n) (h3 : takeN l e n = 0) :
    Calls Try.prog 25 #[.pointer (some ⟨b, 0, none⟩), .int .i64 n, .int .i64 no, .slice none 0 0] w (TakesP b r l e n w) :=
  takes_ok b r l e n no none 0 [] w hr h hl hle he h1 (C_nil _) (by rw [h3]; rfl) (fun _ h => by cases h)
/-- One dot is taken: the list is a literal. -/
theorem takes_one (b : Nat) (r l e c : Int) (w : World) (hr : (r == 0) = false) (h : Al w b r l e) (hl : 0 ≤ l) (hle : l < e) (he : e ≤ 4294967295) (h1 : c = l + 1) (h2 : takeE l e 1 = 0) (h3 : takeN l e 1 = 1) :
    Calls Try.prog 25 #[.pointer (some ⟨b, 0, none⟩), .int .i64 1, .int .i64 0, .slice (some ⟨w.heap.size, 0, none⟩) 1 1] (w.alloc (.cells #[.int .i64 r, .int .i64 c] 32)) (TakesP b r l e 1 (w.alloc (.cells #[.int .i64 r, .int .i64 c] 32))) :=
  takes_ok b r l e 1 0 (some ⟨w.heap.size, 0, none⟩) 1 [(r, c)] _ hr (h.below (below_alloc (Below.refl _ _) _)) hl (by omega) he h2.symm (C_lit1 w r c) (by rw [h3, h1]; simp [dots]) (fun ad e _ => by injection e with e; rw [← e]; exact Nat.ne_of_gt h.lt)

set_option maxHeartbeats 400000 in
theorem at_any (r c : Int) (w : World) : Calls Try.prog 13 #[.int .i64 r, .int .i64 c] w fun en w' => en = .returned (.agg #[.int .i64 r, .int .i64 c]) ∧ Below w.heap.size w w' := by
  go_enter Try.func13, Try.ntmps13
  go_wp2
  refine bodyPost_ret (results_cell_row rfl _ _ w.heap.size 32 #[.int .i64 r, .int .i64 c] (0, 0) _ rfl (blk_new w _) Try.underlying32 rfl (by kernel_rfl)) rfl ?_
  exact ⟨rfl, below_alloc (Below.refl _ _) _⟩

set_option maxHeartbeats 400000 in
theorem known_a (w : World) : Calls Try.prog 8 #[] w fun en w' => en = .returned (.bool true) ∧ Below w.heap.size w w' := by
  go_enter Try.func8, Try.ntmps8
  go_wp2_with (first | (go_at_call 9; ((with_reducible refine (new_yes 7 3 5 _ HV7).mono ?_); rintro en w1 ⟨b, rfl, hbw, HA1, hb1⟩; have K0 := Lib.hid (And.intro hbw (And.intro HA1 hb1)); clear hbw HA1 hb1)) | ((with_reducible refine gate_dst (N := 3) rfl ?_); refine box_event rfl (N := 3) rfl (cs := #[.int .i64 0, .int .i64 0]) (t := 32) ?hr ?_; (case hr => first | (go_simp; done) | (go_simp; rfl)); intro g hg w5 hbox hb; have K := Lib.hid (KS.init K0.out.1 K0.out.2.1 K0.out.2.2 hg hbox hb); have p0 := (blk_cell hbox 0).trans rfl; have p1 := (blk_cell hbox 1).trans rfl; have f0 := blk_frozen hbox 0; have f1 := blk_frozen hbox 1; clear hb hbox hg) | (go_at_call 13; refine (at_any _ _ _).mono ?_; rintro en w1 ⟨rfl, hb1⟩; have K := Lib.hid (K.out.below hb1); have p0 := K.out.z0; have p1 := K.out.z1) | (go_at_call 19; ((with_reducible refine (next_ok b 7 _ _ _ _ _ _ HR7 K.out.al (by decide) (by decide) (by decide) (by decide) (by decide) (by decide)).mono ?_); rintro en w1 ⟨rfl, HA1, HG1⟩; simp [nextLast, takeN, extendEnd, passLast] at HA1; have K := Lib.hid (K.out.step HA1 HG1); have p0 := K.out.z0; have p1 := K.out.z1)) | (go_at_call 12; ((with_reducible refine (left_any b 7 _ _ _ HR7 K.out.al (by decide) (by decide) (by decide)).mono ?_); rintro en w1 ⟨rfl, rfl⟩)) | (go_at_call 25; ((with_reducible refine (takes_nil b 7 _ _ _ _ _ HR7 K.out.al (by decide) (by decide) (by decide) (by decide) (by decide)).mono ?_); rintro en w1 ⟨rfl, HA1, HG1⟩; simp [nextLast, takeN, extendEnd, passLast] at HA1; have K := Lib.hid (K.out.step HA1 HG1); have p0 := K.out.z0; have p1 := K.out.z1)) | (go_at_call 25; ((with_reducible refine (takes_one b 7 _ _ 5 _ HR7 K.out.al (by decide) (by decide) (by decide) (by decide) (by decide) (by decide)).mono ?_); rintro en w1 ⟨rfl, HA1, HG1⟩; simp [nextLast, takeN, extendEnd, passLast] at HA1; have K := Lib.hid ((K.out.below (below_alloc (Below.refl _ _) _)).step HA1 HG1); have p0 := K.out.z0; have p1 := K.out.z1)) | (go_at_call 20; ((with_reducible refine (extend_any b 7 _ _ _ _ HR7 K.out.al).mono ?_); rintro en w1 ⟨rfl, HA1, HG1⟩; simp [nextLast, takeN, extendEnd, passLast] at HA1; have K := Lib.hid (K.out.step HA1 HG1); have p0 := K.out.z0; have p1 := K.out.z1; simp [extendE])) | (go_at_call 21; ((with_reducible refine (pass_any b 7 _ _ _ _ HR7 K.out.al).mono ?_); rintro en w1 ⟨rfl, HA1, HG1⟩; simp [nextLast, takeN, extendEnd, passLast] at HA1; have K := Lib.hid (K.out.step HA1 HG1); have p0 := K.out.z0; have p1 := K.out.z1; simp [passE])) | (go_at_call 9; ((with_reducible refine (new_yes 1 4294967295 4294967295 _ HV1).mono ?_); rintro en w1 ⟨b2, rfl, hbw, HA1, hb1⟩; have L := Lib.hid (And.intro HA1 (below_step K.out.bel hb1)); clear hbw HA1 hb1)) | (go_at_call 15; ((with_reducible refine (none_ok _ _ _ _ rfl).mono ?_); rintro en w1 ⟨rfl, hb1⟩; have L := Lib.hid (And.intro (L.out.1.below hb1) (below_step L.out.2 hb1)); clear hb1)) | (go_at_call 12; ((with_reducible refine (left_any b2 1 4294967295 4294967295 _ HR1 L.out.1 (by decide) (by decide) (by decide)).mono ?_); rintro en w1 ⟨rfl, rfl⟩)) | (go_at_call 11; refine (last_any b 7 _ _ _ HR7 K.out.al).mono ?_; rintro en w1 ⟨rfl, rfl⟩) | (go_at_call 22; refine (end_any b 7 _ _ _ HR7 K.out.al).mono ?_; rintro en w1 ⟨rfl, rfl⟩))
  go_ret
  exact ⟨rfl, L.out.2⟩
end Go.Proofs.Ythbngkaajhbdjaa.Al
