/- The helpers of layer 7's laws answer true where what is asked is what the allocator gives. -/
import Derived.Test.YthbngkaajhbdjaaSm
import Derived.Test.YthbngkaajhbdjaaAln
namespace Go.Proofs.Ythbngkaajhbdjaa.Al
open Go.RowKit Go.Proofs Go.Proofs.YthbngkaajhbdjaaW.PrintWords Go.Proofs.Ythbngkaajhbdjaa.Kit

attribute [local go_sem high] eqDot

theorem C_nil (w : World) : d32.C w none 0 [] := ⟨rfl, by omega, fun h => by omega⟩
/-- A list of dots behind a call that has written another block. -/
theorem C_keep1 {w w1 : World} {A : Option Addr} {n : Nat} {xs : List (Int × Int)} {b : Nat} (h : d32.C w A n xs) (hg : w.grownBy w1 (some b)) (hne : ∀ ad, A = some ad → 0 < n → ad.block ≠ b) : d32.C w1 A n xs := by
  refine ⟨h.1, h.2.1, fun hn => ?_⟩
  obtain ⟨ad, e, hc⟩ := h.2.2 hn
  refine ⟨ad, e, fun j p hj => ?_⟩
  obtain ⟨c, hl, hK, hcell⟩ := hc j p hj
  refine ⟨c, hl, hK, fun i u hu => hg.cell (hcell i u hu) ?_⟩
  have := hne ad e hn
  have hb : ∀ k, (ad.add k).block = ad.block := fun k => by unfold Addr.add; split <;> rfl
  rw [hb]
  intro e
  injection e with e
  exact this e
theorem new_yes (r l e : Int) (w : World) (h : validB r l e = true) : Calls Try.prog 9 #[.int .i64 r, .int .i64 l, .int .i64 e] w fun en w' =>
    ∃ b, en = .returned (.tuple #[.pointer (some ⟨b, 0, none⟩), .int .i64 0]) ∧ w.heap.size ≤ b ∧ Al w' b r l e ∧ Below w.heap.size w w' :=
  (new_any r l e w).mono fun en w' hp => by
    rcases hp with ⟨_, hp⟩ | ⟨h1, _⟩
    · exact hp
    · rw [h] at h1; cases h1
theorem new_no (r l e : Int) (w : World) (h : validB r l e = false) : Calls Try.prog 9 #[.int .i64 r, .int .i64 l, .int .i64 e] w fun en w' =>
    en = .returned (.tuple #[.pointer none, .int .i64 2]) ∧ Below w.heap.size w w' :=
  (new_any r l e w).mono fun en w' hp => by
    rcases hp with ⟨h1, _⟩ | ⟨_, hp⟩
    · rw [h] at h1; cases h1
    · exact hp

def StP (b : Nat) (r l e : Int) (w : World) (en : Ending) (w' : World) : Prop :=
  en = .returned (.bool true) ∧ Al w' b r l e ∧ w.grownBy w' (some b)

set_option maxHeartbeats 1000000 in
theorem next_ok (b : Nat) (r l e dr dc no : Int) (w : World) (hr : (r == 0) = false) (h : Al w b r l e) (hl : 0 ≤ l) (hle : l ≤ e) (he : e ≤ 4294967295)
    (h1 : dr = if l < e then r else 0) (h2 : dc = if l < e then l + 1 else 0) (h3 : no = nextE l e) :
    Calls Try.prog 19 #[.pointer (some ⟨b, 0, none⟩), .agg #[.int .i64 dr, .int .i64 dc], .int .i64 no] w (StP b r (nextLast l e) e w) := by
  have hlt := h.lt
  have HA := Lib.hid h
  have H1 := Lib.hid h1
  have H2 := Lib.hid h2
  have H3 := Lib.hid h3
  clear h h1 h2 h3
  go_enter Try.func19, Try.ntmps19
  go_wp2_with (first | (((with_reducible refine gate_dst (N := 4) rfl ?_); refine box_event rfl (N := 4) rfl (cs := #[.int .i64 dr, .int .i64 dc]) (t := 32) ?hr ?_; (case hr => first | (go_simp; done) | (go_simp; rfl)); intro g hg w5 hbox hb; have HB5 := Lib.hid hb; have HX5 := Lib.hid hbox; have HG5 := Lib.hid hg; clear hb hbox hg)) | (go_at_call 23; refine (next_any b r l e _ hr (HA.out.below HB5.out) hl hle he).mono ?_; rintro en w1 ⟨rfl, HA1, HG1⟩; rw [← H1.out, ← H2.out, ← H3.out]; have hgb : some g ≠ some b := (by rw [HG5.out]; intro e; injection e with e; omega); have hbx := blk_grown HX5.out HG1 hgb; have p0 := (fun o : Obj => (blk_cell (blk_alloc hbx o) 0).trans rfl); have p1 := (fun o : Obj => (blk_cell (blk_alloc hbx o) 1).trans rfl); have HX1 := Lib.hid hbx; have HA1 := Lib.hid HA1; have HG1 := Lib.hid HG1; clear hbx))
  go_ret
  have hg2 : w.grownBy w1 (some b) := grown_then (below_grown HB5.out _) HG1.out (fun j hj => Or.inr rfl)
  exact ⟨rfl, HA1.out.below (below_alloc (Below.refl _ _) _), grown_then hg2 (World.grownBy_alloc _ _ none) (fun j hj => by cases hj)⟩

set_option maxHeartbeats 1000000 in
theorem next_zr_ok (p : Value) (w : World) (h : Zr w p) :
    Calls Try.prog 19 #[p, .agg #[.int .i64 0, .int .i64 0], .int .i64 1] w fun en w' => en = .returned (.bool true) ∧ Below w.heap.size w w' := by
  have HA := Lib.hid h
  clear h
  go_enter Try.func19, Try.ntmps19
  go_wp2_with (first | (((with_reducible refine gate_dst (N := 4) rfl ?_); refine box_event rfl (N := 4) rfl (cs := #[.int .i64 0, .int .i64 0]) (t := 32) ?hr ?_; (case hr => first | (go_simp; done) | (go_simp; rfl)); intro g hg w5 hbox hb; have HB5 := Lib.hid hb; have HX5 := Lib.hid hbox; have HG5 := Lib.hid hg; clear hb hbox hg)) | (go_at_call 23; refine (next_zr p _ (HA.out.below HB5.out)).mono ?_; rintro en w1 ⟨rfl, hb1⟩; have hbx := blk_below HX5.out hb1; have p0 := (fun o : Obj => (blk_cell (blk_alloc hbx o) 0).trans rfl); have p1 := (fun o : Obj => (blk_cell (blk_alloc hbx o) 1).trans rfl); have HB1 := Lib.hid hb1; clear hbx hb1))
  go_ret
  exact ⟨rfl, below_alloc (below_step HB5.out HB1.out) _⟩

def TakesP (b : Nat) (r l e n : Int) (w : World) (en : Ending) (w' : World) : Prop :=
  en = .returned (.bool true) ∧ Al w' b r (l + takeN l e n) e ∧ w.grownBy w' (some b)
set_option maxHeartbeats 1000000 in
theorem takes_ok (b : Nat) (r l e n no : Int) (A : Option Addr) (ca : Nat) (xs : List (Int × Int)) (w : World) (hr : (r == 0) = false) (h : Al w b r l e) (hl : 0 ≤ l) (hle : l ≤ e) (he : e ≤ 4294967295)
    (h1 : no = takeE l e n) (h2 : d32.C w A xs.length xs) (h3 : xs = dots r l (takeN l e n)) (h4 : ∀ ad, A = some ad → 0 < xs.length → ad.block ≠ b) :
    Calls Try.prog 25 #[.pointer (some ⟨b, 0, none⟩), .int .i64 n, .int .i64 no, .slice A xs.length ca] w (TakesP b r l e n w) := by
  have hlt := h.lt
  have HA := Lib.hid h
  have H1 := Lib.hid h1
  have H2 := Lib.hid h2
  have H3 := Lib.hid h3
  have H4 := Lib.hid h4
  clear h h1 h2 h3 h4
  go_enter Try.func25, Try.ntmps25
  go_wp2_with (first | (go_at_call 10; refine (take_any b r l e n _ hr HA.out hl hle he).mono ?_; rintro en w1 ⟨v, rfl, HR, HA1, HG1⟩; rw [← H1.out]; rw [← H3.out] at HR; obtain ⟨A', c', rfl, _, HC⟩ := Kd.R_reads HR; clear HR; have HC := Lib.hid HC; have HA1 := Lib.hid HA1; have HG1 := Lib.hid HG1) | (go_at_call 32; refine (same_any A' A _ _ xs xs w1 HC.out (C_keep1 H2.out HG1.out H4.out)).mono ?_; rintro en w2 ⟨rfl, hb2⟩; rw [decide_eq_true rfl]; have HB2 := Lib.hid hb2; clear hb2))
  go_ret
  exact ⟨rfl, HA1.out.below HB2.out, grown_then HG1.out (below_grown HB2.out none) (fun j hj => by cases hj)⟩
set_option maxHeartbeats 1000000 in
theorem takes_zr_ok (p : Value) (n : Int) (w : World) (h : Zr w p) :
    Calls Try.prog 25 #[p, .int .i64 n, .int .i64 1, .slice none 0 0] w fun en w' => en = .returned (.bool true) ∧ Below w.heap.size w w' := by
  have HA := Lib.hid h
  clear h
  go_enter Try.func25, Try.ntmps25
  go_wp2_with (first | (go_at_call 10; refine (take_zr p _ HA.out n).mono ?_; rintro en w1 ⟨rfl, rfl⟩) | (go_at_call 32; refine (same_any none none 0 0 [] [] w (C_nil w) (C_nil w)).mono ?_; rintro en w2 ⟨rfl, hb2⟩; rw [decide_eq_true rfl]; have HB2 := Lib.hid hb2; clear hb2))
  go_ret
  exact ⟨rfl, HB2.out⟩

set_option maxHeartbeats 1000000 in
theorem none_ok (r l e : Int) (w : World) (h : validB r l e = false) :
    Calls Try.prog 15 #[.int .i64 r, .int .i64 l, .int .i64 e] w fun en w' => en = .returned (.bool true) ∧ Below w.heap.size w w' := by
  have HV := Lib.hid h
  clear h
  go_enter Try.func15, Try.ntmps15
  go_wp2_with (go_at_call 9; refine (new_no r l e w HV.out).mono ?_; rintro en w1 ⟨rfl, hb1⟩; have HB1 := Lib.hid hb1; clear hb1)
  go_ret
  exact ⟨rfl, HB1.out⟩
end Go.Proofs.Ythbngkaajhbdjaa.Al
