/- does makes one call of an allocator and of the reference's, and they agree. -/
import Derived.Test.YthbngkaajhbdjaaFw
namespace Go.Proofs.Ythbngkaajhbdjaa.Al
open Go.RowKit Go.Proofs Go.Proofs.YthbngkaajhbdjaaW.PrintWords Go.Proofs.Ythbngkaajhbdjaa.Kit
set_option linter.unusedSimpArgs false
set_option linter.unusedVariables false

def dotC (r l : Int) : Obj := .cells #[.int .i64 r, .int .i64 l] 32 (0, 0)
def ralC (r l e : Int) : Obj := .cells #[.int .i64 r, .int .i64 l, .int .i64 e] 36 (0, 0)
def actC (a n : Int) : Obj := .cells #[.int .i64 a, .int .i64 n] 44 (0, 0)
/-- The state of a call of does: the allocator, and the three boxes. -/
structure DS (w0 : World) (b g4 g5 g6 : Nat) (r l e a n l1 e1 : Int) (w : World) : Prop where
  al : Al w b r l1 e1
  gr : w0.grownBy w (some b)
  x4 : w.heap[g4]? = some (ralC r l e)
  x5 : w.heap[g5]? = some (actC a n)
  x6 : w.heap[g6]? = some (ralC 0 0 0)
  n4 : g4 ≠ b
  n5 : g5 ≠ b
  n6 : g6 ≠ b
  l6 : w0.heap.size ≤ g6
section
variable {w0 w w1 : World} {b g4 g5 g6 : Nat} {r l e a n l1 e1 l2 e2 : Int}
theorem DS.step (h : DS w0 b g4 g5 g6 r l e a n l1 e1 w) (ha : Al w1 b r l2 e2) (hg : w.grownBy w1 (some b)) : DS w0 b g4 g5 g6 r l e a n l2 e2 w1 :=
  ⟨ha, grown_then h.gr hg (fun _ _ => .inr rfl), blk_grown h.x4 hg (fun q => h.n4 (by injection q)), blk_grown h.x5 hg (fun q => h.n5 (by injection q)), blk_grown h.x6 hg (fun q => h.n6 (by injection q)), h.n4, h.n5, h.n6, h.l6⟩
theorem DS.below (h : DS w0 b g4 g5 g6 r l e a n l1 e1 w) (hb : Below w.heap.size w w1) : DS w0 b g4 g5 g6 r l e a n l1 e1 w1 :=
  ⟨h.al.below hb, grown_then h.gr (below_grown hb none) (fun _ q => by cases q), blk_below h.x4 hb, blk_below h.x5 hb, blk_below h.x6 hb, h.n4, h.n5, h.n6, h.l6⟩
theorem DS.drew (h : DS w0 b g4 g5 g6 r l e a n l1 e1 w) : DS w0 b g4 g5 g6 r l e a n l1 e1 w.drew := ⟨h.al, ⟨h.gr.os, h.gr.tape, h.gr.output, h.gr.size, h.gr.block⟩, h.x4, h.x5, h.x6, h.n4, h.n5, h.n6, h.l6⟩
theorem DS.init {w4 w5 w6 : World} (h : Al w0 b r l e) (hg4 : g4 = w0.heap.size) (hx4 : w4.heap[g4]? = some (ralC r l e)) (hb4 : Below w0.heap.size w0 w4) (hg5 : g5 = w4.heap.size) (hx5 : w5.heap[g5]? = some (actC a n)) (hb5 : Below w4.heap.size w4 w5)
    (hg6 : g6 = w5.heap.size) (hx6 : w6.heap[g6]? = some (ralC 0 0 0)) (hb6 : Below w5.heap.size w5 w6) : DS w0 b g4 g5 g6 r l e a n l e w6 := by
  have hlt := h.lt
  have s4 := hb4.size
  have s5 := hb5.size
  have hb := below_step (below_step hb4 hb5) hb6
  exact ⟨h.below hb, below_grown hb _, blk_below (blk_below hx4 hb5) hb6, blk_below hx5 hb6, hx6, by omega, by omega, by omega, by omega⟩
theorem DS.c40 (h : DS w0 b g4 g5 g6 r l e a n l1 e1 w) : w.cell? ⟨g4, 0, none⟩ = some (.int .i64 r) := (blk_cell h.x4 0).trans rfl
theorem DS.c41 (h : DS w0 b g4 g5 g6 r l e a n l1 e1 w) : w.cell? ⟨g4, 1, none⟩ = some (.int .i64 l) := (blk_cell h.x4 1).trans rfl
theorem DS.c42 (h : DS w0 b g4 g5 g6 r l e a n l1 e1 w) : w.cell? ⟨g4, 2, none⟩ = some (.int .i64 e) := (blk_cell h.x4 2).trans rfl
theorem DS.c50 (h : DS w0 b g4 g5 g6 r l e a n l1 e1 w) : w.cell? ⟨g5, 0, none⟩ = some (.int .i64 a) := (blk_cell h.x5 0).trans rfl
theorem DS.c51 (h : DS w0 b g4 g5 g6 r l e a n l1 e1 w) : w.cell? ⟨g5, 1, none⟩ = some (.int .i64 n) := (blk_cell h.x5 1).trans rfl
theorem DS.c60 (h : DS w0 b g4 g5 g6 r l e a n l1 e1 w) : w.cell? ⟨g6, 0, none⟩ = some (.int .i64 0) := (blk_cell h.x6 0).trans rfl
theorem DS.c61 (h : DS w0 b g4 g5 g6 r l e a n l1 e1 w) : w.cell? ⟨g6, 1, none⟩ = some (.int .i64 0) := (blk_cell h.x6 1).trans rfl
theorem DS.c62 (h : DS w0 b g4 g5 g6 r l e a n l1 e1 w) : w.cell? ⟨g6, 2, none⟩ = some (.int .i64 0) := (blk_cell h.x6 2).trans rfl
end

def set3 (w : World) (g : Nat) (x y z : Int) : World := ((w.setCell ⟨g, 0, none⟩ (.int .i64 x)).setCell ⟨g, 1, none⟩ (.int .i64 y)).setCell ⟨g, 2, none⟩ (.int .i64 z)
theorem set3_grown (w : World) (g : Nat) (x y z : Int) : w.grownBy (set3 w g x y z) (some g) :=
  grown_then (grown_then (grown_set _ _ _ _) (grown_set _ _ _ _) (fun _ _ => .inr rfl)) (grown_set _ _ _ _) (fun _ _ => .inr rfl)
theorem set3_blk {w : World} {g : Nat} {a b c : Int} (h : w.heap[g]? = some (ralC a b c)) (x y z : Int) : (set3 w g x y z).heap[g]? = some (ralC x y z) :=
  blk_put (cs := #[.int .i64 x, .int .i64 y, .int .i64 c]) (blk_put (cs := #[.int .i64 x, .int .i64 b, .int .i64 c]) (blk_put (cs := #[.int .i64 a, .int .i64 b, .int .i64 c]) h 0 _ rfl) 1 _ rfl) 2 _ rfl
/-- A new variable of the reference's type. -/
theorem DS.newR {w0 v1 w16 : World} {b g4 g5 g6 g16 : Nat} {r l e a n l1 e1 : Int} (h : DS w0 b g4 g5 g6 r l e a n l1 e1 v1) (hg : g16 = v1.heap.size) (hx : w16.heap[g16]? = some (ralC 0 0 0)) (hb : Below v1.heap.size v1 w16) (x y z : Int) :
    DS w0 b g4 g5 g6 r l e a n l1 e1 (set3 w16 g16 x y z) ∧ (set3 w16 g16 x y z).heap[g16]? = some (ralC x y z) ∧ g16 ≠ b := by
  have D := h.below hb
  have l4 := blk_lt h.x4
  have l5 := blk_lt h.x5
  have l6 := blk_lt h.x6
  have lb := h.al.lt
  have hG := set3_grown w16 g16 x y z
  have hs := h.gr.size
  refine ⟨⟨D.al.grown hG (by intro q; injection q with q; omega), grown_then D.gr hG (fun j q => .inl (by injection q with q; omega)), blk_grown D.x4 hG (by intro q; injection q with q; omega), blk_grown D.x5 hG (by intro q; injection q with q; omega), blk_grown D.x6 hG (by intro q; injection q with q; omega), D.n4, D.n5, D.n6, D.l6⟩, set3_blk hx x y z, by omega⟩

def DoesP (b : Nat) (r l e a n : Int) (w : World) (l' e' : Int) (en : Ending) (w' : World) : Prop :=
  en = .returned (.tuple #[.agg #[.int .i64 r, .int .i64 l', .int .i64 e'], .bool true]) ∧ Al w' b r l' e' ∧ w.grownBy w' (some b)

theorem DS.fin {w0 w1 : World} {b g4 g5 g6 : Nat} {r l e a n l1 e1 : Int} (h : DS w0 b g4 g5 g6 r l e a n l1 e1 w1) :
    DoesP b r l e a n w0 l1 e1 (.returned (.tuple #[.agg #[.int .i64 r, .int .i64 l1, .int .i64 e1], .bool true])) (set3 w1 g6 r l1 e1) :=
  ⟨rfl, h.al.grown (set3_grown _ _ _ _ _) (by intro q; injection q with q; exact h.n6 q.symm), grown_then h.gr (set3_grown _ _ _ _ _) (fun j q => .inl (by injection q with q; rw [← q]; exact h.l6))⟩
set_option maxHeartbeats 1000000 in
theorem does_2 (b : Nat) (r l e n : Int) (w : World) (hr : (r == 0) = false) (h : Al w b r l e) (hl : 0 ≤ l) (hle : l ≤ e) (he : e ≤ 4294967295) :
    Calls Try.prog 24 #[.pointer (some ⟨b, 0, none⟩), .agg #[.int .i64 r, .int .i64 l, .int .i64 e], .agg #[.int .i64 2, .int .i64 n]] w (DoesP b r l e 2 n w (l) (extendEnd e n)) := by
    have HA := Lib.hid h
    clear h
    go_enter Try.func24, Try.ntmps24
    go_wp2_with (first | (((with_reducible refine gate_dst (N := 4) rfl ?_); refine box_event rfl (N := 4) rfl (cs := #[.int .i64 r, .int .i64 l, .int .i64 e]) (t := 36) ?hr ?_; (case hr => first | (go_simp; done) | (go_simp; rfl)); intro g4 hg w4 hbox hb; have G4 := Lib.hid (And.intro hg (And.intro hbox hb)); clear hg hbox hb)) | (((with_reducible refine gate_dst (N := 5) rfl ?_); refine box_event rfl (N := 5) rfl (cs := #[.int .i64 2, .int .i64 n]) (t := 44) ?hr ?_; (case hr => first | (go_simp; done) | (go_simp; rfl)); intro g5 hg w5 hbox hb; have G5 := Lib.hid (And.intro hg (And.intro hbox hb)); clear hg hbox hb)) | (((with_reducible refine gate_dst (N := 6) rfl ?_); refine box_event rfl (N := 6) rfl (cs := #[.int .i64 0, .int .i64 0, .int .i64 0]) (t := 36) ?hr ?_; (case hr => first | (go_simp; done) | (go_simp; rfl)); intro g6 hg w6 hbox hb; have D := Lib.hid (DS.init HA.out G4.out.1 G4.out.2.1 G4.out.2.2 G5.out.1 G5.out.2.1 G5.out.2.2 hg hbox hb); clear hg hbox hb; have c40 := D.out.c40; have c41 := D.out.c41; have c42 := D.out.c42; have c50 := D.out.c50; have c51 := D.out.c51; have c60 := D.out.c60; have c61 := D.out.c61; have c62 := D.out.c62)) | (go_at_call 30; refine (rextend_any r l e n _).mono ?_; rintro en v1 ⟨rfl, hb1⟩; have D := Lib.hid (D.out.below hb1); clear hb1; have c40 := D.out.c40; have c41 := D.out.c41; have c42 := D.out.c42; have c50 := D.out.c50; have c51 := D.out.c51; have c60 := D.out.c60; have c61 := D.out.c61; have c62 := D.out.c62) | (((with_reducible refine gate_dst (N := 16) rfl ?_); refine box_event rfl (N := 16) rfl (cs := #[.int .i64 0, .int .i64 0, .int .i64 0]) (t := 36) ?hr ?_; (case hr => first | (go_simp; done) | (go_simp; rfl)); intro g16 hg w16 hbox hb; have G16 := Lib.hid (And.intro hg (And.intro hbox hb)); have D16 := D; have D := Lib.hid (D.out.below hb); have f0 := blk_frozen hbox 0; have f1 := blk_frozen hbox 1; have f2 := blk_frozen hbox 2; have r0 := (blk_cell hbox 0).trans rfl; have r1 := (blk_cell hbox 1).trans rfl; have r2 := (blk_cell hbox 2).trans rfl; clear hg hbox hb; have c40 := D.out.c40; have c41 := D.out.c41; have c42 := D.out.c42; have c50 := D.out.c50; have c51 := D.out.c51; have c60 := D.out.c60; have c61 := D.out.c61; have c62 := D.out.c62)))
    have Q := D16.out.newR G16.out.1 G16.out.2.1 G16.out.2.2 r (l) (extendEnd e n)
    have Q0 : ∀ W, W = set3 w16 g16 r (l) (extendEnd e n) → DS w b g4 g5 g6 r l e 2 n l e W ∧ W.heap[g16]? = some (ralC r (l) (extendEnd e n)) ∧ g16 ≠ b := fun W hW => hW ▸ Q
    clear Q f0 f1 f2 r0 r1 r2 c40 c41 c42 c50 c51 c60 c61 c62
    generalize hW : (((w16.setCell { block := g16, off := 0 } (Value.int IntKind.i64 r)).setCell { block := g16, off := 1 } (Value.int IntKind.i64 (l))).setCell { block := g16, off := 2 } (Value.int IntKind.i64 (extendEnd e n))) = W7 at *
    obtain ⟨D7, X7, n7⟩ := Q0 W7 hW.symm
    clear Q0 hW
    have s0 := (blk_cell X7 0).trans rfl
    have s1 := (blk_cell X7 1).trans rfl
    have s2 := (blk_cell X7 2).trans rfl
    have D := Lib.hid D7
    have X := Lib.hid X7
    clear D7 X7
    go_region_with (go_at_call 20; refine (extend_any b r l e n _ hr D.out.drew.al).mono ?_; rintro en v2 ⟨rfl, HA2, HG2⟩; have D := Lib.hid (D.out.drew.step HA2 HG2); have X := Lib.hid (blk_grown (blk_drew X.out) HG2 (by intro q; injection q with q; exact n7 q)); have s0 := (blk_cell X.out 0).trans rfl; have s1 := (blk_cell X.out 1).trans rfl; have s2 := (blk_cell X.out 2).trans rfl; have c60 := D.out.c60; have c61 := D.out.c61; have c62 := D.out.c62; have f0 := blk_frozen D.out.x6 0; have f1 := blk_frozen D.out.x6 1; have f2 := blk_frozen D.out.x6 2; clear HA2 HG2)
    all_goals
      go_wp2
      have FIN := Lib.hid D.out.fin
      refine bodyPost_ret (results_ct rfl _ _ g6 36 #[.int .i64 r, .int .i64 (l), .int .i64 (extendEnd e n)] (0, 0) _ rfl (set3_blk D.out.x6 r (l) (extendEnd e n)) Try.underlying36 rfl (by kernel_rfl)) rfl ?_
      exact FIN.out

set_option maxHeartbeats 1000000 in
theorem does_4 (b : Nat) (r l e n : Int) (w : World) (hr : (r == 0) = false) (h : Al w b r l e) (hl : 0 ≤ l) (hle : l ≤ e) (he : e ≤ 4294967295) :
    Calls Try.prog 24 #[.pointer (some ⟨b, 0, none⟩), .agg #[.int .i64 r, .int .i64 l, .int .i64 e], .agg #[.int .i64 4, .int .i64 n]] w (DoesP b r l e 4 n w (l) (extendEnd e (e + n.tmod 1000))) := by
    have HA := Lib.hid h
    clear h
    have hm1 := Int.lt_tmod_of_pos n (show (0 : Int) < 1000 by decide)
    have hm2 := Int.tmod_lt_of_pos n (show (0 : Int) < 1000 by decide)
    go_enter Try.func24, Try.ntmps24
    go_wp2_with (first | (((with_reducible refine gate_dst (N := 4) rfl ?_); refine box_event rfl (N := 4) rfl (cs := #[.int .i64 r, .int .i64 l, .int .i64 e]) (t := 36) ?hr ?_; (case hr => first | (go_simp; done) | (go_simp; rfl)); intro g4 hg w4 hbox hb; have G4 := Lib.hid (And.intro hg (And.intro hbox hb)); clear hg hbox hb)) | (((with_reducible refine gate_dst (N := 5) rfl ?_); refine box_event rfl (N := 5) rfl (cs := #[.int .i64 4, .int .i64 n]) (t := 44) ?hr ?_; (case hr => first | (go_simp; done) | (go_simp; rfl)); intro g5 hg w5 hbox hb; have G5 := Lib.hid (And.intro hg (And.intro hbox hb)); clear hg hbox hb)) | (((with_reducible refine gate_dst (N := 6) rfl ?_); refine box_event rfl (N := 6) rfl (cs := #[.int .i64 0, .int .i64 0, .int .i64 0]) (t := 36) ?hr ?_; (case hr => first | (go_simp; done) | (go_simp; rfl)); intro g6 hg w6 hbox hb; have D := Lib.hid (DS.init HA.out G4.out.1 G4.out.2.1 G4.out.2.2 G5.out.1 G5.out.2.1 G5.out.2.2 hg hbox hb); clear hg hbox hb; have c40 := D.out.c40; have c41 := D.out.c41; have c42 := D.out.c42; have c50 := D.out.c50; have c51 := D.out.c51; have c60 := D.out.c60; have c61 := D.out.c61; have c62 := D.out.c62)) | (go_at_call 30; refine (rextend_any r l e (e + n.tmod 1000) _).mono ?_; rintro en v1 ⟨rfl, hb1⟩; have D := Lib.hid (D.out.below hb1); clear hb1; have c40 := D.out.c40; have c41 := D.out.c41; have c42 := D.out.c42; have c50 := D.out.c50; have c51 := D.out.c51; have c60 := D.out.c60; have c61 := D.out.c61; have c62 := D.out.c62) | (((with_reducible refine gate_dst (N := 16) rfl ?_); refine box_event rfl (N := 16) rfl (cs := #[.int .i64 0, .int .i64 0, .int .i64 0]) (t := 36) ?hr ?_; (case hr => first | (go_simp; done) | (go_simp; rfl)); intro g16 hg w16 hbox hb; have G16 := Lib.hid (And.intro hg (And.intro hbox hb)); have D16 := D; have D := Lib.hid (D.out.below hb); have f0 := blk_frozen hbox 0; have f1 := blk_frozen hbox 1; have f2 := blk_frozen hbox 2; have r0 := (blk_cell hbox 0).trans rfl; have r1 := (blk_cell hbox 1).trans rfl; have r2 := (blk_cell hbox 2).trans rfl; clear hg hbox hb; have c40 := D.out.c40; have c41 := D.out.c41; have c42 := D.out.c42; have c50 := D.out.c50; have c51 := D.out.c51; have c60 := D.out.c60; have c61 := D.out.c61; have c62 := D.out.c62)))
    have Q := D16.out.newR G16.out.1 G16.out.2.1 G16.out.2.2 r (l) (extendEnd e (e + n.tmod 1000))
    have Q0 : ∀ W, W = set3 w16 g16 r (l) (extendEnd e (e + n.tmod 1000)) → DS w b g4 g5 g6 r l e 4 n l e W ∧ W.heap[g16]? = some (ralC r (l) (extendEnd e (e + n.tmod 1000))) ∧ g16 ≠ b := fun W hW => hW ▸ Q
    clear Q f0 f1 f2 r0 r1 r2 c40 c41 c42 c50 c51 c60 c61 c62
    generalize hW : (((w16.setCell { block := g16, off := 0 } (Value.int IntKind.i64 r)).setCell { block := g16, off := 1 } (Value.int IntKind.i64 (l))).setCell { block := g16, off := 2 } (Value.int IntKind.i64 (extendEnd e (e + n.tmod 1000)))) = W7 at *
    obtain ⟨D7, X7, n7⟩ := Q0 W7 hW.symm
    clear Q0 hW
    have s0 := (blk_cell X7 0).trans rfl
    have s1 := (blk_cell X7 1).trans rfl
    have s2 := (blk_cell X7 2).trans rfl
    have D := Lib.hid D7
    have X := Lib.hid X7
    clear D7 X7
    go_region_with (go_at_call 20; refine (extend_any b r l e (e + n.tmod 1000) _ hr D.out.drew.al).mono ?_; rintro en v2 ⟨rfl, HA2, HG2⟩; have D := Lib.hid (D.out.drew.step HA2 HG2); have X := Lib.hid (blk_grown (blk_drew X.out) HG2 (by intro q; injection q with q; exact n7 q)); have s0 := (blk_cell X.out 0).trans rfl; have s1 := (blk_cell X.out 1).trans rfl; have s2 := (blk_cell X.out 2).trans rfl; have c60 := D.out.c60; have c61 := D.out.c61; have c62 := D.out.c62; have f0 := blk_frozen D.out.x6 0; have f1 := blk_frozen D.out.x6 1; have f2 := blk_frozen D.out.x6 2; clear HA2 HG2)
    all_goals
      go_wp2
      have FIN := Lib.hid D.out.fin
      refine bodyPost_ret (results_ct rfl _ _ g6 36 #[.int .i64 r, .int .i64 (l), .int .i64 (extendEnd e (e + n.tmod 1000))] (0, 0) _ rfl (set3_blk D.out.x6 r (l) (extendEnd e (e + n.tmod 1000))) Try.underlying36 rfl (by kernel_rfl)) rfl ?_
      exact FIN.out

set_option maxHeartbeats 1000000 in
theorem does_3 (b : Nat) (r l e n : Int) (w : World) (hr : (r == 0) = false) (h : Al w b r l e) (hl : 0 ≤ l) (hle : l ≤ e) (he : e ≤ 4294967295) :
    Calls Try.prog 24 #[.pointer (some ⟨b, 0, none⟩), .agg #[.int .i64 r, .int .i64 l, .int .i64 e], .agg #[.int .i64 3, .int .i64 n]] w (DoesP b r l e 3 n w (passLast l e n) (e)) := by
    have HA := Lib.hid h
    clear h
    go_enter Try.func24, Try.ntmps24
    go_wp2_with (first | (((with_reducible refine gate_dst (N := 4) rfl ?_); refine box_event rfl (N := 4) rfl (cs := #[.int .i64 r, .int .i64 l, .int .i64 e]) (t := 36) ?hr ?_; (case hr => first | (go_simp; done) | (go_simp; rfl)); intro g4 hg w4 hbox hb; have G4 := Lib.hid (And.intro hg (And.intro hbox hb)); clear hg hbox hb)) | (((with_reducible refine gate_dst (N := 5) rfl ?_); refine box_event rfl (N := 5) rfl (cs := #[.int .i64 3, .int .i64 n]) (t := 44) ?hr ?_; (case hr => first | (go_simp; done) | (go_simp; rfl)); intro g5 hg w5 hbox hb; have G5 := Lib.hid (And.intro hg (And.intro hbox hb)); clear hg hbox hb)) | (((with_reducible refine gate_dst (N := 6) rfl ?_); refine box_event rfl (N := 6) rfl (cs := #[.int .i64 0, .int .i64 0, .int .i64 0]) (t := 36) ?hr ?_; (case hr => first | (go_simp; done) | (go_simp; rfl)); intro g6 hg w6 hbox hb; have D := Lib.hid (DS.init HA.out G4.out.1 G4.out.2.1 G4.out.2.2 G5.out.1 G5.out.2.1 G5.out.2.2 hg hbox hb); clear hg hbox hb; have c40 := D.out.c40; have c41 := D.out.c41; have c42 := D.out.c42; have c50 := D.out.c50; have c51 := D.out.c51; have c60 := D.out.c60; have c61 := D.out.c61; have c62 := D.out.c62)) | (go_at_call 31; refine (rpass_any r l e n _).mono ?_; rintro en v1 ⟨rfl, hb1⟩; have D := Lib.hid (D.out.below hb1); clear hb1; have c40 := D.out.c40; have c41 := D.out.c41; have c42 := D.out.c42; have c50 := D.out.c50; have c51 := D.out.c51; have c60 := D.out.c60; have c61 := D.out.c61; have c62 := D.out.c62) | (((with_reducible refine gate_dst (N := 19) rfl ?_); refine box_event rfl (N := 19) rfl (cs := #[.int .i64 0, .int .i64 0, .int .i64 0]) (t := 36) ?hr ?_; (case hr => first | (go_simp; done) | (go_simp; rfl)); intro g19 hg w19 hbox hb; have G19 := Lib.hid (And.intro hg (And.intro hbox hb)); have D19 := D; have D := Lib.hid (D.out.below hb); have f0 := blk_frozen hbox 0; have f1 := blk_frozen hbox 1; have f2 := blk_frozen hbox 2; have r0 := (blk_cell hbox 0).trans rfl; have r1 := (blk_cell hbox 1).trans rfl; have r2 := (blk_cell hbox 2).trans rfl; clear hg hbox hb; have c40 := D.out.c40; have c41 := D.out.c41; have c42 := D.out.c42; have c50 := D.out.c50; have c51 := D.out.c51; have c60 := D.out.c60; have c61 := D.out.c61; have c62 := D.out.c62)))
    have Q := D19.out.newR G19.out.1 G19.out.2.1 G19.out.2.2 r (passLast l e n) (e)
    have Q0 : ∀ W, W = set3 w19 g19 r (passLast l e n) (e) → DS w b g4 g5 g6 r l e 3 n l e W ∧ W.heap[g19]? = some (ralC r (passLast l e n) (e)) ∧ g19 ≠ b := fun W hW => hW ▸ Q
    clear Q f0 f1 f2 r0 r1 r2 c40 c41 c42 c50 c51 c60 c61 c62
    generalize hW : (((w19.setCell { block := g19, off := 0 } (Value.int IntKind.i64 r)).setCell { block := g19, off := 1 } (Value.int IntKind.i64 (passLast l e n))).setCell { block := g19, off := 2 } (Value.int IntKind.i64 (e))) = W7 at *
    obtain ⟨D7, X7, n7⟩ := Q0 W7 hW.symm
    clear Q0 hW
    have s0 := (blk_cell X7 0).trans rfl
    have s1 := (blk_cell X7 1).trans rfl
    have s2 := (blk_cell X7 2).trans rfl
    have D := Lib.hid D7
    have X := Lib.hid X7
    clear D7 X7
    go_region_with (go_at_call 21; refine (pass_any b r l e n _ hr D.out.drew.al).mono ?_; rintro en v2 ⟨rfl, HA2, HG2⟩; have D := Lib.hid (D.out.drew.step HA2 HG2); have X := Lib.hid (blk_grown (blk_drew X.out) HG2 (by intro q; injection q with q; exact n7 q)); have s0 := (blk_cell X.out 0).trans rfl; have s1 := (blk_cell X.out 1).trans rfl; have s2 := (blk_cell X.out 2).trans rfl; have c60 := D.out.c60; have c61 := D.out.c61; have c62 := D.out.c62; have f0 := blk_frozen D.out.x6 0; have f1 := blk_frozen D.out.x6 1; have f2 := blk_frozen D.out.x6 2; clear HA2 HG2)
    all_goals
      go_wp2
      have FIN := Lib.hid D.out.fin
      refine bodyPost_ret (results_ct rfl _ _ g6 36 #[.int .i64 r, .int .i64 (passLast l e n), .int .i64 (e)] (0, 0) _ rfl (set3_blk D.out.x6 r (passLast l e n) (e)) Try.underlying36 rfl (by kernel_rfl)) rfl ?_
      exact FIN.out

set_option maxHeartbeats 1000000 in
theorem does_5 (b : Nat) (r l e n : Int) (w : World) (hr : (r == 0) = false) (h : Al w b r l e) (hl : 0 ≤ l) (hle : l ≤ e) (he : e ≤ 4294967295) :
    Calls Try.prog 24 #[.pointer (some ⟨b, 0, none⟩), .agg #[.int .i64 r, .int .i64 l, .int .i64 e], .agg #[.int .i64 5, .int .i64 n]] w (DoesP b r l e 5 n w (passLast l e (l + n.tmod 1000)) (e)) := by
    have HA := Lib.hid h
    clear h
    have hm1 := Int.lt_tmod_of_pos n (show (0 : Int) < 1000 by decide)
    have hm2 := Int.tmod_lt_of_pos n (show (0 : Int) < 1000 by decide)
    go_enter Try.func24, Try.ntmps24
    go_wp2_with (first | (((with_reducible refine gate_dst (N := 4) rfl ?_); refine box_event rfl (N := 4) rfl (cs := #[.int .i64 r, .int .i64 l, .int .i64 e]) (t := 36) ?hr ?_; (case hr => first | (go_simp; done) | (go_simp; rfl)); intro g4 hg w4 hbox hb; have G4 := Lib.hid (And.intro hg (And.intro hbox hb)); clear hg hbox hb)) | (((with_reducible refine gate_dst (N := 5) rfl ?_); refine box_event rfl (N := 5) rfl (cs := #[.int .i64 5, .int .i64 n]) (t := 44) ?hr ?_; (case hr => first | (go_simp; done) | (go_simp; rfl)); intro g5 hg w5 hbox hb; have G5 := Lib.hid (And.intro hg (And.intro hbox hb)); clear hg hbox hb)) | (((with_reducible refine gate_dst (N := 6) rfl ?_); refine box_event rfl (N := 6) rfl (cs := #[.int .i64 0, .int .i64 0, .int .i64 0]) (t := 36) ?hr ?_; (case hr => first | (go_simp; done) | (go_simp; rfl)); intro g6 hg w6 hbox hb; have D := Lib.hid (DS.init HA.out G4.out.1 G4.out.2.1 G4.out.2.2 G5.out.1 G5.out.2.1 G5.out.2.2 hg hbox hb); clear hg hbox hb; have c40 := D.out.c40; have c41 := D.out.c41; have c42 := D.out.c42; have c50 := D.out.c50; have c51 := D.out.c51; have c60 := D.out.c60; have c61 := D.out.c61; have c62 := D.out.c62)) | (go_at_call 31; refine (rpass_any r l e (l + n.tmod 1000) _).mono ?_; rintro en v1 ⟨rfl, hb1⟩; have D := Lib.hid (D.out.below hb1); clear hb1; have c40 := D.out.c40; have c41 := D.out.c41; have c42 := D.out.c42; have c50 := D.out.c50; have c51 := D.out.c51; have c60 := D.out.c60; have c61 := D.out.c61; have c62 := D.out.c62) | (((with_reducible refine gate_dst (N := 19) rfl ?_); refine box_event rfl (N := 19) rfl (cs := #[.int .i64 0, .int .i64 0, .int .i64 0]) (t := 36) ?hr ?_; (case hr => first | (go_simp; done) | (go_simp; rfl)); intro g19 hg w19 hbox hb; have G19 := Lib.hid (And.intro hg (And.intro hbox hb)); have D19 := D; have D := Lib.hid (D.out.below hb); have f0 := blk_frozen hbox 0; have f1 := blk_frozen hbox 1; have f2 := blk_frozen hbox 2; have r0 := (blk_cell hbox 0).trans rfl; have r1 := (blk_cell hbox 1).trans rfl; have r2 := (blk_cell hbox 2).trans rfl; clear hg hbox hb; have c40 := D.out.c40; have c41 := D.out.c41; have c42 := D.out.c42; have c50 := D.out.c50; have c51 := D.out.c51; have c60 := D.out.c60; have c61 := D.out.c61; have c62 := D.out.c62)))
    have Q := D19.out.newR G19.out.1 G19.out.2.1 G19.out.2.2 r (passLast l e (l + n.tmod 1000)) (e)
    have Q0 : ∀ W, W = set3 w19 g19 r (passLast l e (l + n.tmod 1000)) (e) → DS w b g4 g5 g6 r l e 5 n l e W ∧ W.heap[g19]? = some (ralC r (passLast l e (l + n.tmod 1000)) (e)) ∧ g19 ≠ b := fun W hW => hW ▸ Q
    clear Q f0 f1 f2 r0 r1 r2 c40 c41 c42 c50 c51 c60 c61 c62
    generalize hW : (((w19.setCell { block := g19, off := 0 } (Value.int IntKind.i64 r)).setCell { block := g19, off := 1 } (Value.int IntKind.i64 (passLast l e (l + n.tmod 1000)))).setCell { block := g19, off := 2 } (Value.int IntKind.i64 (e))) = W7 at *
    obtain ⟨D7, X7, n7⟩ := Q0 W7 hW.symm
    clear Q0 hW
    have s0 := (blk_cell X7 0).trans rfl
    have s1 := (blk_cell X7 1).trans rfl
    have s2 := (blk_cell X7 2).trans rfl
    have D := Lib.hid D7
    have X := Lib.hid X7
    clear D7 X7
    go_region_with (go_at_call 21; refine (pass_any b r l e (l + n.tmod 1000) _ hr D.out.drew.al).mono ?_; rintro en v2 ⟨rfl, HA2, HG2⟩; have D := Lib.hid (D.out.drew.step HA2 HG2); have X := Lib.hid (blk_grown (blk_drew X.out) HG2 (by intro q; injection q with q; exact n7 q)); have s0 := (blk_cell X.out 0).trans rfl; have s1 := (blk_cell X.out 1).trans rfl; have s2 := (blk_cell X.out 2).trans rfl; have c60 := D.out.c60; have c61 := D.out.c61; have c62 := D.out.c62; have f0 := blk_frozen D.out.x6 0; have f1 := blk_frozen D.out.x6 1; have f2 := blk_frozen D.out.x6 2; clear HA2 HG2)
    all_goals
      go_wp2
      have FIN := Lib.hid D.out.fin
      refine bodyPost_ret (results_ct rfl _ _ g6 36 #[.int .i64 r, .int .i64 (passLast l e (l + n.tmod 1000)), .int .i64 (e)] (0, 0) _ rfl (set3_blk D.out.x6 r (passLast l e (l + n.tmod 1000)) (e)) Try.underlying36 rfl (by kernel_rfl)) rfl ?_
      exact FIN.out

end Go.Proofs.Ythbngkaajhbdjaa.Al
