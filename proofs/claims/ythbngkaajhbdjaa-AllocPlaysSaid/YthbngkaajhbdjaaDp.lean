/- does makes one call of Next or Take of an allocator and of the reference's, and they agree. -/
import Derived.Test.YthbngkaajhbdjaaDo
namespace Go.Proofs.Ythbngkaajhbdjaa.Al
open Go.RowKit Go.Proofs Go.Proofs.YthbngkaajhbdjaaW.PrintWords Go.Proofs.Ythbngkaajhbdjaa.Kit
set_option linter.unusedSimpArgs false
set_option linter.unusedVariables false

/-- A list of dots that is read, where what was written is new. -/
theorem C_far {w w1 : World} {A : Option Addr} {n : Nat} {xs : List (Int × Int)} {row : Option Nat} (h : d32.C w A n xs) (hg : w.grownBy w1 row) (hr : ∀ g, row = some g → w.heap.size ≤ g) : d32.C w1 A n xs := by
  refine ⟨h.1, h.2.1, fun hn => ?_⟩
  obtain ⟨ad, e, hc⟩ := h.2.2 hn
  refine ⟨ad, e, fun j p hj => ?_⟩
  obtain ⟨c, hl, hK, hcell⟩ := hc j p hj
  refine ⟨c, hl, hK, fun i u hu => hg.cell (hcell i u hu) (fun q => ?_)⟩
  have h1 := World.block_lt_of_cell? _ _ (hcell i u hu)
  have h2 := hr _ q.symm
  omega
def RTakeCP (r l e n : Int) (w : World) (en : Ending) (w' : World) : Prop :=
  ∃ A c, en = .returned (.tuple #[.agg #[.int .i64 r, .int .i64 (l + takeN l e n), .int .i64 e], .slice A (dots r l (takeN l e n)).length c, .int .i64 (takeE l e n)]) ∧ d32.C w' A (dots r l (takeN l e n)).length (dots r l (takeN l e n)) ∧ (∀ ad, A = some ad → w.heap.size ≤ ad.block) ∧ Below w.heap.size w w'
theorem rtake_c (r l e n : Int) (w : World) (hl : 0 ≤ l) (hle : l ≤ e) (he : e ≤ 4294967295) :
    Calls Try.prog 29 #[.agg #[.int .i64 r, .int .i64 l, .int .i64 e], .int .i64 n] w (RTakeCP r l e n w) := by
  refine (rtake_any r l e n w hl hle he).mono ?_
  rintro en w1 ⟨v, rfl, HR, hb⟩
  obtain ⟨A, c, rfl, _, HC⟩ := Kd.R_reads HR
  exact ⟨A, c, rfl, HC, fun ad q => HR.1 ad.block (by rw [q]; rfl), hb⟩
set_option maxHeartbeats 1000000 in
theorem does_1 (b : Nat) (r l e n : Int) (w : World) (hr : (r == 0) = false) (h : Al w b r l e) (hl : 0 ≤ l) (hle : l ≤ e) (he : e ≤ 4294967295) :
    Calls Try.prog 24 #[.pointer (some ⟨b, 0, none⟩), .agg #[.int .i64 r, .int .i64 l, .int .i64 e], .agg #[.int .i64 1, .int .i64 n]] w (DoesP b r l e 1 n w (l + takeN l e n) e) := by
    have HA := Lib.hid h
    clear h
    go_enter Try.func24, Try.ntmps24
    go_wp2_with (first | (((with_reducible refine gate_dst (N := 4) rfl ?_); refine box_event rfl (N := 4) rfl (cs := #[.int .i64 r, .int .i64 l, .int .i64 e]) (t := 36) ?hr ?_; (case hr => first | (go_simp; done) | (go_simp; rfl)); intro g4 hg w4 hbox hb; have G4 := Lib.hid (And.intro hg (And.intro hbox hb)); clear hg hbox hb)) | (((with_reducible refine gate_dst (N := 5) rfl ?_); refine box_event rfl (N := 5) rfl (cs := #[.int .i64 1, .int .i64 n]) (t := 44) ?hr ?_; (case hr => first | (go_simp; done) | (go_simp; rfl)); intro g5 hg w5 hbox hb; have G5 := Lib.hid (And.intro hg (And.intro hbox hb)); clear hg hbox hb)) | (((with_reducible refine gate_dst (N := 6) rfl ?_); refine box_event rfl (N := 6) rfl (cs := #[.int .i64 0, .int .i64 0, .int .i64 0]) (t := 36) ?hr ?_; (case hr => first | (go_simp; done) | (go_simp; rfl)); intro g6 hg w6 hbox hb; have D := Lib.hid (DS.init HA.out G4.out.1 G4.out.2.1 G4.out.2.2 G5.out.1 G5.out.2.1 G5.out.2.2 hg hbox hb); clear hg hbox hb; have c40 := D.out.c40; have c41 := D.out.c41; have c42 := D.out.c42; have c50 := D.out.c50; have c51 := D.out.c51; have c60 := D.out.c60; have c61 := D.out.c61; have c62 := D.out.c62)) | (go_at_call 29; refine (rtake_c r l e n _ hl hle he).mono ?_; rintro en v1 ⟨A, c, rfl, hC, hA, hb1⟩; have V := Lib.hid (And.intro hC (fun ad q => Nat.lt_of_lt_of_le D.out.al.lt (hA ad q) : ∀ ad, A = some ad → b < ad.block)); have D := Lib.hid (D.out.below hb1); clear hb1 hC hA; have c40 := D.out.c40; have c41 := D.out.c41; have c42 := D.out.c42; have c50 := D.out.c50; have c51 := D.out.c51; have c60 := D.out.c60; have c61 := D.out.c61; have c62 := D.out.c62) | (((with_reducible refine gate_dst (N := 12) rfl ?_); refine box_event rfl (N := 12) rfl (cs := #[.int .i64 0, .int .i64 0, .int .i64 0]) (t := 36) ?hr ?_; (case hr => first | (go_simp; done) | (go_simp; rfl)); intro g12 hg w12 hbox hb; have G12 := Lib.hid (And.intro hg (And.intro hbox hb)); have D12 := D; have D := Lib.hid (D.out.below hb); have f0 := blk_frozen hbox 0; have f1 := blk_frozen hbox 1; have f2 := blk_frozen hbox 2; have r0 := (blk_cell hbox 0).trans rfl; have r1 := (blk_cell hbox 1).trans rfl; have r2 := (blk_cell hbox 2).trans rfl; clear hg hbox hb; have c40 := D.out.c40; have c41 := D.out.c41; have c42 := D.out.c42; have c50 := D.out.c50; have c51 := D.out.c51; have c60 := D.out.c60; have c61 := D.out.c61; have c62 := D.out.c62)))
    have V7 : ∀ W, W = set3 w12 g12 r (l + (takeN l e n : Nat)) e → d32.C W A (dots r l (takeN l e n)).length (dots r l (takeN l e n)) := fun W hW => hW ▸ C_far V.out.1 (grown_then (below_grown G12.out.2.2 (some g12)) (set3_grown w12 g12 r (l + (takeN l e n : Nat)) e) (fun _ _ => .inr rfl)) (fun g q => by injection q with q; have := G12.out.1; omega)
    have Q := D12.out.newR G12.out.1 G12.out.2.1 G12.out.2.2 r (l + (takeN l e n : Nat)) (e)
    have Q0 : ∀ W, W = set3 w12 g12 r (l + (takeN l e n : Nat)) (e) → DS w b g4 g5 g6 r l e 1 n l e W ∧ W.heap[g12]? = some (ralC r (l + (takeN l e n : Nat)) (e)) ∧ g12 ≠ b := fun W hW => hW ▸ Q
    clear Q f0 f1 f2 r0 r1 r2 c40 c41 c42 c50 c51 c60 c61 c62
    generalize hW : (((w12.setCell { block := g12, off := 0 } (Value.int IntKind.i64 r)).setCell { block := g12, off := 1 } (Value.int IntKind.i64 (l + (takeN l e n : Nat)))).setCell { block := g12, off := 2 } (Value.int IntKind.i64 (e))) = W7 at *
    obtain ⟨D7, X7, n7⟩ := Q0 W7 hW.symm
    have V8 := Lib.hid (V7 W7 hW.symm)
    clear V7
    clear Q0 hW
    have s0 := (blk_cell X7 0).trans rfl
    have s1 := (blk_cell X7 1).trans rfl
    have s2 := (blk_cell X7 2).trans rfl
    have D := Lib.hid D7
    have X := Lib.hid X7
    clear D7 X7
    have c50 := D.out.c50
    have c51 := D.out.c51
    go_region_with (go_at_call 25; refine (takes_ok b r l e n (takeE l e n) A c (dots r l (takeN l e n)) _ hr D.out.drew.al hl hle he rfl V8.out rfl (fun ad q _ => Nat.ne_of_gt (V.out.2 ad q))).mono ?_; rintro en v2 ⟨rfl, HA2, HG2⟩; have D := Lib.hid (D.out.drew.step HA2 HG2); have X := Lib.hid (blk_grown (blk_drew X.out) HG2 (by intro q; injection q with q; exact n7 q)); have s0 := (blk_cell X.out 0).trans rfl; have s1 := (blk_cell X.out 1).trans rfl; have s2 := (blk_cell X.out 2).trans rfl; have c50 := D.out.c50; have c51 := D.out.c51; have c60 := D.out.c60; have c61 := D.out.c61; have c62 := D.out.c62; have f0 := blk_frozen D.out.x6 0; have f1 := blk_frozen D.out.x6 1; have f2 := blk_frozen D.out.x6 2; clear HA2 HG2)
    all_goals
      go_wp2
      have FIN := Lib.hid D.out.fin
      refine bodyPost_ret (results_ct rfl _ _ g6 36 #[.int .i64 r, .int .i64 (l + (takeN l e n : Nat)), .int .i64 (e)] (0, 0) _ rfl (set3_blk D.out.x6 r (l + (takeN l e n : Nat)) (e)) Try.underlying36 rfl (by kernel_rfl)) rfl ?_
      exact FIN.out

def set2 (w : World) (g : Nat) (x y : Int) : World := (w.setCell ⟨g, 0, none⟩ (.int .i64 x)).setCell ⟨g, 1, none⟩ (.int .i64 y)
theorem set2_grown (w : World) (g : Nat) (x y : Int) : w.grownBy (set2 w g x y) (some g) := grown_then (grown_set _ _ _ _) (grown_set _ _ _ _) (fun _ _ => .inr rfl)
theorem set2_blk {w : World} {g : Nat} {a b : Int} (h : w.heap[g]? = some (dotC a b)) (x y : Int) : (set2 w g x y).heap[g]? = some (dotC x y) :=
  blk_put (cs := #[.int .i64 x, .int .i64 b]) (blk_put (cs := #[.int .i64 a, .int .i64 b]) h 0 _ rfl) 1 _ rfl
/-- A block of the call's own is written. -/
theorem DS.far {w0 w w1 : World} {b g4 g5 g6 g : Nat} {r l e a n l1 e1 : Int} (h : DS w0 b g4 g5 g6 r l e a n l1 e1 w) (hg : w.grownBy w1 (some g)) (n0 : w0.heap.size ≤ g) (n1 : g ≠ b) (n4 : g ≠ g4) (n5 : g ≠ g5) (n6 : g ≠ g6) : DS w0 b g4 g5 g6 r l e a n l1 e1 w1 :=
  ⟨h.al.grown hg (by intro q; injection q with q; omega), grown_then h.gr hg (fun j q => .inl (by injection q with q; omega)), blk_grown h.x4 hg (by intro q; injection q with q; omega), blk_grown h.x5 hg (by intro q; injection q with q; omega), blk_grown h.x6 hg (by intro q; injection q with q; omega), h.n4, h.n5, h.n6, h.l6⟩

theorem cell_far2 {w : World} {g h : Nat} {i : Nat} {v : Value} (hc : w.cell? ⟨g, i, none⟩ = some v) (hne : g ≠ h) (x y : Value) : ((w.setCell ⟨h, 0, none⟩ x).setCell ⟨h, 1, none⟩ y).cell? ⟨g, i, none⟩ = some v :=
  (grown_set _ h 1 y).cell ((grown_set w h 0 x).cell hc (by intro q; injection q with q; exact hne q)) (by intro q; injection q with q; exact hne q)
def RTake1P (r l e : Int) (w : World) (en : Ending) (w' : World) : Prop :=
  ∃ g cap, en = .returned (.tuple #[.agg #[.int .i64 r, .int .i64 (l + 1), .int .i64 e], .slice (some ⟨g, 0, none⟩) 1 cap, .int .i64 0]) ∧ w'.cell? ⟨g, 0, none⟩ = some (.int .i64 r) ∧ w'.cell? ⟨g, 1, none⟩ = some (.int .i64 (l + 1)) ∧ Below w.heap.size w w'
theorem rtake1_yes (r l e : Int) (w : World) (hl : 0 ≤ l) (hle : l < e) (he : e ≤ 4294967295) :
    Calls Try.prog 29 #[.agg #[.int .i64 r, .int .i64 l, .int .i64 e], .int .i64 1] w (RTake1P r l e w) := by
  refine (rtake_any r l e 1 w hl (by omega) he).mono ?_
  rintro en w1 ⟨v, rfl, HR, hb⟩
  have e1 : takeE l e 1 = 0 := by unfold takeE; rw [if_neg (by omega), if_neg (by omega)]
  have e2 : takeN l e 1 = 1 := by unfold takeN; rw [if_neg (by omega), if_neg (by omega)]; rfl
  rw [e2] at HR
  have e3 : dots r l 1 = [(r, l + 1)] := by simp [dots]
  rw [e3] at HR
  obtain ⟨g, cap, rfl, hg, q0, q1⟩ := own_dot HR 0 (by simp)
  exact ⟨g, cap, by rw [e1, e2]; rfl, q0, q1, hb⟩
def RTake0P (r l e : Int) (w : World) (en : Ending) (w' : World) : Prop :=
  ∃ v, en = .returned (.tuple #[.agg #[.int .i64 r, .int .i64 l, .int .i64 e], v, .int .i64 14]) ∧ Below w.heap.size w w'
theorem rtake1_no (r l e : Int) (w : World) (hl : 0 ≤ l) (hle : l = e) (he : e ≤ 4294967295) :
    Calls Try.prog 29 #[.agg #[.int .i64 r, .int .i64 l, .int .i64 e], .int .i64 1] w (RTake0P r l e w) := by
  refine (rtake_any r l e 1 w hl (by omega) he).mono ?_
  rintro en w1 ⟨v, rfl, HR, hb⟩
  have e1 : takeE l e 1 = 14 := by unfold takeE; rw [if_neg (by omega), if_pos (by omega)]
  have e2 : takeN l e 1 = 0 := by unfold takeN; rw [if_neg (by omega), if_pos (by omega)]
  exact ⟨v, by rw [e1, e2]; simp, hb⟩
theorem cell_below2 {v w8 w11 : World} {g g8 i : Nat} {u : Value} {r y z : Int} (hc : v.cell? ⟨g, i, none⟩ = some u) (hb : Below v.heap.size v w8) (hg : g8 = v.heap.size) (hb11 : Below (set3 w8 g8 r y z).heap.size (set3 w8 g8 r y z) w11) : w11.cell? ⟨g, i, none⟩ = some u := by
  have h1 : g < v.heap.size := World.block_lt_of_cell? _ _ hc
  exact (below_grown hb11 none).cell ((set3_grown w8 g8 r y z).cell ((below_grown hb none).cell hc (by simp)) (by intro q; injection q with q; have q2 : g = g8 := q; omega)) (by simp)
set_option maxHeartbeats 1000000 in
theorem does_0yes (b : Nat) (r l e n : Int) (w : World) (hr : (r == 0) = false) (h : Al w b r l e) (hl : 0 ≤ l) (hle : l ≤ e) (he : e ≤ 4294967295) (hc : l < e) :
    Calls Try.prog 24 #[.pointer (some ⟨b, 0, none⟩), .agg #[.int .i64 r, .int .i64 l, .int .i64 e], .agg #[.int .i64 0, .int .i64 n]] w (DoesP b r l e 0 n w (nextLast l e) e) := by
    have HA := Lib.hid h
    have HC := Lib.hid hc
    clear h hc
    have e1 : nextLast l e = l + 1 := by unfold nextLast; rw [if_pos (by have := HC.out; omega)]
    have e2 : nextE l e = 0 := by unfold nextE; rw [if_pos (by have := HC.out; omega)]
    rw [e1]
    have E1 := Lib.hid e1
    have E2 := Lib.hid e2
    clear e1 e2
    go_enter Try.func24, Try.ntmps24
    go_wp2_with (first | (((with_reducible refine gate_dst (N := 4) rfl ?_); refine box_event rfl (N := 4) rfl (cs := #[.int .i64 r, .int .i64 l, .int .i64 e]) (t := 36) ?hr ?_; (case hr => first | (go_simp; done) | (go_simp; rfl)); intro g4 hg w4 hbox hb; have G4 := Lib.hid (And.intro hg (And.intro hbox hb)); clear hg hbox hb)) | (((with_reducible refine gate_dst (N := 5) rfl ?_); refine box_event rfl (N := 5) rfl (cs := #[.int .i64 0, .int .i64 n]) (t := 44) ?hr ?_; (case hr => first | (go_simp; done) | (go_simp; rfl)); intro g5 hg w5 hbox hb; have G5 := Lib.hid (And.intro hg (And.intro hbox hb)); clear hg hbox hb)) | (((with_reducible refine gate_dst (N := 6) rfl ?_); refine box_event rfl (N := 6) rfl (cs := #[.int .i64 0, .int .i64 0, .int .i64 0]) (t := 36) ?hr ?_; (case hr => first | (go_simp; done) | (go_simp; rfl)); intro g6 hg w6 hbox hb; have D := Lib.hid (DS.init HA.out G4.out.1 G4.out.2.1 G4.out.2.2 G5.out.1 G5.out.2.1 G5.out.2.2 hg hbox hb); clear hg hbox hb; have c40 := D.out.c40; have c41 := D.out.c41; have c42 := D.out.c42; have c50 := D.out.c50; have c51 := D.out.c51; have c60 := D.out.c60; have c61 := D.out.c61; have c62 := D.out.c62)) | (go_at_call 29; refine (rtake1_yes r l e _ hl HC.out he).mono ?_; rintro en v1 ⟨g, cap, rfl, q0, q1, hb1⟩; have V := Lib.hid (And.intro q0 q1); have D := Lib.hid (D.out.below hb1); clear hb1 q0 q1; have c40 := D.out.c40; have c41 := D.out.c41; have c42 := D.out.c42; have c50 := D.out.c50; have c51 := D.out.c51; have c60 := D.out.c60; have c61 := D.out.c61; have c62 := D.out.c62) | (((with_reducible refine gate_dst (N := 8) rfl ?_); refine box_event rfl (N := 8) rfl (cs := #[.int .i64 0, .int .i64 0, .int .i64 0]) (t := 36) ?hr ?_; (case hr => first | (go_simp; done) | (go_simp; rfl)); intro g8 hg w8 hbox hb; have G8 := Lib.hid (And.intro hg (And.intro hbox hb)); have D8 := D; have D := Lib.hid (D.out.below hb); have f0 := blk_frozen hbox 0; have f1 := blk_frozen hbox 1; have f2 := blk_frozen hbox 2; have r0 := (blk_cell hbox 0).trans rfl; have r1 := (blk_cell hbox 1).trans rfl; have r2 := (blk_cell hbox 2).trans rfl; clear hg hbox hb; have c40 := D.out.c40; have c41 := D.out.c41; have c42 := D.out.c42; have c50 := D.out.c50; have c51 := D.out.c51; have c60 := D.out.c60; have c61 := D.out.c61; have c62 := D.out.c62)) | (((with_reducible refine gate_dst (N := 11) rfl ?_); refine box_event rfl (N := 11) rfl (cs := #[.int .i64 0, .int .i64 0]) (t := 32) ?hr ?_; (case hr => first | (go_simp; done) | (go_simp; rfl)); intro g11 hg w11 hbox hb; have Q := D8.out.newR G8.out.1 G8.out.2.1 G8.out.2.2 r (l + 1) e; have D := Lib.hid (Q.1.below hb); have X8 := Lib.hid (And.intro (blk_below Q.2.1 hb) Q.2.2); have E8 := Lib.hid (blk_lt Q.2.1); have VV := Lib.hid ((⟨cell_below2 V.out.1 G8.out.2.2 G8.out.1 hb, cell_below2 V.out.2 G8.out.2.2 G8.out.1 hb, by have h1 := World.block_lt_of_cell? _ _ V.out.1; have h2 := G8.out.2.2.size; have h3 := (set3_grown w8 g8 r (l + 1) e).size; simp only at h1; rw [hg]; exact Nat.ne_of_lt (Nat.lt_of_lt_of_le (Nat.lt_of_lt_of_le h1 h2) h3)⟩ : w11.cell? ⟨g, 0, none⟩ = some (.int .i64 r) ∧ w11.cell? ⟨g, 1, none⟩ = some (.int .i64 (l + 1)) ∧ g ≠ g11)); have f0 := blk_frozen hbox 0; have f1 := blk_frozen hbox 1; have r0 := (blk_cell hbox 0).trans rfl; have r1 := (blk_cell hbox 1).trans rfl; have y0 := cell_far2 VV.out.1 VV.out.2.2 (.int .i64 0) (.int .i64 0); have y1 := cell_far2 VV.out.2.1 VV.out.2.2 (.int .i64 0) (.int .i64 0); have G11 := Lib.hid (And.intro hg (And.intro hbox hb)); clear Q hg hbox hb)))
    have hD : ∀ W, W = set2 (set2 w11 g11 0 0) g11 r (l + 1) → DS w b g4 g5 g6 r l e 0 n l e W ∧ W.heap[g8]? = some (ralC r (l + 1) e) ∧ W.heap[g11]? = some (dotC (r) (l + 1)) := by
      intro W hW
      have l8 := E8.out
      have l11 := G11.out.1
      have q := D8.out
      have l4 := blk_lt q.x4
      have l5 := blk_lt q.x5
      have l6 := blk_lt q.x6
      have lb := q.al.lt
      have ls := q.gr.size
      have h8 := G8.out.2.2.size
      have hs := (set3_grown w8 g8 r (l + 1) e).size
      have hl11 : v1.heap.size ≤ g11 := by rw [l11]; exact Nat.le_trans h8 hs
      have hG : w11.grownBy W (some g11) := by rw [hW]; exact grown_then (set2_grown _ _ _ _) (set2_grown _ _ _ _) (fun _ _ => .inr rfl)
      have n8 : g11 ≠ g8 := by rw [l11]; exact Nat.ne_of_gt l8
      refine ⟨D.out.far hG (by omega) (by omega) (by omega) (by omega) (by omega), blk_grown X8.out.1 hG (by intro q; injection q with q; exact n8 q.symm), ?_⟩
      rw [hW]
      exact set2_blk (set2_blk G11.out.2.1 0 0) r (l + 1)
    generalize hW : ((((w11.setCell { block := g11, off := 0 } (Value.int IntKind.i64 0)).setCell { block := g11, off := 1 } (Value.int IntKind.i64 0)).setCell { block := g11, off := 0 } (Value.int IntKind.i64 r)).setCell { block := g11, off := 1 } (Value.int IntKind.i64 (l + 1))) = W7 at *
    obtain ⟨D7, X7, Y7⟩ := hD W7 hW.symm
    have n7 := X8.out.2
    have n11 : g11 ≠ b := by
      have l11 := G11.out.1
      have lb := D8.out.al.lt
      have h8 := G8.out.2.2.size
      have hs := (set3_grown w8 g8 r (l + 1) e).size
      rw [l11]
      exact Nat.ne_of_gt (Nat.lt_of_lt_of_le (Nat.lt_of_lt_of_le lb h8) hs)
    clear hD hW
    have s0 := (blk_cell X7 0).trans rfl
    have s1 := (blk_cell X7 1).trans rfl
    have s2 := (blk_cell X7 2).trans rfl
    have t0 := (blk_cell Y7 0).trans rfl
    have t1 := (blk_cell Y7 1).trans rfl
    have D := Lib.hid D7
    have X := Lib.hid X7
    have Y := Lib.hid Y7
    clear D7 X7 Y7
    go_region_with (go_at_call 19; refine (next_ok b r l e (r) (l + 1) 0 _ hr D.out.drew.al hl hle he (by rw [if_pos (by have := HC.out; omega)]) (by rw [if_pos (by have := HC.out; omega)]) E2.out.symm).mono ?_; rintro en v2 ⟨rfl, HA2, HG2⟩; have D := Lib.hid (D.out.drew.step HA2 HG2); have X := Lib.hid (blk_grown (blk_drew X.out) HG2 (by intro q; injection q with q; exact n7 q)); have Y := Lib.hid (blk_grown (blk_drew Y.out) HG2 (by intro q; injection q with q; exact n11 q)); have s0 := (blk_cell X.out 0).trans rfl; have s1 := (blk_cell X.out 1).trans rfl; have s2 := (blk_cell X.out 2).trans rfl; have t0 := (blk_cell Y.out 0).trans rfl; have t1 := (blk_cell Y.out 1).trans rfl; have c60 := D.out.c60; have c61 := D.out.c61; have c62 := D.out.c62; have f0 := blk_frozen D.out.x6 0; have f1 := blk_frozen D.out.x6 1; have f2 := blk_frozen D.out.x6 2; clear HA2 HG2)
    all_goals
      go_wp2
      have FIN := Lib.hid D.out.fin
      rw [E1.out] at FIN
      refine bodyPost_ret (results_ct rfl _ _ g6 36 #[.int .i64 r, .int .i64 (l + 1), .int .i64 e] (0, 0) _ rfl (set3_blk D.out.x6 r (l + 1) e) Try.underlying36 rfl (by kernel_rfl)) rfl ?_
      exact FIN.out

set_option maxHeartbeats 1000000 in
theorem does_0no (b : Nat) (r l e n : Int) (w : World) (hr : (r == 0) = false) (h : Al w b r l e) (hl : 0 ≤ l) (hle : l ≤ e) (he : e ≤ 4294967295) (hc : ¬ l < e) :
    Calls Try.prog 24 #[.pointer (some ⟨b, 0, none⟩), .agg #[.int .i64 r, .int .i64 l, .int .i64 e], .agg #[.int .i64 0, .int .i64 n]] w (DoesP b r l e 0 n w (nextLast l e) e) := by
    have HA := Lib.hid h
    have HC := Lib.hid hc
    clear h hc
    have e1 : nextLast l e = l := by unfold nextLast; rw [if_neg (by have := HC.out; omega)]
    have e2 : nextE l e = 14 := by unfold nextE; rw [if_neg (by have := HC.out; omega)]
    rw [e1]
    have E1 := Lib.hid e1
    have E2 := Lib.hid e2
    clear e1 e2
    go_enter Try.func24, Try.ntmps24
    go_wp2_with (first | (((with_reducible refine gate_dst (N := 4) rfl ?_); refine box_event rfl (N := 4) rfl (cs := #[.int .i64 r, .int .i64 l, .int .i64 e]) (t := 36) ?hr ?_; (case hr => first | (go_simp; done) | (go_simp; rfl)); intro g4 hg w4 hbox hb; have G4 := Lib.hid (And.intro hg (And.intro hbox hb)); clear hg hbox hb)) | (((with_reducible refine gate_dst (N := 5) rfl ?_); refine box_event rfl (N := 5) rfl (cs := #[.int .i64 0, .int .i64 n]) (t := 44) ?hr ?_; (case hr => first | (go_simp; done) | (go_simp; rfl)); intro g5 hg w5 hbox hb; have G5 := Lib.hid (And.intro hg (And.intro hbox hb)); clear hg hbox hb)) | (((with_reducible refine gate_dst (N := 6) rfl ?_); refine box_event rfl (N := 6) rfl (cs := #[.int .i64 0, .int .i64 0, .int .i64 0]) (t := 36) ?hr ?_; (case hr => first | (go_simp; done) | (go_simp; rfl)); intro g6 hg w6 hbox hb; have D := Lib.hid (DS.init HA.out G4.out.1 G4.out.2.1 G4.out.2.2 G5.out.1 G5.out.2.1 G5.out.2.2 hg hbox hb); clear hg hbox hb; have c40 := D.out.c40; have c41 := D.out.c41; have c42 := D.out.c42; have c50 := D.out.c50; have c51 := D.out.c51; have c60 := D.out.c60; have c61 := D.out.c61; have c62 := D.out.c62)) | (go_at_call 29; refine (rtake1_no r l e _ hl (by have := HC.out; omega) he).mono ?_; rintro en v1 ⟨v, rfl, hb1⟩; have D := Lib.hid (D.out.below hb1); clear hb1; have c40 := D.out.c40; have c41 := D.out.c41; have c42 := D.out.c42; have c50 := D.out.c50; have c51 := D.out.c51; have c60 := D.out.c60; have c61 := D.out.c61; have c62 := D.out.c62) | (((with_reducible refine gate_dst (N := 8) rfl ?_); refine box_event rfl (N := 8) rfl (cs := #[.int .i64 0, .int .i64 0, .int .i64 0]) (t := 36) ?hr ?_; (case hr => first | (go_simp; done) | (go_simp; rfl)); intro g8 hg w8 hbox hb; have G8 := Lib.hid (And.intro hg (And.intro hbox hb)); have D8 := D; have D := Lib.hid (D.out.below hb); have f0 := blk_frozen hbox 0; have f1 := blk_frozen hbox 1; have f2 := blk_frozen hbox 2; have r0 := (blk_cell hbox 0).trans rfl; have r1 := (blk_cell hbox 1).trans rfl; have r2 := (blk_cell hbox 2).trans rfl; clear hg hbox hb; have c40 := D.out.c40; have c41 := D.out.c41; have c42 := D.out.c42; have c50 := D.out.c50; have c51 := D.out.c51; have c60 := D.out.c60; have c61 := D.out.c61; have c62 := D.out.c62)) | (((with_reducible refine gate_dst (N := 11) rfl ?_); refine box_event rfl (N := 11) rfl (cs := #[.int .i64 0, .int .i64 0]) (t := 32) ?hr ?_; (case hr => first | (go_simp; done) | (go_simp; rfl)); intro g11 hg w11 hbox hb; have Q := D8.out.newR G8.out.1 G8.out.2.1 G8.out.2.2 r (l) e; have D := Lib.hid (Q.1.below hb); have X8 := Lib.hid (And.intro (blk_below Q.2.1 hb) Q.2.2); have E8 := Lib.hid (blk_lt Q.2.1); have f0 := blk_frozen hbox 0; have f1 := blk_frozen hbox 1; have r0 := (blk_cell hbox 0).trans rfl; have r1 := (blk_cell hbox 1).trans rfl; have G11 := Lib.hid (And.intro hg (And.intro hbox hb)); clear Q hg hbox hb)))
    have hD : ∀ W, W = set2 w11 g11 0 0 → DS w b g4 g5 g6 r l e 0 n l e W ∧ W.heap[g8]? = some (ralC r (l) e) ∧ W.heap[g11]? = some (dotC (0) (0)) := by
      intro W hW
      have l8 := E8.out
      have l11 := G11.out.1
      have q := D8.out
      have l4 := blk_lt q.x4
      have l5 := blk_lt q.x5
      have l6 := blk_lt q.x6
      have lb := q.al.lt
      have ls := q.gr.size
      have h8 := G8.out.2.2.size
      have hs := (set3_grown w8 g8 r (l) e).size
      have hl11 : v1.heap.size ≤ g11 := by rw [l11]; exact Nat.le_trans h8 hs
      have hG : w11.grownBy W (some g11) := by rw [hW]; exact set2_grown _ _ _ _
      have n8 : g11 ≠ g8 := by rw [l11]; exact Nat.ne_of_gt l8
      refine ⟨D.out.far hG (by omega) (by omega) (by omega) (by omega) (by omega), blk_grown X8.out.1 hG (by intro q; injection q with q; exact n8 q.symm), ?_⟩
      rw [hW]
      exact set2_blk G11.out.2.1 0 0
    generalize hW : ((w11.setCell { block := g11, off := 0 } (Value.int IntKind.i64 0)).setCell { block := g11, off := 1 } (Value.int IntKind.i64 0)) = W7 at *
    obtain ⟨D7, X7, Y7⟩ := hD W7 hW.symm
    have n7 := X8.out.2
    have n11 : g11 ≠ b := by
      have l11 := G11.out.1
      have lb := D8.out.al.lt
      have h8 := G8.out.2.2.size
      have hs := (set3_grown w8 g8 r (l) e).size
      rw [l11]
      exact Nat.ne_of_gt (Nat.lt_of_lt_of_le (Nat.lt_of_lt_of_le lb h8) hs)
    clear hD hW
    have s0 := (blk_cell X7 0).trans rfl
    have s1 := (blk_cell X7 1).trans rfl
    have s2 := (blk_cell X7 2).trans rfl
    have t0 := (blk_cell Y7 0).trans rfl
    have t1 := (blk_cell Y7 1).trans rfl
    have D := Lib.hid D7
    have X := Lib.hid X7
    have Y := Lib.hid Y7
    clear D7 X7 Y7
    go_region_with (go_at_call 19; refine (next_ok b r l e (0) (0) 14 _ hr D.out.drew.al hl hle he (by rw [if_neg (by have := HC.out; omega)]) (by rw [if_neg (by have := HC.out; omega)]) E2.out.symm).mono ?_; rintro en v2 ⟨rfl, HA2, HG2⟩; have D := Lib.hid (D.out.drew.step HA2 HG2); have X := Lib.hid (blk_grown (blk_drew X.out) HG2 (by intro q; injection q with q; exact n7 q)); have Y := Lib.hid (blk_grown (blk_drew Y.out) HG2 (by intro q; injection q with q; exact n11 q)); have s0 := (blk_cell X.out 0).trans rfl; have s1 := (blk_cell X.out 1).trans rfl; have s2 := (blk_cell X.out 2).trans rfl; have t0 := (blk_cell Y.out 0).trans rfl; have t1 := (blk_cell Y.out 1).trans rfl; have c60 := D.out.c60; have c61 := D.out.c61; have c62 := D.out.c62; have f0 := blk_frozen D.out.x6 0; have f1 := blk_frozen D.out.x6 1; have f2 := blk_frozen D.out.x6 2; clear HA2 HG2)
    all_goals
      go_wp2
      have FIN := Lib.hid D.out.fin
      rw [E1.out] at FIN
      refine bodyPost_ret (results_ct rfl _ _ g6 36 #[.int .i64 r, .int .i64 (l), .int .i64 e] (0, 0) _ rfl (set3_blk D.out.x6 r (l) e) Try.underlying36 rfl (by kernel_rfl)) rfl ?_
      exact FIN.out

theorem does_0 (b : Nat) (r l e n : Int) (w : World) (hr : (r == 0) = false) (h : Al w b r l e) (hl : 0 ≤ l) (hle : l ≤ e) (he : e ≤ 4294967295) :
    Calls Try.prog 24 #[.pointer (some ⟨b, 0, none⟩), .agg #[.int .i64 r, .int .i64 l, .int .i64 e], .agg #[.int .i64 0, .int .i64 n]] w (DoesP b r l e 0 n w (nextLast l e) e) := by
  by_cases hc : l < e
  · exact does_0yes b r l e n w hr h hl hle he hc
  · exact does_0no b r l e n w hr h hl hle he hc
end Go.Proofs.Ythbngkaajhbdjaa.Al
