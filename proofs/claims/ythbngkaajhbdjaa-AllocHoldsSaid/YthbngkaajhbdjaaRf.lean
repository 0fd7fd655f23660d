/- The reference of layer 7: what its methods return. -/
import Derived.Test.YthbngkaajhbdjaaNw
namespace Go.Proofs.Ythbngkaajhbdjaa.Al
open Go.RowKit Go.Proofs Go.Proofs.YthbngkaajhbdjaaW.PrintWords Go.Proofs.Ythbngkaajhbdjaa.Kit
set_option linter.unusedSimpArgs false
set_option linter.unusedVariables false

theorem blk_new1 (w : World) (o o' : Obj) : ((w.alloc o).alloc o').heap[w.heap.size + 1]? = some o' := by
  have := blk_new (w.alloc o) o'
  simpa using this

def RExtendP (r l e n : Int) (w : World) (en : Ending) (w' : World) : Prop :=
  en = .returned (.tuple #[.agg #[.int .i64 r, .int .i64 l, .int .i64 (extendEnd e n)], .int .i64 (extendE e n)]) ∧ Below w.heap.size w w'
set_option maxHeartbeats 400000 in
theorem rextend_any (r l e n : Int) (w : World) : Calls Try.prog 30 #[.agg #[.int .i64 r, .int .i64 l, .int .i64 e], .int .i64 n] w (RExtendP r l e n w) := by
  have c0 : ∀ w', ¬ (n < e ∨ 4294967295 < n) → Below w.heap.size w w' → RExtendP r l e n w (.returned (.tuple #[.agg #[.int .i64 r, .int .i64 l, .int .i64 n], .int .i64 0])) w' := fun w' h hb => ⟨by unfold extendE extendEnd; rw [if_neg h, if_neg h], hb⟩
  have C0 := Lib.hid c0
  clear c0
  have c1 : ∀ w', (n < e ∨ 4294967295 < n) → Below w.heap.size w w' → RExtendP r l e n w (.returned (.tuple #[.agg #[.int .i64 r, .int .i64 l, .int .i64 e], .int .i64 2])) w' := fun w' h hb => ⟨by unfold extendE extendEnd; rw [if_pos h, if_pos h], hb⟩
  have C1 := Lib.hid c1
  clear c1
  go_enter Try.func30, Try.ntmps30
  go_wp2
  all_goals first
  | (refine bodyPost_ret (results_ct rfl _ _ (w.heap.size + 1) 36 #[.int .i64 r, .int .i64 l, .int .i64 n] (0, 0) _ rfl (blk_new1 w _ _) Try.underlying36 rfl (by kernel_rfl)) rfl ?_
     exact C0.out _ (by omega) (below_alloc (below_alloc (Below.refl _ _) _) _))
  | (refine bodyPost_ret (results_ct rfl _ _ (w.heap.size + 1) 36 #[.int .i64 r, .int .i64 l, .int .i64 e] (0, 0) _ rfl (blk_new1 w _ _) Try.underlying36 rfl (by kernel_rfl)) rfl ?_
     exact C1.out _ (by omega) (below_alloc (below_alloc (Below.refl _ _) _) _))
def RPassP (r l e n : Int) (w : World) (en : Ending) (w' : World) : Prop :=
  en = .returned (.tuple #[.agg #[.int .i64 r, .int .i64 (passLast l e n), .int .i64 e], .int .i64 (passE e n)]) ∧ Below w.heap.size w w'
set_option maxHeartbeats 400000 in
theorem rpass_any (r l e n : Int) (w : World) : Calls Try.prog 31 #[.agg #[.int .i64 r, .int .i64 l, .int .i64 e], .int .i64 n] w (RPassP r l e n w) := by
  have c0 : ∀ w', (0 ≤ n ∧ n ≤ e ∧ l < n) → Below w.heap.size w w' → RPassP r l e n w (.returned (.tuple #[.agg #[.int .i64 r, .int .i64 n, .int .i64 e], .int .i64 0])) w' := fun w' h hb => ⟨by unfold passE passLast; rw [if_neg (by omega), if_neg (by omega), if_pos (by omega), if_neg (by omega), if_neg (by omega)], hb⟩
  have C0 := Lib.hid c0
  clear c0
  have c1 : ∀ w', (0 ≤ n ∧ n ≤ e ∧ n ≤ l) → Below w.heap.size w w' → RPassP r l e n w (.returned (.tuple #[.agg #[.int .i64 r, .int .i64 l, .int .i64 e], .int .i64 0])) w' := fun w' h hb => ⟨by unfold passE passLast; rw [if_neg (by omega), if_neg (by omega), if_neg (by omega), if_neg (by omega), if_neg (by omega)], hb⟩
  have C1 := Lib.hid c1
  clear c1
  have c2 : ∀ w', n < 0 → Below w.heap.size w w' → RPassP r l e n w (.returned (.tuple #[.agg #[.int .i64 r, .int .i64 l, .int .i64 e], .int .i64 2])) w' := fun w' h hb => ⟨by unfold passE passLast; rw [if_pos (by omega), if_pos (by omega)], hb⟩
  have C2 := Lib.hid c2
  clear c2
  have c3 : ∀ w', (0 ≤ n ∧ e < n) → Below w.heap.size w w' → RPassP r l e n w (.returned (.tuple #[.agg #[.int .i64 r, .int .i64 l, .int .i64 e], .int .i64 3])) w' := fun w' h hb => ⟨by unfold passE passLast; rw [if_neg (by omega), if_pos (by omega), if_neg (by omega), if_pos (by omega)], hb⟩
  have C3 := Lib.hid c3
  clear c3
  go_enter Try.func31, Try.ntmps31
  go_wp2
  all_goals first
  | (refine bodyPost_ret (results_ct rfl _ _ (w.heap.size + 1) 36 #[.int .i64 r, .int .i64 n, .int .i64 e] (0, 0) _ rfl (blk_new1 w _ _) Try.underlying36 rfl (by kernel_rfl)) rfl ?_
     exact C0.out _ (by omega) (below_alloc (below_alloc (Below.refl _ _) _) _))
  | (refine bodyPost_ret (results_ct rfl _ _ (w.heap.size + 1) 36 #[.int .i64 r, .int .i64 l, .int .i64 e] (0, 0) _ rfl (blk_new1 w _ _) Try.underlying36 rfl (by kernel_rfl)) rfl ?_
     exact C1.out _ (by omega) (below_alloc (below_alloc (Below.refl _ _) _) _))
  | (refine bodyPost_ret (results_ct rfl _ _ (w.heap.size + 1) 36 #[.int .i64 r, .int .i64 l, .int .i64 e] (0, 0) _ rfl (blk_new1 w _ _) Try.underlying36 rfl (by kernel_rfl)) rfl ?_
     exact C2.out _ (by omega) (below_alloc (below_alloc (Below.refl _ _) _) _))
  | (refine bodyPost_ret (results_ct rfl _ _ (w.heap.size + 1) 36 #[.int .i64 r, .int .i64 l, .int .i64 e] (0, 0) _ rfl (blk_new1 w _ _) Try.underlying36 rfl (by kernel_rfl)) rfl ?_
     exact C3.out _ (by omega) (below_alloc (below_alloc (Below.refl _ _) _) _))

def RTakeP (r l e n : Int) (w : World) (en : Ending) (w' : World) : Prop :=
  ∃ v, en = .returned (.tuple #[.agg #[.int .i64 r, .int .i64 (l + takeN l e n), .int .i64 e], v, .int .i64 (takeE l e n)]) ∧ d32.R 32 w' w.heap.size (fun j => w.heap.size ≤ j) v (dots r l (takeN l e n)) ∧ Below w.heap.size w w'
structure RS (w0 : World) (g h : Nat) (r l e : Int) (w : World) : Prop where
  bel : Below w0.heap.size w0 w
  self : w.heap[g]? = some (.cells #[.int .i64 r, .int .i64 l, .int .i64 e] 36 (0, 0))
  out : w.heap[h]? = some (.cells #[.int .i64 0, .int .i64 0, .int .i64 0] 36 (0, 0))
  lg : w0.heap.size ≤ g
  lh : w0.heap.size ≤ h
  ne : g ≠ h
set_option maxHeartbeats 1000000 in
theorem rtake_yes (r l e n : Int) (w : World) (hl : 0 ≤ l) (he : e ≤ 4294967295) (h0 : 0 ≤ n) (h1 : n ≤ 65536) (h2 : n ≤ e - l) :
    Calls Try.prog 29 #[.agg #[.int .i64 r, .int .i64 l, .int .i64 e], .int .i64 n] w (RTakeP r l e n w) := by
  have hd1 : decide (n < 0) = false := decide_eq_false (by omega)
  have hd2 : decide (65536 < n) = false := decide_eq_false (by omega)
  have hd3 : decide (e - l < n) = false := decide_eq_false (by omega)
  go_enter Try.func29, Try.ntmps29
  go_wp2_with (first | (((with_reducible refine gate_dst (N := 2) rfl ?_); refine box_event rfl (N := 2) rfl (cs := #[.int .i64 r, .int .i64 l, .int .i64 e]) (t := 36) ?hr ?_; (case hr => first | (go_simp; done) | (go_simp; rfl)); intro g hg w5 hbox hb; have HB5 := Lib.hid hb; have HX5 := Lib.hid hbox; have HG5 := Lib.hid hg; clear hb hbox hg)) | (((with_reducible refine gate_dst (N := 4) rfl ?_); refine box_event rfl (N := 4) rfl (cs := #[.int .i64 0, .int .i64 0, .int .i64 0]) (t := 36) ?hr ?_; (case hr => first | (go_simp; done) | (go_simp; rfl)); intro h hh w6 hbox hb; have K := Lib.hid (RS.mk (below_step HB5.out hb) (blk_below HX5.out hb) hbox (by rw [HG5.out]; exact Nat.le_refl _) (by rw [hh]; exact HB5.out.size) (by have := blk_lt HX5.out; omega) : RS w g h r l e w6); have p0 := (blk_cell K.out.self 0).trans rfl; have p1 := (blk_cell K.out.self 1).trans rfl; have p2 := (blk_cell K.out.self 2).trans rfl; clear hb hbox hh)))
  have hlt6 := blk_lt K.out.self
  go_loopw [7, 8] (fun v i wr => ∃ k : Nat, (k : Int) ≤ n ∧ i = .int .i64 (k + 1) ∧ d32.R 32 wr w6.heap.size (fun j => w6.heap.size ≤ j) v (dots r l k) ∧ Below w6.heap.size w6 wr) (fun _ i _ => (n + 1 - intOf i).toNat)
  case atStart => exact ⟨0, by omega, rfl, Kd.R_nil _ _ _ _ _, Below.refl _ _⟩
  case round =>
    obtain ⟨k, hk, rfl, HR, hb⟩ := hrel
    have hx := blk_below K.out.self hb
    have p0 := (blk_cell hx 0).trans rfl
    have p1 := (blk_cell hx 1).trans rfl
    have p2 := (blk_cell hx 2).trans rfl
    have hxo := blk_below K.out.out hb
    have HXO := Lib.hid hxo
    have HBW := Lib.hid hb
    have hsz := hb.size
    have hlen := dots_length r l k
    clear hx hb hxo
    by_cases hlt : (k : Int) < n
    · go_wp2_with (at_builtin; refine Kd.R_append d32 (w0 := w6) (W := wr) w6.heap.size rfl (.tmp 29) (.tmp 37) 27 32 (.agg #[.int .i64 0, .int .i64 0]) 16 rfl Try.underlying27 infoDot rfl (by decide) (by decide) u7 (dots r l k) (r, l + (k + 1)) [.int .i64 r, .int .i64 (l + (k + 1))] (fun j => w6.heap.size ≤ j) (fun _ => False) (by rfl) (by rfl) ⟨[.int .i64 r], [.int .i64 (l + (k + 1))], rfl, rfl, rfl⟩ (fun _ h => h.elim) (fun j hj => Nat.le_trans hsz hj) HR HBW.out hsz (by rw [hlen]; omega) ?_; intro v1 w1 HR2 HB2 HG2 HT2)
      go_roundw
      case rel => exact ⟨k + 1, by omega, by go_num, by rw [dots_succ, show l + 1 + (k : Int) = l + (k + 1) by omega]; exact HR2, HB2⟩
      case measure => simp [intOf]; omega
    · have f0 := blk_frozen HXO.out 0
      have f1 := blk_frozen HXO.out 1
      have f2 := blk_frozen HXO.out 2
      have r0 := (blk_cell HXO.out 0).trans rfl
      have r1 := (blk_cell HXO.out 1).trans rfl
      have r2 := (blk_cell HXO.out 2).trans rfl
      have hnk : n = k := by omega
      subst hnk
      go_wp2
      have hlh := blk_lt HXO.out
      have hh6 : h < w6.heap.size := blk_lt K.out.out
      refine bodyPost_ret (results_ctt rfl _ _ h 36 #[.int .i64 r, .int .i64 (l + k), .int .i64 e] (0, 0) _ rfl (blk_put (cs := #[.int .i64 r, .int .i64 (l + k), .int .i64 0]) (blk_put (cs := #[.int .i64 r, .int .i64 0, .int .i64 0]) (blk_put HXO.out 0 _ rfl) 1 _ rfl) 2 _ rfl) Try.underlying36 rfl (by kernel_rfl)) rfl ?_
      have e2 : takeE l e k = 0 := by unfold takeE; rw [if_neg (by omega), if_neg (by omega)]
      have e3 : takeN l e k = k := by unfold takeN; rw [if_neg (by omega), if_neg (by omega)]; omega
      have hs6 := K.out.bel.size
      have hwh := K.out.lh
      have HR1 := Kd.R_far (Kd.R_far (Kd.R_far HR (p := ⟨h, 0, none⟩) (fun j hj => by show j ≠ h; omega) (.int .i64 r)) (p := ⟨h, 1, none⟩) (fun j hj => by show j ≠ h; omega) (.int .i64 (l + k))) (p := ⟨h, 2, none⟩) (fun j hj => by show j ≠ h; omega) (.int .i64 e)
      refine ⟨u7, by rw [e2, e3]; rfl, ?_, below_set (below_set (below_set (below_step K.out.bel HBW.out) hwh) hwh) hwh⟩
      rw [e3]
      exact Kd.R_mono (Kd.R_lower HR1 hs6) (fun j hj => Nat.le_trans hs6 hj)

set_option maxHeartbeats 1000000 in
theorem rtake_no (r l e n x : Int) (w : World) (hl : 0 ≤ l) (hle : l ≤ e) (he : e ≤ 4294967295) (hx : takeE l e n = x) (hn : takeN l e n = 0) (h1 : (n < 0 ∧ x = 2) ∨ (65536 < n ∧ x = 2) ∨ (0 ≤ n ∧ n ≤ 65536 ∧ e - l < n ∧ x = 14)) :
    Calls Try.prog 29 #[.agg #[.int .i64 r, .int .i64 l, .int .i64 e], .int .i64 n] w (RTakeP r l e n w) := by
  have fin : ∀ w', Below w.heap.size w w' → RTakeP r l e n w (.returned (.tuple #[.agg #[.int .i64 r, .int .i64 l, .int .i64 e], .slice none 0 0, .int .i64 x])) w' := fun w' hb =>
    ⟨.slice none 0 0, by rw [hx, hn]; simp, by rw [hn]; exact Kd.R_nil _ _ _ _ _, hb⟩
  have FIN := Lib.hid fin
  clear fin hx hn
  rcases h1 with ⟨h1, rfl⟩ | ⟨h1, rfl⟩ | ⟨h1, h2, h3, rfl⟩
  · have hd0 : True := trivial
    go_enter Try.func29, Try.ntmps29
    go_wp2_with (first | (((with_reducible refine gate_dst (N := 2) rfl ?_); refine box_event rfl (N := 2) rfl (cs := #[.int .i64 r, .int .i64 l, .int .i64 e]) (t := 36) ?hr ?_; (case hr => first | (go_simp; done) | (go_simp; rfl)); intro g hg w5 hbox hb; have HB5 := Lib.hid hb; have HX5 := Lib.hid hbox; have HG5 := Lib.hid hg; clear hb hbox hg)) | (((with_reducible refine gate_dst (N := 4) rfl ?_); refine box_event rfl (N := 4) rfl (cs := #[.int .i64 0, .int .i64 0, .int .i64 0]) (t := 36) ?hr ?_; (case hr => first | (go_simp; done) | (go_simp; rfl)); intro h hh w6 hbox hb; have K := Lib.hid (RS.mk (below_step HB5.out hb) (blk_below HX5.out hb) hbox (by rw [HG5.out]; exact Nat.le_refl _) (by rw [hh]; exact HB5.out.size) (by have := blk_lt HX5.out; omega) : RS w g h r l e w6); have p0 := (blk_cell K.out.self 0).trans rfl; have p1 := (blk_cell K.out.self 1).trans rfl; have p2 := (blk_cell K.out.self 2).trans rfl; have f0 := blk_frozen K.out.out 0; have f1 := blk_frozen K.out.out 1; have f2 := blk_frozen K.out.out 2; have r0 := (blk_cell K.out.out 0).trans rfl; have r1 := (blk_cell K.out.out 1).trans rfl; have r2 := (blk_cell K.out.out 2).trans rfl; clear hb hbox hh)))
    have hwh := K.out.lh
    refine bodyPost_ret (results_ctt rfl _ _ h 36 #[.int .i64 r, .int .i64 l, .int .i64 e] (0, 0) _ rfl (blk_put (cs := #[.int .i64 r, .int .i64 l, .int .i64 0]) (blk_put (cs := #[.int .i64 r, .int .i64 0, .int .i64 0]) (blk_put K.out.out 0 _ rfl) 1 _ rfl) 2 _ rfl) Try.underlying36 rfl (by kernel_rfl)) rfl ?_
    exact FIN.out _ (below_set (below_set (below_set K.out.bel hwh) hwh) hwh)
  · have hd0 : True := trivial
    go_enter Try.func29, Try.ntmps29
    go_wp2_with (first | (((with_reducible refine gate_dst (N := 2) rfl ?_); refine box_event rfl (N := 2) rfl (cs := #[.int .i64 r, .int .i64 l, .int .i64 e]) (t := 36) ?hr ?_; (case hr => first | (go_simp; done) | (go_simp; rfl)); intro g hg w5 hbox hb; have HB5 := Lib.hid hb; have HX5 := Lib.hid hbox; have HG5 := Lib.hid hg; clear hb hbox hg)) | (((with_reducible refine gate_dst (N := 4) rfl ?_); refine box_event rfl (N := 4) rfl (cs := #[.int .i64 0, .int .i64 0, .int .i64 0]) (t := 36) ?hr ?_; (case hr => first | (go_simp; done) | (go_simp; rfl)); intro h hh w6 hbox hb; have K := Lib.hid (RS.mk (below_step HB5.out hb) (blk_below HX5.out hb) hbox (by rw [HG5.out]; exact Nat.le_refl _) (by rw [hh]; exact HB5.out.size) (by have := blk_lt HX5.out; omega) : RS w g h r l e w6); have p0 := (blk_cell K.out.self 0).trans rfl; have p1 := (blk_cell K.out.self 1).trans rfl; have p2 := (blk_cell K.out.self 2).trans rfl; have f0 := blk_frozen K.out.out 0; have f1 := blk_frozen K.out.out 1; have f2 := blk_frozen K.out.out 2; have r0 := (blk_cell K.out.out 0).trans rfl; have r1 := (blk_cell K.out.out 1).trans rfl; have r2 := (blk_cell K.out.out 2).trans rfl; clear hb hbox hh)))
    have hwh := K.out.lh
    refine bodyPost_ret (results_ctt rfl _ _ h 36 #[.int .i64 r, .int .i64 l, .int .i64 e] (0, 0) _ rfl (blk_put (cs := #[.int .i64 r, .int .i64 l, .int .i64 0]) (blk_put (cs := #[.int .i64 r, .int .i64 0, .int .i64 0]) (blk_put K.out.out 0 _ rfl) 1 _ rfl) 2 _ rfl) Try.underlying36 rfl (by kernel_rfl)) rfl ?_
    exact FIN.out _ (below_set (below_set (below_set K.out.bel hwh) hwh) hwh)
  · have hd0 : True := trivial
    go_enter Try.func29, Try.ntmps29
    go_wp2_with (first | (((with_reducible refine gate_dst (N := 2) rfl ?_); refine box_event rfl (N := 2) rfl (cs := #[.int .i64 r, .int .i64 l, .int .i64 e]) (t := 36) ?hr ?_; (case hr => first | (go_simp; done) | (go_simp; rfl)); intro g hg w5 hbox hb; have HB5 := Lib.hid hb; have HX5 := Lib.hid hbox; have HG5 := Lib.hid hg; clear hb hbox hg)) | (((with_reducible refine gate_dst (N := 4) rfl ?_); refine box_event rfl (N := 4) rfl (cs := #[.int .i64 0, .int .i64 0, .int .i64 0]) (t := 36) ?hr ?_; (case hr => first | (go_simp; done) | (go_simp; rfl)); intro h hh w6 hbox hb; have K := Lib.hid (RS.mk (below_step HB5.out hb) (blk_below HX5.out hb) hbox (by rw [HG5.out]; exact Nat.le_refl _) (by rw [hh]; exact HB5.out.size) (by have := blk_lt HX5.out; omega) : RS w g h r l e w6); have p0 := (blk_cell K.out.self 0).trans rfl; have p1 := (blk_cell K.out.self 1).trans rfl; have p2 := (blk_cell K.out.self 2).trans rfl; have f0 := blk_frozen K.out.out 0; have f1 := blk_frozen K.out.out 1; have f2 := blk_frozen K.out.out 2; have r0 := (blk_cell K.out.out 0).trans rfl; have r1 := (blk_cell K.out.out 1).trans rfl; have r2 := (blk_cell K.out.out 2).trans rfl; clear hb hbox hh)))
    have hwh := K.out.lh
    refine bodyPost_ret (results_ctt rfl _ _ h 36 #[.int .i64 r, .int .i64 l, .int .i64 e] (0, 0) _ rfl (blk_put (cs := #[.int .i64 r, .int .i64 l, .int .i64 0]) (blk_put (cs := #[.int .i64 r, .int .i64 0, .int .i64 0]) (blk_put K.out.out 0 _ rfl) 1 _ rfl) 2 _ rfl) Try.underlying36 rfl (by kernel_rfl)) rfl ?_
    exact FIN.out _ (below_set (below_set (below_set K.out.bel hwh) hwh) hwh)

theorem rtake_any (r l e n : Int) (w : World) (hl : 0 ≤ l) (hle : l ≤ e) (he : e ≤ 4294967295) :
    Calls Try.prog 29 #[.agg #[.int .i64 r, .int .i64 l, .int .i64 e], .int .i64 n] w (RTakeP r l e n w) := by
  by_cases h1 : n < 0
  · exact rtake_no r l e n 2 w hl hle he (by unfold takeE; rw [if_pos (by omega)]) (by unfold takeN; rw [if_pos (by omega)]) (.inl ⟨h1, rfl⟩)
  by_cases h2 : 65536 < n
  · exact rtake_no r l e n 2 w hl hle he (by unfold takeE; rw [if_pos (by omega)]) (by unfold takeN; rw [if_pos (by omega)]) (.inr (.inl ⟨h2, rfl⟩))
  by_cases h3 : e - l < n
  · exact rtake_no r l e n 14 w hl hle he (by unfold takeE; rw [if_neg (by omega), if_pos h3]) (by unfold takeN; rw [if_neg (by omega), if_pos h3]) (.inr (.inr ⟨by omega, by omega, h3, rfl⟩))
  · exact rtake_yes r l e n w hl he (by omega) (by omega) (by omega)
end Go.Proofs.Ythbngkaajhbdjaa.Al
