/- What the methods of a nil or zero allocator return: contracts of package alloc's functions. -/
import Derived.Test.YthbngkaajhbdjaaAlb
namespace Go.Proofs.Ythbngkaajhbdjaa.Al
open Go.RowKit Go.Proofs Go.Proofs.YthbngkaajhbdjaaW.PrintWords Go.Proofs.Ythbngkaajhbdjaa.Kit

def Zr (w : World) (p : Value) : Prop := p = .pointer none ∨ ∃ b, p = .pointer (some ⟨b, 0, none⟩) ∧ Al w b 0 0 0
theorem Zr.below {w w' : World} {p : Value} (h : Zr w p) (hb : Below w.heap.size w w') : Zr w' p := by
  rcases h with h | ⟨b, h, ha⟩
  · exact .inl h
  · exact .inr ⟨b, h, ha.below hb⟩

set_option maxHeartbeats 400000 in
theorem take_zr (p : Value) (w : World) (h : Zr w p) (n : Int) :
    Calls Try.prog 10 #[p, .int .i64 n] w fun en w' => en = .returned (.tuple #[.slice none 0 0, .int .i64 1]) ∧ w = w' := by
  rcases h with rfl | ⟨b, rfl, h⟩
  · go_enter Try.func10, Try.ntmps10
    go_wp2
    go_ret2
    exact ⟨rfl, rfl⟩
  · have hc0 := h.c0
    go_enter Try.func10, Try.ntmps10
    go_wp2
    go_ret2
    exact ⟨rfl, rfl⟩
set_option maxHeartbeats 400000 in
theorem extend_zr (p : Value) (w : World) (h : Zr w p) (n : Int) :
    Calls Try.prog 20 #[p, .int .i64 n] w fun en w' => en = .returned (.int .i64 1) ∧ w = w' := by
  rcases h with rfl | ⟨b, rfl, h⟩
  · go_enter Try.func20, Try.ntmps20
    go_wp2
    go_ret
    exact ⟨rfl, rfl⟩
  · have hc0 := h.c0
    go_enter Try.func20, Try.ntmps20
    go_wp2
    go_ret
    exact ⟨rfl, rfl⟩
set_option maxHeartbeats 400000 in
theorem pass_zr (p : Value) (w : World) (h : Zr w p) (n : Int) :
    Calls Try.prog 21 #[p, .int .i64 n] w fun en w' => en = .returned (.int .i64 1) ∧ w = w' := by
  rcases h with rfl | ⟨b, rfl, h⟩
  · go_enter Try.func21, Try.ntmps21
    go_wp2
    go_ret
    exact ⟨rfl, rfl⟩
  · have hc0 := h.c0
    go_enter Try.func21, Try.ntmps21
    go_wp2
    go_ret
    exact ⟨rfl, rfl⟩
set_option maxHeartbeats 400000 in
theorem replica_zr (p : Value) (w : World) (h : Zr w p) :
    Calls Try.prog 26 #[p] w fun en w' => en = .returned (.int .i64 0) ∧ w = w' := by
  rcases h with rfl | ⟨b, rfl, h⟩
  · go_enter Try.func26, Try.ntmps26
    go_wp2
    go_ret
    exact ⟨rfl, rfl⟩
  · have hc0 := h.c0
    go_enter Try.func26, Try.ntmps26
    go_wp2
    go_ret
    exact ⟨rfl, rfl⟩
set_option maxHeartbeats 400000 in
theorem last_zr (p : Value) (w : World) (h : Zr w p) :
    Calls Try.prog 11 #[p] w fun en w' => en = .returned (.int .i64 0) ∧ w = w' := by
  rcases h with rfl | ⟨b, rfl, h⟩
  · go_enter Try.func11, Try.ntmps11
    go_wp2
    go_ret
    exact ⟨rfl, rfl⟩
  · have hc0 := h.c0
    go_enter Try.func11, Try.ntmps11
    go_wp2
    go_ret
    exact ⟨rfl, rfl⟩
set_option maxHeartbeats 400000 in
theorem end_zr (p : Value) (w : World) (h : Zr w p) :
    Calls Try.prog 22 #[p] w fun en w' => en = .returned (.int .i64 0) ∧ w = w' := by
  rcases h with rfl | ⟨b, rfl, h⟩
  · go_enter Try.func22, Try.ntmps22
    go_wp2
    go_ret
    exact ⟨rfl, rfl⟩
  · have hc0 := h.c0
    go_enter Try.func22, Try.ntmps22
    go_wp2
    go_ret
    exact ⟨rfl, rfl⟩
set_option maxHeartbeats 400000 in
theorem left_zr (p : Value) (w : World) (h : Zr w p) :
    Calls Try.prog 12 #[p] w fun en w' => en = .returned (.int .i64 0) ∧ w = w' := by
  rcases h with rfl | ⟨b, rfl, h⟩
  · go_enter Try.func12, Try.ntmps12
    go_wp2
    go_ret
    exact ⟨rfl, rfl⟩
  · have hc0 := h.c0
    go_enter Try.func12, Try.ntmps12
    go_wp2
    go_ret
    exact ⟨rfl, rfl⟩
set_option maxHeartbeats 400000 in
theorem copy_zr (p : Value) (w : World) (h : Zr w p) :
    Calls Try.prog 18 #[p] w fun en w' => en = .returned (.pointer none) ∧ w = w' := by
  rcases h with rfl | ⟨b, rfl, h⟩
  · go_enter Try.func18, Try.ntmps18
    go_wp2
    go_ret
    exact ⟨rfl, rfl⟩
  · have hc0 := h.c0
    go_enter Try.func18, Try.ntmps18
    go_wp2
    go_ret
    exact ⟨rfl, rfl⟩
set_option maxHeartbeats 400000 in
theorem next_zr (p : Value) (w : World) (h : Zr w p) :
    Calls Try.prog 23 #[p] w fun en w' => en = .returned (.tuple #[.agg #[.int .i64 0, .int .i64 0], .int .i64 1]) ∧ Below w.heap.size w w' := by
  have HA := Lib.hid h
  clear h
  go_enter Try.func23, Try.ntmps23
  go_wp2_with (first | (((with_reducible refine gate_dst (N := 2) rfl ?_); refine box_event rfl (N := 2) rfl (cs := #[.int .i64 0, .int .i64 0]) (t := 32) ?hr ?_; (case hr => first | (go_simp; done) | (go_simp; rfl)); intro g hg w5 hbox hb; have HB5 := Lib.hid hb; have HX5 := Lib.hid hbox; have HG5 := Lib.hid hg; have hf0 := blk_frozen hbox 0; have hf1 := blk_frozen hbox 1; have p0 := (blk_cell hbox 0).trans rfl; have p1 := (blk_cell hbox 1).trans rfl; clear hb hbox hg)) | (go_at_call 10; refine (take_zr p _ (HA.out.below HB5.out) 1).mono ?_; rintro en w1 ⟨rfl, rfl⟩))
  have hgw : w.heap.size ≤ g := by rw [HG5.out]; exact Nat.le_refl _
  refine bodyPost_ret (results_ct rfl _ _ g 32 #[.int .i64 0, .int .i64 0] (0, 0) _ rfl (blk_put (cs := #[.int .i64 0, .int .i64 0]) (blk_put HX5.out 0 _ rfl) 1 _ rfl) Try.underlying32 rfl (by kernel_rfl)) rfl ?_
  exact ⟨rfl, below_set (below_set HB5.out hgw) hgw⟩
end Go.Proofs.Ythbngkaajhbdjaa.Al
