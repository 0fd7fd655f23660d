/- More helpers of layer 7's laws: an allocator looks like the reference's. -/
import Derived.Test.YthbngkaajhbdjaaLa
namespace Go.Proofs.Ythbngkaajhbdjaa.Al
open Go.RowKit Go.Proofs Go.Proofs.YthbngkaajhbdjaaW.PrintWords Go.Proofs.Ythbngkaajhbdjaa.Kit

set_option maxHeartbeats 1000000 in
theorem looks_ok (b : Nat) (r l e : Int) (w : World) (hr : (r == 0) = false) (h : Al w b r l e) (hl : 0 ≤ l) (hle : l ≤ e) (he : e ≤ 4294967295) :
    Calls Try.prog 16 #[.pointer (some ⟨b, 0, none⟩), .agg #[.int .i64 r, .int .i64 l, .int .i64 e]] w fun en w' => en = .returned (.bool true) ∧ Below w.heap.size w w' := by
  have HA := Lib.hid h
  clear h
  go_enter Try.func16, Try.ntmps16
  go_wp2_with (first | (((with_reducible refine gate_dst (N := 3) rfl ?_); refine box_event rfl (N := 3) rfl (cs := #[.int .i64 r, .int .i64 l, .int .i64 e]) (t := 36) ?hr ?_; (case hr => first | (go_simp; done) | (go_simp; rfl)); intro g hg w5 hbox hb; have HB5 := Lib.hid hb; have p0 := (blk_cell hbox 0).trans rfl; have p1 := (blk_cell hbox 1).trans rfl; have p2 := (blk_cell hbox 2).trans rfl; have HA5 := Lib.hid (HA.out.below hb); clear hb hbox hg)) | fail)
  go_quiet ((first | (go_at_call 26; exact quiet_l (replica_any b r l e _ HA5.out)) | (go_at_call 11; exact quiet_l (last_any b r l e _ hr HA5.out)) | (go_at_call 22; exact quiet_l (end_any b r l e _ hr HA5.out)) | (go_at_call 12; exact quiet_l (left_any b r l e _ hr HA5.out hl hle he))))
  go_wp2
  go_ret
  exact ⟨rfl, pw_below_drewN HB5.out _⟩
end Go.Proofs.Ythbngkaajhbdjaa.Al
