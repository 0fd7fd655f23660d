/- What the methods of a nil or zero allocator return: contracts of package alloc's functions. -/
import Derived.Test.YtnkblfokfmbbhaaAlb
namespace Go.Proofs.Ytnkblfokfmbbhaa.Al
open Go.RowKit Go.Proofs Go.Proofs.YtnkblfokfmbbhaaW.PrintWords Go.Proofs.Ytnkblfokfmbbhaa.Kit

def Zr (w : World) (p : Value) : Prop := p = .pointer none ∨ ∃ b, p = .pointer (some ⟨b, 0, none⟩) ∧ Al w b 0 0 0
theorem Zr.below {w w' : World} {p : Value} (h : Zr w p) (hb : Below w.heap.size w w') : Zr w' p := by
  rcases h with h | ⟨b, h, ha⟩
  · exact .inl h
  · exact .inr ⟨b, h, ha.below hb⟩

set_option maxHeartbeats 400000 in
theorem take_zr (p : Value) (w : World) (h : Zr w p) (n : Int) :
    Calls Try.prog 33 #[p, .int .i64 n] w fun en w' => en = .returned (.tuple #[.slice none 0 0, .int .i64 1]) ∧ w = w' := by
  rcases h with rfl | ⟨b, rfl, h⟩
  · go_enter Try.func33, Try.ntmps33
    go_wp2
    go_ret2
    exact ⟨rfl, rfl⟩
  · have hc0 := h.c0
    go_enter Try.func33, Try.ntmps33
    go_wp2
    go_ret2
    exact ⟨rfl, rfl⟩
set_option maxHeartbeats 400000 in
theorem extend_zr (p : Value) (w : World) (h : Zr w p) (n : Int) :
    Calls Try.prog 30 #[p, .int .i64 n] w fun en w' => en = .returned (.int .i64 1) ∧ w = w' := by
  rcases h with rfl | ⟨b, rfl, h⟩
  · go_enter Try.func30, Try.ntmps30
    go_wp2
    go_ret
    exact ⟨rfl, rfl⟩
  · have hc0 := h.c0
    go_enter Try.func30, Try.ntmps30
    go_wp2
    go_ret
    exact ⟨rfl, rfl⟩
set_option maxHeartbeats 400000 in
theorem replica_zr (p : Value) (w : World) (h : Zr w p) :
    Calls Try.prog 35 #[p] w fun en w' => en = .returned (.int .i64 0) ∧ w = w' := by
  rcases h with rfl | ⟨b, rfl, h⟩
  · go_enter Try.func35, Try.ntmps35
    go_wp2
    go_ret
    exact ⟨rfl, rfl⟩
  · have hc0 := h.c0
    go_enter Try.func35, Try.ntmps35
    go_wp2
    go_ret
    exact ⟨rfl, rfl⟩
set_option maxHeartbeats 400000 in
theorem last_zr (p : Value) (w : World) (h : Zr w p) :
    Calls Try.prog 31 #[p] w fun en w' => en = .returned (.int .i64 0) ∧ w = w' := by
  rcases h with rfl | ⟨b, rfl, h⟩
  · go_enter Try.func31, Try.ntmps31
    go_wp2
    go_ret
    exact ⟨rfl, rfl⟩
  · have hc0 := h.c0
    go_enter Try.func31, Try.ntmps31
    go_wp2
    go_ret
    exact ⟨rfl, rfl⟩
set_option maxHeartbeats 400000 in
theorem end_zr (p : Value) (w : World) (h : Zr w p) :
    Calls Try.prog 29 #[p] w fun en w' => en = .returned (.int .i64 0) ∧ w = w' := by
  rcases h with rfl | ⟨b, rfl, h⟩
  · go_enter Try.func29, Try.ntmps29
    go_wp2
    go_ret
    exact ⟨rfl, rfl⟩
  · have hc0 := h.c0
    go_enter Try.func29, Try.ntmps29
    go_wp2
    go_ret
    exact ⟨rfl, rfl⟩
set_option maxHeartbeats 400000 in
theorem left_zr (p : Value) (w : World) (h : Zr w p) :
    Calls Try.prog 38 #[p] w fun en w' => en = .returned (.int .i64 0) ∧ w = w' := by
  rcases h with rfl | ⟨b, rfl, h⟩
  · go_enter Try.func38, Try.ntmps38
    go_wp2
    go_ret
    exact ⟨rfl, rfl⟩
  · have hc0 := h.c0
    go_enter Try.func38, Try.ntmps38
    go_wp2
    go_ret
    exact ⟨rfl, rfl⟩
set_option maxHeartbeats 400000 in
theorem copy_zr (p : Value) (w : World) (h : Zr w p) :
    Calls Try.prog 32 #[p] w fun en w' => en = .returned (.pointer none) ∧ w = w' := by
  rcases h with rfl | ⟨b, rfl, h⟩
  · go_enter Try.func32, Try.ntmps32
    go_wp2
    go_ret
    exact ⟨rfl, rfl⟩
  · have hc0 := h.c0
    go_enter Try.func32, Try.ntmps32
    go_wp2
    go_ret
    exact ⟨rfl, rfl⟩
end Go.Proofs.Ytnkblfokfmbbhaa.Al
