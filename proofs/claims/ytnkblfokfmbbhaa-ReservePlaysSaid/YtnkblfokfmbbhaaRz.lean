/- What nil and zero counters return: contracts of package reserve's functions. -/
import Derived.Test.YtnkblfokfmbbhaaRt
namespace Go.Proofs.Ytnkblfokfmbbhaa.Al
open Go.RowKit Go.Proofs Go.Proofs.YtnkblfokfmbbhaaW.PrintWords Go.Proofs.Ytnkblfokfmbbhaa.Kit
set_option linter.unusedSimpArgs false
set_option linter.unusedVariables false

def Zs (w : World) (p : Value) : Prop := p = .pointer none ∨ ∃ b, p = .pointer (some ⟨b, 0, none⟩) ∧ w.heap[b]? = some (.cells #[.pointer none, .int .i64 0] 55 (0, 0))
theorem Zs.below {w w' : World} {p : Value} (h : Zs w p) (hb : Below w.heap.size w w') : Zs w' p := by
  rcases h with h | ⟨b, h, ha⟩
  · exact .inl h
  · exact .inr ⟨b, h, blk_below ha hb⟩
set_option maxHeartbeats 400000 in
theorem check_zs (p : Value) (w : World) (h : Zs w p) (n : Int) :
    Calls Try.prog 28 #[p, .int .i64 n] w fun en w' => en = .returned (.int .i64 1) ∧ w = w' := by
  rcases h with rfl | ⟨b, rfl, h⟩
  · go_enter Try.func28, Try.ntmps28
    go_wp2
    go_ret
    exact ⟨rfl, rfl⟩
  · have hc0 := (blk_cell h 0).trans rfl
    have hc1 := (blk_cell h 1).trans rfl
    clear h
    go_enter Try.func28, Try.ntmps28
    go_wp2
    go_ret
    exact ⟨rfl, rfl⟩
set_option maxHeartbeats 400000 in
theorem rsnext_zs (p : Value) (w : World) (h : Zs w p) (n : Int) :
    Calls Try.prog 11 #[p, .int .i64 n] w fun en w' => en = .returned (.tuple #[.slice none 0 0, .int .i64 1]) ∧ w = w' := by
  have HA := Lib.hid h
  clear h
  go_enter Try.func11, Try.ntmps11
  go_wp2_with (go_at_call 28; refine (check_zs p _ HA.out n).mono ?_; rintro en w1 ⟨rfl, rfl⟩)
  go_ret2
  exact ⟨rfl, rfl⟩
set_option maxHeartbeats 400000 in
theorem need_zs (p : Value) (w : World) (h : Zs w p) (n : Int) :
    Calls Try.prog 16 #[p, .int .i64 n] w fun en w' => en = .returned (.tuple #[.int .i64 0, .int .i64 1]) ∧ w = w' := by
  have HA := Lib.hid h
  clear h
  go_enter Try.func16, Try.ntmps16
  go_wp2_with (go_at_call 28; refine (check_zs p _ HA.out n).mono ?_; rintro en w1 ⟨rfl, rfl⟩)
  go_ret2
  exact ⟨rfl, rfl⟩
set_option maxHeartbeats 400000 in
theorem grant_zs (p : Value) (w : World) (h : Zs w p) (n : Int) :
    Calls Try.prog 10 #[p, .int .i64 n] w fun en w' => en = .returned (.int .i64 1) ∧ w = w' := by
  have HA := Lib.hid h
  clear h
  go_enter Try.func10, Try.ntmps10
  go_wp2_with (go_at_call 28; refine (check_zs p _ HA.out 0).mono ?_; rintro en w1 ⟨rfl, rfl⟩)
  go_ret
  exact ⟨rfl, rfl⟩
set_option maxHeartbeats 400000 in
theorem rscopy_zs (p : Value) (w : World) (h : Zs w p) :
    Calls Try.prog 25 #[p] w fun en w' => en = .returned (.pointer none) ∧ w = w' := by
  have HA := Lib.hid h
  clear h
  go_enter Try.func25, Try.ntmps25
  go_wp2_with (go_at_call 28; refine (check_zs p _ HA.out 0).mono ?_; rintro en w1 ⟨rfl, rfl⟩)
  go_ret
  exact ⟨rfl, rfl⟩
set_option maxHeartbeats 400000 in
theorem use_zs (p : Value) (w : World) (h : Zs w p) (n : Int) :
    Calls Try.prog 13 #[p, .int .i64 n] w fun en w' => en = .returned (.int .i64 1) ∧ w = w' := by
  have HA := Lib.hid h
  clear h
  go_enter Try.func13, Try.ntmps13
  go_wp2_with (go_at_call 11; refine (rsnext_zs p _ HA.out n).mono ?_; rintro en w1 ⟨rfl, rfl⟩)
  go_ret
  exact ⟨rfl, rfl⟩
set_option maxHeartbeats 400000 in
theorem rsreplica_zs (p : Value) (w : World) (h : Zs w p) :
    Calls Try.prog 26 #[p] w fun en w' => en = .returned (.int .i64 0) ∧ w = w' := by
  rcases h with rfl | ⟨b, rfl, h⟩
  · go_enter Try.func26, Try.ntmps26
    go_wp2
    go_ret
    exact ⟨rfl, rfl⟩
  · have hc0 := (blk_cell h 0).trans rfl
    have hc1 := (blk_cell h 1).trans rfl
    clear h
    go_enter Try.func26, Try.ntmps26
    go_wp2_with (go_at_call 35; refine (replica_zr (.pointer none) _ (.inl rfl)).mono ?_; rintro en w1 ⟨rfl, rfl⟩)
    go_ret
    exact ⟨rfl, rfl⟩
set_option maxHeartbeats 400000 in
theorem used_zs (p : Value) (w : World) (h : Zs w p) :
    Calls Try.prog 14 #[p] w fun en w' => en = .returned (.int .i64 0) ∧ w = w' := by
  rcases h with rfl | ⟨b, rfl, h⟩
  · go_enter Try.func14, Try.ntmps14
    go_wp2
    go_ret
    exact ⟨rfl, rfl⟩
  · have hc0 := (blk_cell h 0).trans rfl
    have hc1 := (blk_cell h 1).trans rfl
    clear h
    go_enter Try.func14, Try.ntmps14
    go_wp2_with (go_at_call 31; refine (last_zr (.pointer none) _ (.inl rfl)).mono ?_; rintro en w1 ⟨rfl, rfl⟩)
    go_ret
    exact ⟨rfl, rfl⟩
set_option maxHeartbeats 400000 in
theorem reserved_zs (p : Value) (w : World) (h : Zs w p) :
    Calls Try.prog 15 #[p] w fun en w' => en = .returned (.int .i64 0) ∧ w = w' := by
  rcases h with rfl | ⟨b, rfl, h⟩
  · go_enter Try.func15, Try.ntmps15
    go_wp2
    go_ret
    exact ⟨rfl, rfl⟩
  · have hc0 := (blk_cell h 0).trans rfl
    have hc1 := (blk_cell h 1).trans rfl
    clear h
    go_enter Try.func15, Try.ntmps15
    go_wp2_with (go_at_call 29; refine (end_zr (.pointer none) _ (.inl rfl)).mono ?_; rintro en w1 ⟨rfl, rfl⟩)
    go_ret
    exact ⟨rfl, rfl⟩
end Go.Proofs.Ytnkblfokfmbbhaa.Al
