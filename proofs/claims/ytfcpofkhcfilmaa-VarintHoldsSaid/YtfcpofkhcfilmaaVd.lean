/- Readers of layer 1: contracts of New, zero, rest, IndexFunc with number's closure. -/
import Derived.Test.YtfcpofkhcfilmaaVy
namespace Go.Proofs.Ytfcpofkhcfilmaa.Vn
open Go.RowKit Go.Proofs Go.Proofs.YtfcpofkhcfilmaaW.PrintWords Go.Proofs.Ytfcpofkhcfilmaa.Kit
set_option linter.unusedSimpArgs false
set_option linter.unusedVariables false

theorem drop8 (A : Option Addr) (c : Nat) (xs : List Int) (m : Nat) (hm : m ≤ xs.length) (hc : xs.length ≤ c) :
    ∃ A', (∀ W : World, (Instr.slice 23 (.slice A xs.length c) (some (.int .i64 (m : Int))) none none).run Try.prog W = .ok (.slice A' (xs.drop m).length (c - m)) W) ∧ (∀ w, k8.C w A xs.length xs → k8.C w A' (xs.drop m).length (xs.drop m)) ∧ (xs.drop m).length ≤ c - m := by
  obtain ⟨i, hi, _, hsz, _⟩ := info_parts info8
  obtain ⟨A', h1, h2, h3⟩ := print_drop_of (P := Try.prog) (Value.int .u8) 0 23 5 .i64 Try.underlying23 hi hsz A c xs (m : Int) (by omega) (by omega) hc
  rw [Int.toNat_natCast] at h1 h2 h3
  exact ⟨A', h1, fun w h => Kd.C_of_reads (h1 := fun _ => rfl) (h2 w (Kd.reads_of_C h)), h3⟩
theorem take8 (A : Option Addr) (c : Nat) (xs : List Int) (m : Nat) (hm : m ≤ xs.length) (hc : xs.length ≤ c) :
    (∀ W : World, (Instr.slice 23 (.slice A xs.length c) none (some (.int .i64 (m : Int))) none).run Try.prog W = .ok (.slice A (xs.take m).length c) W) ∧ (∀ w, k8.C w A xs.length xs → k8.C w A (xs.take m).length (xs.take m)) ∧ (xs.take m).length ≤ c := by
  obtain ⟨i, hi, _, hsz, _⟩ := info_parts info8
  obtain ⟨h1, h2, h3⟩ := print_take_of (P := Try.prog) (Value.int .u8) 0 23 5 .i64 Try.underlying23 hi hsz A c xs (m : Int) (by omega) (by omega) hc
  rw [Int.toNat_natCast] at h1 h2 h3
  exact ⟨h1, fun w h => Kd.C_of_reads (h1 := fun _ => rfl) (h2 w (Kd.reads_of_C h)), h3⟩

/-- Block g is a reader of the bytes xs, of which so many were read. -/
structure Rd (w : World) (g : Nat) (A : Option Addr) (c : Nat) (xs : List Int) (at_ : Nat) : Prop where
  own : w.heap[g]? = some (.cells #[.bool true, .slice A xs.length c, .int .i64 at_] 66 (0, 0))
  rd : k8.C w A xs.length xs
  cap : xs.length ≤ c
  le : at_ ≤ xs.length
  ne : ∀ ad, A = some ad → 0 < xs.length → ad.block ≠ g
  len : xs.length ≤ 10000000
section
variable {w w1 : World} {g : Nat} {A : Option Addr} {c : Nat} {xs : List Int} {p : Nat}
theorem Rd.c0 (h : Rd w g A c xs p) : w.cell? ⟨g, 0, none⟩ = some (.bool true) := (blk_cell h.own 0).trans rfl
theorem Rd.c1 (h : Rd w g A c xs p) : w.cell? ⟨g, 1, none⟩ = some (.slice A xs.length c) := (blk_cell h.own 1).trans rfl
theorem Rd.c2 (h : Rd w g A c xs p) : w.cell? ⟨g, 2, none⟩ = some (.int .i64 p) := (blk_cell h.own 2).trans rfl
theorem Rd.f (h : Rd w g A c xs p) (i : Nat) : w.frozen? ⟨g, i, none⟩ = false := blk_frozen h.own i
theorem Rd.below (h : Rd w g A c xs p) (hb : Below w.heap.size w w1) : Rd w1 g A c xs p := ⟨blk_below h.own hb, Kd.C_below h.rd hb, h.cap, h.le, h.ne, h.len⟩
theorem Rd.drewN (h : Rd w g A c xs p) (n : Nat) : Rd (w.drewN n) g A c xs p := h.below (pw_below_drewN (Below.refl _ _) n)
theorem Rd.frame {S : Nat → Prop} (h : Rd w g A c xs p) (f : Fr w w1 S) (h1 : ¬ S g) (h2 : ∀ ad, A = some ad → 0 < xs.length → ¬ S ad.block) : Rd w1 g A c xs p :=
  ⟨f.blk h.own h1, f.list h.rd h2, h.cap, h.le, h.ne, h.len⟩
/-- So many more were read. -/
theorem Rd.set (h : Rd w g A c xs p) (q : Nat) (hq : q ≤ xs.length) : Rd (w.setCell ⟨g, 2, none⟩ (.int .i64 q)) g A c xs q :=
  ⟨blk_put h.own 2 _ rfl, (Fr.set w g 2 _).list h.rd (fun ad e hp q => h.ne ad e hp q), h.cap, hq, h.ne, h.len⟩
end

def NewP (xs : List Int) (w : World) (en : Ending) (w' : World) : Prop :=
  ∃ g A c, en = .returned (.pointer (some ⟨g, 0, none⟩)) ∧ Rd w' g A c xs 0 ∧ w.heap.size ≤ g ∧ (∀ ad, A = some ad → 0 < xs.length → w.heap.size ≤ ad.block) ∧ Below w.heap.size w w'
set_option maxHeartbeats 1000000 in
theorem new_any (A : Option Addr) (c : Nat) (xs : List Int) (w : World) (hx : k8.C w A xs.length xs) (hl : xs.length ≤ 10000000) : Calls Try.prog 15 #[.slice A xs.length c] w (NewP xs w) := by
  have HX := Lib.hid hx
  have HL := Lib.hid (show xs.length ≤ 100000000 by omega)
  clear hx
  go_enter Try.func15, Try.ntmps15
  go_wp2_with (go_at_call 40; refine (clone_any A c xs w HX.out HL.out).mono ?_; rintro en w1 ⟨v1, rfl, hr, hb⟩; obtain ⟨A1, c1, rfl, hc1, hC1⟩ := Kd.R_reads hr; have O := Lib.hid (And.intro hr hb); have C1 := Lib.hid (And.intro hc1 hC1); clear hr hb hc1 hC1)
  go_ret
  have o1 := O.out.1
  have o2 := O.out.2
  have q : ∀ ad, A1 = some ad → 0 < xs.length → w.heap.size ≤ ad.block ∧ ad.block < w1.heap.size := fun ad e _ => by
    subst e
    exact ⟨o1.1 _ rfl, Kd.R_lt o1 _ rfl⟩
  exact ⟨w1.heap.size, A1, c1, rfl, ⟨blk_new w1 _, Kd.C_below C1.out.2 (below_alloc (Below.refl _ _) _), C1.out.1, Nat.zero_le _, fun ad e hp => Nat.ne_of_lt (q ad e hp).2, hl⟩, o2.size, fun ad e hp => (q ad e hp).1, below_alloc o2 _⟩

/-- Quiet: a value, and the world but for draws. -/
def QuP (v : Value) (w : World) (en : Ending) (w' : World) : Prop := en = .returned v ∧ ∃ n, w' = w.drewN n
theorem zero_any {g : Nat} {A : Option Addr} {c : Nat} {xs : List Int} {p : Nat} (w : World) (h : Rd w g A c xs p) : Calls Try.prog 41 #[.pointer (some ⟨g, 0, none⟩)] w fun en w' => en = .returned (.bool false) ∧ w' = w := by
  have c0 := h.c0
  clear h
  go_enter Try.func41, Try.ntmps41
  go_wp2
  go_ret
  exact ⟨rfl, rfl⟩
/-- A nil or zero reader. -/
def Zd (w : World) (p : Value) : Prop := p = .pointer none ∨ ∃ g, p = .pointer (some ⟨g, 0, none⟩) ∧ w.heap[g]? = some (.cells #[.bool false, .slice none 0 0, .int .i64 0] 66 (0, 0))
theorem Zd.below {w w' : World} {p : Value} (h : Zd w p) (hb : Below w.heap.size w w') : Zd w' p := by
  rcases h with h | ⟨b, h, ha⟩
  · exact .inl h
  · exact .inr ⟨b, h, blk_below ha hb⟩
theorem zero_zd (p : Value) (w : World) (h : Zd w p) : Calls Try.prog 41 #[p] w fun en w' => en = .returned (.bool true) ∧ w' = w := by
  rcases h with rfl | ⟨g, rfl, h⟩
  · go_enter Try.func41, Try.ntmps41
    go_wp2
    go_ret
    exact ⟨rfl, rfl⟩
  · have c0 := (blk_cell h 0).trans rfl
    clear h
    go_enter Try.func41, Try.ntmps41
    go_wp2
    go_ret
    exact ⟨rfl, rfl⟩
def RestP (w : World) (xs : List Int) (p : Nat) (en : Ending) (w' : World) : Prop :=
  ∃ A' c', en = .returned (.slice A' (xs.drop p).length c') ∧ k8.C w' A' (xs.drop p).length (xs.drop p) ∧ (xs.drop p).length ≤ c' ∧ ∃ n, w' = w.drewN n
theorem rest_any {g : Nat} {A : Option Addr} {c : Nat} {xs : List Int} {p : Nat} (w : World) (h : Rd w g A c xs p) : Calls Try.prog 45 #[.pointer (some ⟨g, 0, none⟩)] w (RestP w xs p) := by
  obtain ⟨A', k1, k2, k3⟩ := drop8 A c xs p h.le h.cap
  have q := k2 w h.rd
  have fin : ∀ n, RestP w xs p (.returned (.slice A' (xs.drop p).length (c - p))) (w.drewN n) := fun n => ⟨A', c - p, rfl, Kd.C_drewN q n, k3, n, rfl⟩
  rw [List.length_drop] at fin k1
  have c1 := h.c1
  have c2 := h.c2
  have FIN := Lib.hid fin
  clear h fin k2 k3 q
  go_enter Try.func45, Try.ntmps45
  go_wp2
  go_quiet (fail)
  go_wp2
  go_ret
  exact FIN.out _

theorem lit_any (x : Int) (w : World) : Calls Try.prog 51 #[.int .u8 x] w fun en w' => en = .returned (.bool (decide (x < 128))) ∧ w' = w := by
  go_enter Try.func51, Try.ntmps51
  go_wp2
  go_ret
  exact ⟨rfl, rfl⟩
end Go.Proofs.Ytfcpofkhcfilmaa.Vn
