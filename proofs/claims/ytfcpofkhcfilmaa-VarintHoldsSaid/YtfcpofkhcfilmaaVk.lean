/- The examples of the chapter, layer 1: known answers true. -/
import Derived.Test.YtfcpofkhcfilmaaVh
namespace Go.Proofs.Ytfcpofkhcfilmaa.Vn
open Go.RowKit Go.Proofs Go.Proofs.YtfcpofkhcfilmaaW.PrintWords Go.Proofs.Ytfcpofkhcfilmaa.Kit
set_option linter.unusedSimpArgs false
set_option linter.unusedVariables false

def SP (z : ByteArray) (w : World) (en : Ending) (w' : World) : Prop := en = .returned (.string z) ∧ Below w.heap.size w w'
theorem lnumber_s (n : Int) (z : ByteArray) (hn : 0 ≤ n ∧ n ≤ 18446744073709551615) (hz : strOfNums (enc n.toNat) = z) (w : World) : Calls Try.prog 10 #[.int .u64 n] w (SP z w) := by
  subst hz
  exact (lnumber_any n hn w).mono fun _ _ h => h
theorem zig_s (n z : Int) (h0 : -9223372036854775808 ≤ n) (h1 : n ≤ 9223372036854775807) (hz : zig n = z) (w : World) : Calls Try.prog 14 #[.int .i64 n] w (NumP (.int .u64 z) w) := by
  subst hz; exact zig_any n w h0 h1
theorem zag_s (n z : Int) (h0 : 0 ≤ n) (h1 : n ≤ 18446744073709551615) (hz : zag n = z) (w : World) : Calls Try.prog 12 #[.int .u64 n] w (NumP (.int .i64 z) w) := by
  subst hz; exact zag_any n w h0 h1
theorem conv8n {w : World} {A : Option Addr} {n c : Nat} {xs : List Int} (h : k8.C w A n xs) : (convert 23 9 (.slice A n c)).run Try.prog w = .ok (.string (strOfNums xs)) w := by
  obtain rfl : xs.length = n := h.1
  exact conv8 h
theorem put_lit (ys : List Int) {n : Nat} {cs : Array Value} (t : TypeId) (hn : ys.length = n) (hcs : cs = (ys.map (fun x => Value.int .u8 x)).toArray) (hl : ys.length ≤ 1000) (w0 w : World) (g : Nat) (v : Value) (xs : List Int) (h : Wr w0 w g v xs) (hx : xs.length ≤ 1000) :
    Calls Try.prog 37 #[.pointer (some ⟨g, 0, none⟩), .slice (some ⟨w.heap.size, 0, none⟩) n n] (w.alloc (.cells cs t)) (WrP w0 w g v (xs ++ (enc ys.length ++ ys))) := by
  have hC := lit_C ys t hn hcs hl w
  subst hn
  have hb : Below w.heap.size w (w.alloc (.cells cs t)) := below_alloc (Below.refl _ _) _
  refine (put_any w0 _ g v xs ys _ _ (h.below hb) hC (off_new h _) (by omega)).mono ?_
  rintro en w' ⟨rfl, v', hW, hS⟩
  exact ⟨rfl, v', hW, (wr_of_below hb).then hS⟩
/-- A reader that is new since so many blocks. -/
def NewR (B : Nat) (w : World) (g : Nat) (A : Option Addr) (c : Nat) (xs : List Int) (p : Nat) : Prop := Rd w g A c xs p ∧ B ≤ g ∧ ∀ ad, A = some ad → 0 < xs.length → B ≤ ad.block
section
variable {B : Nat} {w w1 : World} {g : Nat} {A : Option Addr} {c : Nat} {xs : List Int} {p : Nat}
theorem NewR.frame {g1 : Nat} (h : NewR B w g A c xs p) (f : Fr w w1 (fun i => i = g1)) (hg : g1 < B) : NewR B w1 g A c xs p :=
  ⟨h.1.frame f (by have := h.2.1; omega) (fun ad e hp => by have := h.2.2 ad e hp; omega), h.2⟩
theorem NewR.below (h : NewR B w g A c xs p) (hb : Below w.heap.size w w1) : NewR B w1 g A c xs p := ⟨h.1.below hb, h.2⟩
theorem NewR.drewN (h : NewR B w g A c xs p) (n : Nat) : NewR B (w.drewN n) g A c xs p := ⟨h.1.drewN n, h.2⟩
theorem NewR.rd (h : NewR B w g A c xs p) : Rd w g A c xs p := h.1
theorem NewR.lt (h : NewR B w g A c xs p) : g < w.heap.size := blk_lt h.1.own
end
def NewQ (xs : List Int) (w : World) (en : Ending) (w' : World) : Prop := ∃ g A c, en = .returned (.pointer (some ⟨g, 0, none⟩)) ∧ NewR w.heap.size w' g A c xs 0 ∧ g < w'.heap.size ∧ Below w.heap.size w w'
theorem newq {xs : List Int} {w w' : World} {en : Ending} (h : NewP xs w en w') : NewQ xs w en w' := by
  obtain ⟨g, A, c, rfl, h1, h2, h3, h4⟩ := h
  exact ⟨g, A, c, rfl, ⟨h1, h2, h3⟩, blk_lt h1.own, h4⟩

theorem enc0 : enc 0 = [0] := by rw [enc_lt (by decide)]; rfl
theorem enc2 : enc 2 = [2] := by rw [enc_lt (by decide)]; rfl
theorem enc127 : enc 127 = [127] := by rw [enc_lt (by decide)]; rfl
theorem enc128 : enc 128 = [128, 1] := by rw [enc_ge (by decide), enc_lt (by decide)]; rfl
theorem enc300 : enc 300 = [172, 2] := by rw [enc_ge (by decide), enc_lt (by decide)]; rfl
theorem encmax : enc 18446744073709551615 = ninesL 1 := by
  rw [enc_ge (by decide), enc_ge (by decide), enc_ge (by decide), enc_ge (by decide), enc_ge (by decide), enc_ge (by decide), enc_ge (by decide), enc_ge (by decide), enc_ge (by decide), enc_lt (by decide)]
  rfl
def KnownP (en : Ending) (w' : World) : Prop := en = .returned (.bool true)
end Go.Proofs.Ytfcpofkhcfilmaa.Vn
