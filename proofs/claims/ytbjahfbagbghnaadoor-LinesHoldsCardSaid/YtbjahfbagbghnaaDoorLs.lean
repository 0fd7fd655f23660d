/- Layer 41: the contracts of runes.Decode, runes.Encode and lines.in, as the printed texts call them. -/
import Derived.Test.YtbjahfbagbghnaaDoorLi
namespace Go.Proofs.YtbjahfbagbghnaaDoor.PAll
open Go Go.RowKit Go.Proofs Go.Proofs.YtbjahfbagbghnaaDoorW.PrintWords Go.Proofs.YtbjahfbagbghnaaDoor.Rn

abbrev GOK (w : World) : Prop := Rn.GOK w
theorem GOK_below {w w' : World} (h : GOK w) (hb : Below w.heap.size w w') : GOK w' := Rn.GOK_below h hb
def runes_Decode.f (a0 : ByteArray) : Option (List Int × Int) := if a0.size ≤ 35184372088832 then some (decP a0) else none
def runes_Encode.f (l0 : List Int) : Option (ByteArray × Int) := some (encP l0)
/-- How many are at most so great, less one, where they are in order. -/
def lines_in.f (l0 : List Int) (a1 : Int) : Option Int := if l0.Pairwise (fun x y => x ≤ y) ∧ l0.length < 4611686018427387904 then some (((l0.countP (fun x => decide (x ≤ a1)) : Nat) : Int) - 1) else none
theorem runes_Decode.calls (a0 : ByteArray) (r1 : List Int) (r2 : Int) (w : World) (hG : GOK w) (h : runes_Decode.f a0 = some (r1, r2)) :
    Calls Tryd.prog 10 #[.string a0] w fun e w' => ∃ v0_ : Value, e = .returned (.tuple #[v0_, .int .i64 r2]) ∧ Kd.R (Kd.int .i32) 21 w' w.heap.size (fun _ => True) v0_ r1 ∧ Below w.heap.size w w' := by
  unfold runes_Decode.f at h
  split at h
  · injection h with h
    have h1 : (decP a0).1 = r1 := by rw [h]
    have h2 : (decP a0).2 = r2 := by rw [h]
    subst h1 h2
    exact decode_any a0 w ‹_› hG
  · cases h
theorem runes_Encode.calls (A0 : Option Addr) (c0 : Nat) (l0 : List Int) (r1 : ByteArray) (r2 : Int) (w : World) (hr0 : Kd.C (Kd.int .i32) w A0 l0.length l0) (hc0 : l0.length ≤ c0) (h : runes_Encode.f l0 = some (r1, r2)) :
    Calls Tryd.prog 37 #[.slice A0 l0.length c0] w fun e w' => e = .returned (.tuple #[.string r1, .int .i64 r2]) ∧ Below w.heap.size w w' := by
  injection h with h
  have h1 : (encP l0).1 = r1 := by rw [h]
  have h2 : (encP l0).2 = r2 := by rw [h]
  subst h1 h2
  exact encode_any A0 c0 l0 w hr0
theorem lines_in.calls (A0 : Option Addr) (c0 : Nat) (l0 : List Int) (a1 : Int) (r : Int) (w : World) (hr0 : Kd.C (Kd.int .i64) w A0 l0.length l0) (hc0 : l0.length ≤ c0) (h : lines_in.f l0 a1 = some r) :
    Calls Tryd.prog 36 #[.slice A0 l0.length c0, .int .i64 a1] w fun e w' => e = .returned (.int .i64 r) ∧ Below w.heap.size w w' := by
  unfold lines_in.f at h
  split at h
  · rename_i hq
    injection h with h
    subst h
    exact in_any A0 c0 l0 a1 w hr0 hq.1 hq.2
  · cases h
end Go.Proofs.YtbjahfbagbghnaaDoor.PAll
