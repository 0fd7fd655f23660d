/- Layer 2: the contracts of runes.Decode, Encode, Name and ByName, as the printed texts call them. -/
import Derived.Test.YtphgoaacmkagmaaDoorHn
namespace Go.Proofs.YtphgoaacmkagmaaDoor.PAll
open Go Go.RowKit Go.Proofs Go.Proofs.YtphgoaacmkagmaaDoorW.PrintWords Go.Proofs.YtphgoaacmkagmaaDoor.Rn Go.Proofs.YtphgoaacmkagmaaDoor.Hx

structure GOK (w : World) : Prop where
  rn : Rn.GOK w
  hx : HOK w
theorem GOK_below {w w' : World} (h : GOK w) (hb : Below w.heap.size w w') : GOK w' := ⟨Rn.GOK_below h.rn hb, h.hx.below hb⟩
def runes_Decode.f (a0 : ByteArray) : Option (List Int × Int) := if a0.size ≤ 35184372088832 then some (decP a0) else none
def runes_Encode.f (l0 : List Int) : Option (ByteArray × Int) := some (encP l0)
def runes_Name.f (a0 : Int) : Option (ByteArray × Int) := some (namP a0)
def runes_ByName.f (a0 : ByteArray) : Option (Int × Int) := if a0.size ≤ 1000000 then some (bynP a0) else none
theorem runes_Decode.calls (a0 : ByteArray) (r1 : List Int) (r2 : Int) (w : World) (hG : GOK w) (h : runes_Decode.f a0 = some (r1, r2)) :
    Calls Tryd.prog 28 #[.string a0] w fun e w' => ∃ v0_ : Value, e = .returned (.tuple #[v0_, .int .i64 r2]) ∧ Kd.R (Kd.int .i32) 21 w' w.heap.size (fun _ => True) v0_ r1 ∧ Below w.heap.size w w' := by
  unfold runes_Decode.f at h
  split at h
  · injection h with h
    have h1 : (decP a0).1 = r1 := by rw [h]
    have h2 : (decP a0).2 = r2 := by rw [h]
    subst h1 h2
    exact decode_any a0 w ‹_› hG.rn
  · cases h
theorem runes_Encode.calls (A0 : Option Addr) (c0 : Nat) (l0 : List Int) (r1 : ByteArray) (r2 : Int) (w : World) (hr0 : Kd.C (Kd.int .i32) w A0 l0.length l0) (hc0 : l0.length ≤ c0) (h : runes_Encode.f l0 = some (r1, r2)) :
    Calls Tryd.prog 27 #[.slice A0 l0.length c0] w fun e w' => e = .returned (.tuple #[.string r1, .int .i64 r2]) ∧ Below w.heap.size w w' := by
  injection h with h
  have h1 : (encP l0).1 = r1 := by rw [h]
  have h2 : (encP l0).2 = r2 := by rw [h]
  subst h1 h2
  exact encode_any A0 c0 l0 w hr0
theorem runes_Name.calls (a0 : Int) (r1 : ByteArray) (r2 : Int) (w : World) (hG : GOK w) (h : runes_Name.f a0 = some (r1, r2)) :
    Calls Tryd.prog 33 #[.int .i32 a0] w fun e w' => e = .returned (.tuple #[.string r1, .int .i64 r2]) ∧ Below w.heap.size w w' := by
  injection h with h
  have h1 : (namP a0).1 = r1 := by rw [h]
  have h2 : (namP a0).2 = r2 := by rw [h]
  subst h1 h2
  exact name_any a0 w hG.hx
theorem runes_ByName.calls (a0 : ByteArray) (r1 : Int) (r2 : Int) (w : World) (hG : GOK w) (h : runes_ByName.f a0 = some (r1, r2)) :
    Calls Tryd.prog 34 #[.string a0] w fun e w' => e = .returned (.tuple #[.int .i32 r1, .int .i64 r2]) ∧ Below w.heap.size w w' := by
  unfold runes_ByName.f at h
  split at h
  · injection h with h
    have h1 : (bynP a0).1 = r1 := by rw [h]
    have h2 : (bynP a0).2 = r2 := by rw [h]
    subst h1 h2
    exact byname_any a0 ‹_› w hG.hx
  · cases h
end Go.Proofs.YtphgoaacmkagmaaDoor.PAll
