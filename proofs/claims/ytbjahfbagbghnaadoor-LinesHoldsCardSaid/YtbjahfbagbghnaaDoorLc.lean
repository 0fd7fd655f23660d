/- Layer 41, plain law: what the statements share. -/
import Derived.Test.YtbjahfbagbghnaaDoorLq
namespace Go.Proofs.YtbjahfbagbghnaaDoor.Lp
open Go Go.RowKit Go.Proofs Go.Proofs.YtbjahfbagbghnaaDoorW.PrintWords Go.Proofs.YtbjahfbagbghnaaDoorW.PrintMore Go.Proofs.YtbjahfbagbghnaaDoor.Rn Go.Proofs.YtbjahfbagbghnaaDoor.PAll
set_option linter.unusedSimpArgs false
set_option linter.unusedVariables false

theorem dec_len (s : ByteArray) : (decP s).1.length ≤ s.size := by
  unfold decP
  split
  · split
    · simp
    · exact runesFrom_len s s.size 0
  · simp
theorem bad_of {s : ByteArray} (hs : s.size ≤ 300) (he : (decP s).2 ≠ 0) : Bad s (decP s).2 := ⟨by omega, by unfold dcd; rw [if_neg he], he⟩
theorem txt_of {s : ByteArray} (hs : s.size ≤ 300) (he : (decP s).2 = 0) {k : Nat} (hk : 301 ≤ k) : Txt s (decP s).1 k := by
  have := dec_len s
  exact ⟨by omega, Prod.ext rfl he, by omega, by omega⟩

section
variable {s : ByteArray} {l : List Int}
theorem places_yes {k : Nat} {n a b e : Int} (h : lines_Place.f k s n = some (a, b, e)) : redpencillaw41_places.f k s n a b e = some true := by
  unfold redpencillaw41_places.f
  rw [h]
  simp
theorem at_yes {k : Nat} {n a b e : Int} (h : lines_At.f k s a b = some (n, e)) : redpencillaw41_at.f k s a b n e = some true := by
  unfold redpencillaw41_at.f
  rw [h]
  simp
theorem wide_yes {k : Nat} {n t a e : Int} (h : lines_Width.f k s n t = some (a, e)) : redpencillaw41_wide.f k s n t a e = some true := by
  unfold redpencillaw41_wide.f
  rw [h]
  simp
theorem moves_yes {k : Nat} {n b c a e : Int} (h : lines_Move.f k s n b c = some (a, e)) : redpencillaw41_moves.f k s n b c a e = some true := by
  unfold redpencillaw41_moves.f
  rw [h]
  simp
theorem then_known {k : Nat} (hk : 40 ≤ k) : ((redpencillaw41_known.f k).bind fun t => some t) = some true := by rw [known_f k hk]; rfl

end
end Go.Proofs.YtbjahfbagbghnaaDoor.Lp
