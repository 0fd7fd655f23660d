/- Layer 41: string(runes), for the printed text of LinesCounts. -/
import Derived.Test.YtbjahfbagbghnaaDoorLe
import Derived.Test.YtbjahfbagbghnaaDoorPAllx0
import Derived.Laws.Cover4
namespace Go.Proofs.YtbjahfbagbghnaaDoor.PAll
open Go Go.RowKit Go.Proofs Go.Proofs.YtbjahfbagbghnaaDoorW.PrintWords
theorem Kd.C_runes {P : Program} {w : World} {src dst e : TypeId} {A : Option Addr} {n c : Nat} {xs : List Int} (hs : P.underlying src = some (.slice e)) (he : P.underlying e = some (.int .i32)) (hd : P.underlying dst = some .string)
    (h : (Kd.int .i32).C w A n xs) : (convert src dst (.slice A n c)).run P w = .ok (.string (runesBytes xs)) w := by
  have hn : xs.length = n := h.1
  subst hn
  rcases A with _ | ad
  · obtain rfl : xs = [] := by
      rcases Nat.eq_zero_or_pos xs.length with q | q
      · exact List.length_eq_zero_iff.1 q
      · obtain ⟨ad, e, _⟩ := h.2.2 q
        cases e
    exact run_convert_runes_nil w src dst e _ _ hs he hd
  · have := run_convert_runes (P := P) w src dst e ad xs.length c xs (Nat.le_refl _) hs he hd (fun j hj => by
      obtain ⟨ad', e, q⟩ := Kd.at_int h (j : Int) (by omega) (by omega)
      injection e with e
      subst e
      simpa [rd, rdOf] using q)
    rw [List.take_length] at this
    exact this
end Go.Proofs.YtbjahfbagbghnaaDoor.PAll
