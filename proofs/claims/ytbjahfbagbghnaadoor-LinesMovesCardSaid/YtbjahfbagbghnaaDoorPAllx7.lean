-- Printed by a program of this session (wip/tools/mkprint2.py) out of the translation; Lean checks it.
import Derived.Test.YtbjahfbagbghnaaDoorPAllx0
import Derived.Test.YtbjahfbagbghnaaDoorPAllx1
import Derived.Test.YtbjahfbagbghnaaDoorPAllx3
import Derived.Test.YtbjahfbagbghnaaDoorPAllx5
import Derived.Test.YtbjahfbagbghnaaDoorPAllx6
import Derived.Test.YtbjahfbagbghnaaDoorLs
namespace Go.Proofs.YtbjahfbagbghnaaDoor.PAll
open Go.RowKit Go.Proofs.YtbjahfbagbghnaaDoorW.PrintWords Go.Proofs.YtbjahfbagbghnaaDoorW.PrintLast Go.Proofs.YtbjahfbagbghnaaDoorW.PrintMore
attribute [local go_sem] max2_int min2_int max_two min_two max_three min_three max_four min_four   -- for this text's walks alone
set_option linter.unusedVariables false
set_option linter.unusedSimpArgs false

/-! ### redpencillaw41_LinesPlaces: function 4 -/
mutual
def redpencillaw41_LinesPlaces.j0 : Nat → ByteArray → Int → Int → Int → Int → List Int → List (List Int) → Bool → Option (Bool)
  | 0, _, _, _, _, _, _, _, _ => none
  | k + 1, x0, x1, x2, x3, x4, x11, x14, x75 => if x75 = true then ((redpencillaw41_at.f k x0 x2 x3 0 3).bind fun t288 => (if t288 = true then (redpencillaw41_LinesPlaces.j1 k x0 x1 x4 x11) else (some false))) else ((redpencillaw41_index.f k x14 x2 x3).bind fun t289 => ((redpencillaw41_at.f k x0 x2 x3 t289 0).bind fun t290 => (if t290 = true then (redpencillaw41_LinesPlaces.j1 k x0 x1 x4 x11) else (some false))))
def redpencillaw41_LinesPlaces.j1 : Nat → ByteArray → Int → Int → List Int → Option (Bool)
  | 0, _, _, _, _ => none
  | k + 1, x0, x1, x4, x11 => if x1 < 0 then (redpencillaw41_LinesPlaces.j2 k x0 x1 x4 x11 true) else (redpencillaw41_LinesPlaces.j2 k x0 x1 x4 x11 (decide (x1 > (x11.length : Int))))
def redpencillaw41_LinesPlaces.j2 : Nat → ByteArray → Int → Int → List Int → Bool → Option (Bool)
  | 0, _, _, _, _, _ => none
  | k + 1, x0, x1, x4, x11, x97 => if x97 = true then (if x4 < 1 then (redpencillaw41_LinesPlaces.j3 k x0 x1 x4 3 true) else (redpencillaw41_LinesPlaces.j3 k x0 x1 x4 3 (decide (x4 > 16)))) else ((redpencillaw41_place.f k x11 x1).bind fun bt297 => ((redpencillaw41_places.f k x0 x1 bt297.1 bt297.2 0).bind fun t299 => (if t299 = true then (if x4 < 1 then (redpencillaw41_LinesPlaces.j4 k x0 x1 x4 x11 bt297.2 true) else (redpencillaw41_LinesPlaces.j4 k x0 x1 x4 x11 bt297.2 (decide (x4 > 16)))) else (some false))))
def redpencillaw41_LinesPlaces.j3 : Nat → ByteArray → Int → Int → Int → Bool → Option (Bool)
  | 0, _, _, _, _, _ => none
  | k + 1, x0, x1, x4, x15, x103 => if x103 = true then ((redpencillaw41_places.f k x0 x1 0 0 3).bind fun t291 => (if t291 = true then ((redpencillaw41_wide.f k x0 x1 x4 0 2).bind fun t292 => (if t292 = true then ((redpencillaw41_known.f k).bind fun t293 => (some t293)) else (some false))) else (some false))) else ((redpencillaw41_places.f k x0 x1 0 0 3).bind fun t294 => (if t294 = true then ((redpencillaw41_wide.f k x0 x1 x4 0 x15).bind fun t295 => (if t295 = true then ((redpencillaw41_known.f k).bind fun t296 => (some t296)) else (some false))) else (some false)))
def redpencillaw41_LinesPlaces.j4 : Nat → ByteArray → Int → Int → List Int → Int → Bool → Option (Bool)
  | 0, _, _, _, _, _, _ => none
  | k + 1, x0, x1, x4, x11, x17, x134 => if x134 = true then ((redpencillaw41_wide.f k x0 x1 x4 0 2).bind fun t300 => (if t300 = true then ((redpencillaw41_known.f k).bind fun t301 => (some t301)) else (some false))) else (redpencillaw41_LinesPlaces.l0 k x0 x1 x4 x11 0 (wrap64 (x1 - x17)))
def redpencillaw41_LinesPlaces.l0 : Nat → ByteArray → Int → Int → List Int → Int → Int → Option (Bool)
  | 0, _, _, _, _, _, _ => none
  | k + 1, x0, x1, x4, x11, x18, x19 => if x19 < x1 then (redpencillaw41_LinesPlaces.l1 k x0 x1 x4 x11 (wrap64 (x18 + 1)) x19) else ((redpencillaw41_wide.f k x0 x1 x4 x18 0).bind fun t302 => (if t302 = true then ((redpencillaw41_known.f k).bind fun t303 => (some t303)) else (some false)))
def redpencillaw41_LinesPlaces.l1 : Nat → ByteArray → Int → Int → List Int → Int → Int → Option (Bool)
  | 0, _, _, _, _, _, _ => none
  | k + 1, x0, x1, x4, x11, x18, x19 => if 0 ≤ x19 then (if x19 < (x11.length : Int) then (if (rd x11 x19) = 9 then (if x4 = 0 then (none) else (if (Int.tmod x18 x4) = 0 then (redpencillaw41_LinesPlaces.l0 k x0 x1 x4 x11 x18 (wrap64 (x19 + 1))) else (redpencillaw41_LinesPlaces.l1 k x0 x1 x4 x11 (wrap64 (x18 + 1)) x19))) else (redpencillaw41_LinesPlaces.l0 k x0 x1 x4 x11 x18 (wrap64 (x19 + 1)))) else (none)) else (none)
end
def redpencillaw41_LinesPlaces.f (k : Nat) (a0 : ByteArray) (a1 : Int) (a2 : Int) (a3 : Int) (a4 : Int) : Option (Bool) := if (a0.size : Int) > 300 then ((redpencillaw41_known.f k).bind fun t275 => (some t275)) else ((runes_Decode.f a0).bind fun bt276 => (if bt276.2 = 0 then ((redpencillaw41_split.f k bt276.1).bind fun t284 => (if a2 < 0 then (redpencillaw41_LinesPlaces.j0 k a0 a1 a2 a3 a4 bt276.1 t284 true) else (if a2 ≥ (t284.length : Int) then (redpencillaw41_LinesPlaces.j0 k a0 a1 a2 a3 a4 bt276.1 t284 true) else (if a3 < 0 then (redpencillaw41_LinesPlaces.j0 k a0 a1 a2 a3 a4 bt276.1 t284 true) else (if 0 ≤ a2 then (if a2 < (t284.length : Int) then (redpencillaw41_LinesPlaces.j0 k a0 a1 a2 a3 a4 bt276.1 t284 (decide (a3 > ((rd_L2 t284 a2).length : Int)))) else (none)) else (none)))))) else ((redpencillaw41_places.f k a0 a1 0 0 bt276.2).bind fun t280 => (if t280 = true then ((redpencillaw41_at.f k a0 a2 a3 0 bt276.2).bind fun t281 => (if t281 = true then ((redpencillaw41_wide.f k a0 a1 a4 0 bt276.2).bind fun t282 => (if t282 = true then ((redpencillaw41_known.f k).bind fun t283 => (some t283)) else (some false))) else (some false))) else (some false)))))
theorem redpencillaw41_LinesPlaces.mono_l : ∀ k, (∀ y0 y1 y2 y3 y4 y5 y6 y7, LeO (redpencillaw41_LinesPlaces.j0 k y0 y1 y2 y3 y4 y5 y6 y7) (redpencillaw41_LinesPlaces.j0 (k + 1) y0 y1 y2 y3 y4 y5 y6 y7)) ∧ (∀ y0 y1 y2 y3, LeO (redpencillaw41_LinesPlaces.j1 k y0 y1 y2 y3) (redpencillaw41_LinesPlaces.j1 (k + 1) y0 y1 y2 y3)) ∧ (∀ y0 y1 y2 y3 y4, LeO (redpencillaw41_LinesPlaces.j2 k y0 y1 y2 y3 y4) (redpencillaw41_LinesPlaces.j2 (k + 1) y0 y1 y2 y3 y4)) ∧ (∀ y0 y1 y2 y3 y4, LeO (redpencillaw41_LinesPlaces.j3 k y0 y1 y2 y3 y4) (redpencillaw41_LinesPlaces.j3 (k + 1) y0 y1 y2 y3 y4)) ∧ (∀ y0 y1 y2 y3 y4 y5, LeO (redpencillaw41_LinesPlaces.j4 k y0 y1 y2 y3 y4 y5) (redpencillaw41_LinesPlaces.j4 (k + 1) y0 y1 y2 y3 y4 y5)) ∧ (∀ y0 y1 y2 y3 y4 y5, LeO (redpencillaw41_LinesPlaces.l0 k y0 y1 y2 y3 y4 y5) (redpencillaw41_LinesPlaces.l0 (k + 1) y0 y1 y2 y3 y4 y5)) ∧ (∀ y0 y1 y2 y3 y4 y5, LeO (redpencillaw41_LinesPlaces.l1 k y0 y1 y2 y3 y4 y5) (redpencillaw41_LinesPlaces.l1 (k + 1) y0 y1 y2 y3 y4 y5))
  | 0 => ⟨fun _ _ _ _ _ _ _ _ r h => by simp [redpencillaw41_LinesPlaces.j0] at h, fun _ _ _ _ r h => by simp [redpencillaw41_LinesPlaces.j1] at h, fun _ _ _ _ _ r h => by simp [redpencillaw41_LinesPlaces.j2] at h, fun _ _ _ _ _ r h => by simp [redpencillaw41_LinesPlaces.j3] at h, fun _ _ _ _ _ _ r h => by simp [redpencillaw41_LinesPlaces.j4] at h, fun _ _ _ _ _ _ r h => by simp [redpencillaw41_LinesPlaces.l0] at h, fun _ _ _ _ _ _ r h => by simp [redpencillaw41_LinesPlaces.l1] at h⟩
  | k + 1 => by
    obtain ⟨ih0, ih1, ih2, ih3, ih4, ih5, ih6⟩ := redpencillaw41_LinesPlaces.mono_l k
    refine ⟨?_, ?_, ?_, ?_, ?_, ?_, ?_⟩
    · intro y0 y1 y2 y3 y4 y5 y6 y7
      unfold redpencillaw41_LinesPlaces.j0
      repeat' first
      | (with_reducible exact ih0 _ _ _ _ _ _ _ _)
      | (with_reducible exact ih1 _ _ _ _)
      | (with_reducible exact ih2 _ _ _ _ _)
      | (with_reducible exact ih3 _ _ _ _ _)
      | (with_reducible exact ih4 _ _ _ _ _ _)
      | (with_reducible exact ih5 _ _ _ _ _ _)
      | (with_reducible exact ih6 _ _ _ _ _ _)
      | (with_reducible exact redpencillaw41_at.mono _ _ _ _ _ _)
      | (with_reducible exact redpencillaw41_index.mono _ _ _ _)
      | (with_reducible exact redpencillaw41_known.mono _)
      | (with_reducible exact redpencillaw41_place.mono _ _ _)
      | (with_reducible exact redpencillaw41_places.mono _ _ _ _ _ _)
      | (with_reducible exact redpencillaw41_split.mono _ _)
      | (with_reducible exact redpencillaw41_wide.mono _ _ _ _ _ _)
      | (with_reducible exact LeO.refl _)
      | (with_reducible exact LeO.none _)
      | (with_reducible refine LeO.ite ?_ ?_)
      | (with_reducible refine LeO.bind ?_ (fun _ => ?_))
      | exact ih0 _ _ _ _ _ _ _ _
      | exact ih1 _ _ _ _
      | exact ih2 _ _ _ _ _
      | exact ih3 _ _ _ _ _
      | exact ih4 _ _ _ _ _ _
      | exact ih5 _ _ _ _ _ _
      | exact ih6 _ _ _ _ _ _
      | exact redpencillaw41_at.mono _ _ _ _ _ _
      | exact redpencillaw41_index.mono _ _ _ _
      | exact redpencillaw41_known.mono _
      | exact redpencillaw41_place.mono _ _ _
      | exact redpencillaw41_places.mono _ _ _ _ _ _
      | exact redpencillaw41_split.mono _ _
      | exact redpencillaw41_wide.mono _ _ _ _ _ _
      | exact LeO.none _
      | refine LeO.ite ?_ ?_
      | refine LeO.bind ?_ (fun _ => ?_)
    · intro y0 y1 y2 y3
      unfold redpencillaw41_LinesPlaces.j1
      repeat' first
      | (with_reducible exact ih0 _ _ _ _ _ _ _ _)
      | (with_reducible exact ih1 _ _ _ _)
      | (with_reducible exact ih2 _ _ _ _ _)
      | (with_reducible exact ih3 _ _ _ _ _)
      | (with_reducible exact ih4 _ _ _ _ _ _)
      | (with_reducible exact ih5 _ _ _ _ _ _)
      | (with_reducible exact ih6 _ _ _ _ _ _)
      | (with_reducible exact redpencillaw41_at.mono _ _ _ _ _ _)
      | (with_reducible exact redpencillaw41_index.mono _ _ _ _)
      | (with_reducible exact redpencillaw41_known.mono _)
      | (with_reducible exact redpencillaw41_place.mono _ _ _)
      | (with_reducible exact redpencillaw41_places.mono _ _ _ _ _ _)
      | (with_reducible exact redpencillaw41_split.mono _ _)
      | (with_reducible exact redpencillaw41_wide.mono _ _ _ _ _ _)
      | (with_reducible exact LeO.refl _)
      | (with_reducible exact LeO.none _)
      | (with_reducible refine LeO.ite ?_ ?_)
      | (with_reducible refine LeO.bind ?_ (fun _ => ?_))
      | exact ih0 _ _ _ _ _ _ _ _
      | exact ih1 _ _ _ _
      | exact ih2 _ _ _ _ _
      | exact ih3 _ _ _ _ _
      | exact ih4 _ _ _ _ _ _
      | exact ih5 _ _ _ _ _ _
      | exact ih6 _ _ _ _ _ _
      | exact redpencillaw41_at.mono _ _ _ _ _ _
      | exact redpencillaw41_index.mono _ _ _ _
      | exact redpencillaw41_known.mono _
      | exact redpencillaw41_place.mono _ _ _
      | exact redpencillaw41_places.mono _ _ _ _ _ _
      | exact redpencillaw41_split.mono _ _
      | exact redpencillaw41_wide.mono _ _ _ _ _ _
      | exact LeO.none _
      | refine LeO.ite ?_ ?_
      | refine LeO.bind ?_ (fun _ => ?_)
    · intro y0 y1 y2 y3 y4
      unfold redpencillaw41_LinesPlaces.j2
      repeat' first
      | (with_reducible exact ih0 _ _ _ _ _ _ _ _)
      | (with_reducible exact ih1 _ _ _ _)
      | (with_reducible exact ih2 _ _ _ _ _)
      | (with_reducible exact ih3 _ _ _ _ _)
      | (with_reducible exact ih4 _ _ _ _ _ _)
      | (with_reducible exact ih5 _ _ _ _ _ _)
      | (with_reducible exact ih6 _ _ _ _ _ _)
      | (with_reducible exact redpencillaw41_at.mono _ _ _ _ _ _)
      | (with_reducible exact redpencillaw41_index.mono _ _ _ _)
      | (with_reducible exact redpencillaw41_known.mono _)
      | (with_reducible exact redpencillaw41_place.mono _ _ _)
      | (with_reducible exact redpencillaw41_places.mono _ _ _ _ _ _)
      | (with_reducible exact redpencillaw41_split.mono _ _)
      | (with_reducible exact redpencillaw41_wide.mono _ _ _ _ _ _)
      | (with_reducible exact LeO.refl _)
      | (with_reducible exact LeO.none _)
      | (with_reducible refine LeO.ite ?_ ?_)
      | (with_reducible refine LeO.bind ?_ (fun _ => ?_))
      | exact ih0 _ _ _ _ _ _ _ _
      | exact ih1 _ _ _ _
      | exact ih2 _ _ _ _ _
      | exact ih3 _ _ _ _ _
      | exact ih4 _ _ _ _ _ _
      | exact ih5 _ _ _ _ _ _
      | exact ih6 _ _ _ _ _ _
      | exact redpencillaw41_at.mono _ _ _ _ _ _
      | exact redpencillaw41_index.mono _ _ _ _
      | exact redpencillaw41_known.mono _
      | exact redpencillaw41_place.mono _ _ _
      | exact redpencillaw41_places.mono _ _ _ _ _ _
      | exact redpencillaw41_split.mono _ _
      | exact redpencillaw41_wide.mono _ _ _ _ _ _
      | exact LeO.none _
      | refine LeO.ite ?_ ?_
      | refine LeO.bind ?_ (fun _ => ?_)
    · intro y0 y1 y2 y3 y4
      unfold redpencillaw41_LinesPlaces.j3
      repeat' first
      | (with_reducible exact ih0 _ _ _ _ _ _ _ _)
      | (with_reducible exact ih1 _ _ _ _)
      | (with_reducible exact ih2 _ _ _ _ _)
      | (with_reducible exact ih3 _ _ _ _ _)
      | (with_reducible exact ih4 _ _ _ _ _ _)
      | (with_reducible exact ih5 _ _ _ _ _ _)
      | (with_reducible exact ih6 _ _ _ _ _ _)
      | (with_reducible exact redpencillaw41_at.mono _ _ _ _ _ _)
      | (with_reducible exact redpencillaw41_index.mono _ _ _ _)
      | (with_reducible exact redpencillaw41_known.mono _)
      | (with_reducible exact redpencillaw41_place.mono _ _ _)
      | (with_reducible exact redpencillaw41_places.mono _ _ _ _ _ _)
      | (with_reducible exact redpencillaw41_split.mono _ _)
      | (with_reducible exact redpencillaw41_wide.mono _ _ _ _ _ _)
      | (with_reducible exact LeO.refl _)
      | (with_reducible exact LeO.none _)
      | (with_reducible refine LeO.ite ?_ ?_)
      | (with_reducible refine LeO.bind ?_ (fun _ => ?_))
      | exact ih0 _ _ _ _ _ _ _ _
      | exact ih1 _ _ _ _
      | exact ih2 _ _ _ _ _
      | exact ih3 _ _ _ _ _
      | exact ih4 _ _ _ _ _ _
      | exact ih5 _ _ _ _ _ _
      | exact ih6 _ _ _ _ _ _
      | exact redpencillaw41_at.mono _ _ _ _ _ _
      | exact redpencillaw41_index.mono _ _ _ _
      | exact redpencillaw41_known.mono _
      | exact redpencillaw41_place.mono _ _ _
      | exact redpencillaw41_places.mono _ _ _ _ _ _
      | exact redpencillaw41_split.mono _ _
      | exact redpencillaw41_wide.mono _ _ _ _ _ _
      | exact LeO.none _
      | refine LeO.ite ?_ ?_
      | refine LeO.bind ?_ (fun _ => ?_)
    · intro y0 y1 y2 y3 y4 y5
      unfold redpencillaw41_LinesPlaces.j4
      repeat' first
      | (with_reducible exact ih0 _ _ _ _ _ _ _ _)
      | (with_reducible exact ih1 _ _ _ _)
      | (with_reducible exact ih2 _ _ _ _ _)
      | (with_reducible exact ih3 _ _ _ _ _)
      | (with_reducible exact ih4 _ _ _ _ _ _)
      | (with_reducible exact ih5 _ _ _ _ _ _)
      | (with_reducible exact ih6 _ _ _ _ _ _)
      | (with_reducible exact redpencillaw41_at.mono _ _ _ _ _ _)
      | (with_reducible exact redpencillaw41_index.mono _ _ _ _)
      | (with_reducible exact redpencillaw41_known.mono _)
      | (with_reducible exact redpencillaw41_place.mono _ _ _)
      | (with_reducible exact redpencillaw41_places.mono _ _ _ _ _ _)
      | (with_reducible exact redpencillaw41_split.mono _ _)
      | (with_reducible exact redpencillaw41_wide.mono _ _ _ _ _ _)
      | (with_reducible exact LeO.refl _)
      | (with_reducible exact LeO.none _)
      | (with_reducible refine LeO.ite ?_ ?_)
      | (with_reducible refine LeO.bind ?_ (fun _ => ?_))
      | exact ih0 _ _ _ _ _ _ _ _
      | exact ih1 _ _ _ _
      | exact ih2 _ _ _ _ _
      | exact ih3 _ _ _ _ _
      | exact ih4 _ _ _ _ _ _
      | exact ih5 _ _ _ _ _ _
      | exact ih6 _ _ _ _ _ _
      | exact redpencillaw41_at.mono _ _ _ _ _ _
      | exact redpencillaw41_index.mono _ _ _ _
      | exact redpencillaw41_known.mono _
      | exact redpencillaw41_place.mono _ _ _
      | exact redpencillaw41_places.mono _ _ _ _ _ _
      | exact redpencillaw41_split.mono _ _
      | exact redpencillaw41_wide.mono _ _ _ _ _ _
      | exact LeO.none _
      | refine LeO.ite ?_ ?_
      | refine LeO.bind ?_ (fun _ => ?_)
    · intro y0 y1 y2 y3 y4 y5
      unfold redpencillaw41_LinesPlaces.l0
      repeat' first
      | (with_reducible exact ih0 _ _ _ _ _ _ _ _)
      | (with_reducible exact ih1 _ _ _ _)
      | (with_reducible exact ih2 _ _ _ _ _)
      | (with_reducible exact ih3 _ _ _ _ _)
      | (with_reducible exact ih4 _ _ _ _ _ _)
      | (with_reducible exact ih5 _ _ _ _ _ _)
      | (with_reducible exact ih6 _ _ _ _ _ _)
      | (with_reducible exact redpencillaw41_at.mono _ _ _ _ _ _)
      | (with_reducible exact redpencillaw41_index.mono _ _ _ _)
      | (with_reducible exact redpencillaw41_known.mono _)
      | (with_reducible exact redpencillaw41_place.mono _ _ _)
      | (with_reducible exact redpencillaw41_places.mono _ _ _ _ _ _)
      | (with_reducible exact redpencillaw41_split.mono _ _)
      | (with_reducible exact redpencillaw41_wide.mono _ _ _ _ _ _)
      | (with_reducible exact LeO.refl _)
      | (with_reducible exact LeO.none _)
      | (with_reducible refine LeO.ite ?_ ?_)
      | (with_reducible refine LeO.bind ?_ (fun _ => ?_))
      | exact ih0 _ _ _ _ _ _ _ _
      | exact ih1 _ _ _ _
      | exact ih2 _ _ _ _ _
      | exact ih3 _ _ _ _ _
      | exact ih4 _ _ _ _ _ _
      | exact ih5 _ _ _ _ _ _
      | exact ih6 _ _ _ _ _ _
      | exact redpencillaw41_at.mono _ _ _ _ _ _
      | exact redpencillaw41_index.mono _ _ _ _
      | exact redpencillaw41_known.mono _
      | exact redpencillaw41_place.mono _ _ _
      | exact redpencillaw41_places.mono _ _ _ _ _ _
      | exact redpencillaw41_split.mono _ _
      | exact redpencillaw41_wide.mono _ _ _ _ _ _
      | exact LeO.none _
      | refine LeO.ite ?_ ?_
      | refine LeO.bind ?_ (fun _ => ?_)
    · intro y0 y1 y2 y3 y4 y5
      unfold redpencillaw41_LinesPlaces.l1
      repeat' first
      | (with_reducible exact ih0 _ _ _ _ _ _ _ _)
      | (with_reducible exact ih1 _ _ _ _)
      | (with_reducible exact ih2 _ _ _ _ _)
      | (with_reducible exact ih3 _ _ _ _ _)
      | (with_reducible exact ih4 _ _ _ _ _ _)
      | (with_reducible exact ih5 _ _ _ _ _ _)
      | (with_reducible exact ih6 _ _ _ _ _ _)
      | (with_reducible exact redpencillaw41_at.mono _ _ _ _ _ _)
      | (with_reducible exact redpencillaw41_index.mono _ _ _ _)
      | (with_reducible exact redpencillaw41_known.mono _)
      | (with_reducible exact redpencillaw41_place.mono _ _ _)
      | (with_reducible exact redpencillaw41_places.mono _ _ _ _ _ _)
      | (with_reducible exact redpencillaw41_split.mono _ _)
      | (with_reducible exact redpencillaw41_wide.mono _ _ _ _ _ _)
      | (with_reducible exact LeO.refl _)
      | (with_reducible exact LeO.none _)
      | (with_reducible refine LeO.ite ?_ ?_)
      | (with_reducible refine LeO.bind ?_ (fun _ => ?_))
      | exact ih0 _ _ _ _ _ _ _ _
      | exact ih1 _ _ _ _
      | exact ih2 _ _ _ _ _
      | exact ih3 _ _ _ _ _
      | exact ih4 _ _ _ _ _ _
      | exact ih5 _ _ _ _ _ _
      | exact ih6 _ _ _ _ _ _
      | exact redpencillaw41_at.mono _ _ _ _ _ _
      | exact redpencillaw41_index.mono _ _ _ _
      | exact redpencillaw41_known.mono _
      | exact redpencillaw41_place.mono _ _ _
      | exact redpencillaw41_places.mono _ _ _ _ _ _
      | exact redpencillaw41_split.mono _ _
      | exact redpencillaw41_wide.mono _ _ _ _ _ _
      | exact LeO.none _
      | refine LeO.ite ?_ ?_
      | refine LeO.bind ?_ (fun _ => ?_)
theorem redpencillaw41_LinesPlaces.mono : ∀ a0 a1 a2 a3 a4 k, LeO (redpencillaw41_LinesPlaces.f k a0 a1 a2 a3 a4) (redpencillaw41_LinesPlaces.f (k + 1) a0 a1 a2 a3 a4) := by
  intro a0 a1 a2 a3 a4 k
  obtain ⟨ih0, ih1, ih2, ih3, ih4, ih5, ih6⟩ := redpencillaw41_LinesPlaces.mono_l k
  unfold redpencillaw41_LinesPlaces.f
  repeat' first
      | (with_reducible exact ih0 _ _ _ _ _ _ _ _)
      | (with_reducible exact ih1 _ _ _ _)
      | (with_reducible exact ih2 _ _ _ _ _)
      | (with_reducible exact ih3 _ _ _ _ _)
      | (with_reducible exact ih4 _ _ _ _ _ _)
      | (with_reducible exact ih5 _ _ _ _ _ _)
      | (with_reducible exact ih6 _ _ _ _ _ _)
      | (with_reducible exact redpencillaw41_at.mono _ _ _ _ _ _)
      | (with_reducible exact redpencillaw41_index.mono _ _ _ _)
      | (with_reducible exact redpencillaw41_known.mono _)
      | (with_reducible exact redpencillaw41_place.mono _ _ _)
      | (with_reducible exact redpencillaw41_places.mono _ _ _ _ _ _)
      | (with_reducible exact redpencillaw41_split.mono _ _)
      | (with_reducible exact redpencillaw41_wide.mono _ _ _ _ _ _)
      | (with_reducible exact LeO.refl _)
      | (with_reducible exact LeO.none _)
      | (with_reducible refine LeO.ite ?_ ?_)
      | (with_reducible refine LeO.bind ?_ (fun _ => ?_))
      | exact ih0 _ _ _ _ _ _ _ _
      | exact ih1 _ _ _ _
      | exact ih2 _ _ _ _ _
      | exact ih3 _ _ _ _ _
      | exact ih4 _ _ _ _ _ _
      | exact ih5 _ _ _ _ _ _
      | exact ih6 _ _ _ _ _ _
      | exact redpencillaw41_at.mono _ _ _ _ _ _
      | exact redpencillaw41_index.mono _ _ _ _
      | exact redpencillaw41_known.mono _
      | exact redpencillaw41_place.mono _ _ _
      | exact redpencillaw41_places.mono _ _ _ _ _ _
      | exact redpencillaw41_split.mono _ _
      | exact redpencillaw41_wide.mono _ _ _ _ _ _
      | exact LeO.none _
      | refine LeO.ite ?_ ?_
      | refine LeO.bind ?_ (fun _ => ?_)
set_option maxHeartbeats 8000000 in
set_option maxRecDepth 100000 in
theorem redpencillaw41_LinesPlaces.calls (k : Nat) (a0 : ByteArray) (a1 : Int) (a2 : Int) (a3 : Int) (a4 : Int) (r : Bool) (w : World) (hG : GOK w) (h : redpencillaw41_LinesPlaces.f k a0 a1 a2 a3 a4 = some r) :
    Calls Tryd.prog 4 #[.string a0, .int .i64 a1, .int .i64 a2, .int .i64 a3, .int .i64 a4] w fun e w' => e = .returned (.bool r) ∧ Below w.heap.size w w' := by
  have HB := Aside0.mk (Below.refl w.heap.size w)
  have HG := Aside0.mk hG
  clear hG
  have H : (if (a0.size : Int) > 300 then ((redpencillaw41_known.f k).bind fun t275 => (some t275)) else ((runes_Decode.f a0).bind fun bt276 => (if bt276.2 = 0 then ((redpencillaw41_split.f k bt276.1).bind fun t284 => (if a2 < 0 then (redpencillaw41_LinesPlaces.j0 k a0 a1 a2 a3 a4 bt276.1 t284 true) else (if a2 ≥ (t284.length : Int) then (redpencillaw41_LinesPlaces.j0 k a0 a1 a2 a3 a4 bt276.1 t284 true) else (if a3 < 0 then (redpencillaw41_LinesPlaces.j0 k a0 a1 a2 a3 a4 bt276.1 t284 true) else (if 0 ≤ a2 then (if a2 < (t284.length : Int) then (redpencillaw41_LinesPlaces.j0 k a0 a1 a2 a3 a4 bt276.1 t284 (decide (a3 > ((rd_L2 t284 a2).length : Int)))) else (none)) else (none)))))) else ((redpencillaw41_places.f k a0 a1 0 0 bt276.2).bind fun t280 => (if t280 = true then ((redpencillaw41_at.f k a0 a2 a3 0 bt276.2).bind fun t281 => (if t281 = true then ((redpencillaw41_wide.f k a0 a1 a4 0 bt276.2).bind fun t282 => (if t282 = true then ((redpencillaw41_known.f k).bind fun t283 => (some t283)) else (some false))) else (some false))) else (some false)))))) = some r := h
  clear h
  by_cases c6 : (a0.size : Int) > 300
  · rw [if_pos c6] at H
    have c6b0 : decide (300 < (a0.size : Int)) = true := decide_eq_true c6
    have c6b1 : decide (300 < a0.size) = true := decide_eq_true (by omega)
    clear c6
    replace H := Option.bind_eq_some_iff.mp H
    obtain ⟨t275, A70, H⟩ := H
    replace H : (some t275) = some r := H
    have A7 := Aside0.mk A70
    clear A70
    obtain rfl := Option.some.inj H
    go_enter Tryd.func4, Tryd.ntmps4
    go_wp2_with (first | ((with_reducible refine gate_callee (f := 9) rfl ?_); refine goesL_ (some 23) rfl rfl Tryd.func9 (by kernel_rfl) rfl #[] rfl (by (try simp only [List.map_toArray, List.map_cons, List.map_nil]); first | done | rfl | (simp only [List.length_drop, List.length_take]; rfl)) ?_; (with_reducible refine (redpencillaw41_known.calls k  t275 _ ?side1 A7.out).mono ?_); (case side1 => exact GOK_below HG.out (by repeat (first | (with_reducible first | exact HB.out | apply below_alloc | apply pw_below_drewN | apply below_drew1) | exact HB.out))); rintro e w8 ⟨rfl, hb⟩; refine ⟨_, rfl, ?_⟩; have n0_ := Aside0.mk (below_step (by repeat (first | (with_reducible first | exact HB.out | apply below_alloc | apply pw_below_drewN | apply below_drew1) | exact HB.out)) hb); clear HB; have HB := n0_; clear n0_; (try clear hb); (try clear hb2); (try clear hk); (try clear hi)))
    go_ret
    exact ⟨by first | rfl | (simp [errW_none, errW_some] <;> rfl) | (simp [*, errW_none, errW_some] <;> rfl), by repeat (first | (with_reducible first | exact HB.out | apply below_alloc | apply pw_below_drewN | apply below_drew1) | exact HB.out)⟩
  · rw [if_neg c6] at H
    have c6b0 : decide (300 < (a0.size : Int)) = false := decide_eq_false c6
    have c6b1 : decide (300 < a0.size) = false := decide_eq_false (by omega)
    clear c6
    replace H := Option.bind_eq_some_iff.mp H
    obtain ⟨⟨t276, t277⟩, A90, H⟩ := H
    replace H : (if t277 = 0 then ((redpencillaw41_split.f k t276).bind fun t284 => (if a2 < 0 then (redpencillaw41_LinesPlaces.j0 k a0 a1 a2 a3 a4 t276 t284 true) else (if a2 ≥ (t284.length : Int) then (redpencillaw41_LinesPlaces.j0 k a0 a1 a2 a3 a4 t276 t284 true) else (if a3 < 0 then (redpencillaw41_LinesPlaces.j0 k a0 a1 a2 a3 a4 t276 t284 true) else (if 0 ≤ a2 then (if a2 < (t284.length : Int) then (redpencillaw41_LinesPlaces.j0 k a0 a1 a2 a3 a4 t276 t284 (decide (a3 > ((rd_L2 t284 a2).length : Int)))) else (none)) else (none)))))) else ((redpencillaw41_places.f k a0 a1 0 0 t277).bind fun t280 => (if t280 = true then ((redpencillaw41_at.f k a0 a2 a3 0 t277).bind fun t281 => (if t281 = true then ((redpencillaw41_wide.f k a0 a1 a4 0 t277).bind fun t282 => (if t282 = true then ((redpencillaw41_known.f k).bind fun t283 => (some t283)) else (some false))) else (some false))) else (some false)))) = some r := H
    have A9 := Aside0.mk A90
    clear A90
    by_cases c10 : t277 = 0
    · rw [if_pos c10] at H
      have c10b0 : (t277 == 0) = true := beq_iff_eq.mpr c10
      have c10b1 : (t277 != 0) = false := bne_eq_false_iff_eq.mpr c10
      clear c10
      replace H := Option.bind_eq_some_iff.mp H
      obtain ⟨t284, A110, H⟩ := H
      replace H : (if a2 < 0 then (redpencillaw41_LinesPlaces.j0 k a0 a1 a2 a3 a4 t276 t284 true) else (if a2 ≥ (t284.length : Int) then (redpencillaw41_LinesPlaces.j0 k a0 a1 a2 a3 a4 t276 t284 true) else (if a3 < 0 then (redpencillaw41_LinesPlaces.j0 k a0 a1 a2 a3 a4 t276 t284 true) else (if 0 ≤ a2 then (if a2 < (t284.length : Int) then (redpencillaw41_LinesPlaces.j0 k a0 a1 a2 a3 a4 t276 t284 (decide (a3 > ((rd_L2 t284 a2).length : Int)))) else (none)) else (none))))) = some r := H
      have A11 := Aside0.mk A110
      clear A110
      have HC12 := Aside0.mk H
      clear H
      go_enter Tryd.func4, Tryd.ntmps4
      go_upto_region 8 with (first | ((with_reducible refine gate_callee (f := 10) rfl ?_); refine goesL_ (some 26) rfl rfl Tryd.func10 (by kernel_rfl) rfl #[.string a0] rfl (by (try simp only [List.map_toArray, List.map_cons, List.map_nil]); first | done | rfl | (simp only [List.length_drop, List.length_take]; rfl)) ?_; (with_reducible refine (runes_Decode.calls a0 t276 t277 _ ?side1 A9.out).mono ?_); (case side1 => exact GOK_below HG.out (by repeat (first | (with_reducible first | exact HB.out | apply below_alloc | apply pw_below_drewN | apply below_drew1) | exact HB.out))); rintro e w13 ⟨v278, rfl, ho0, hb⟩; refine ⟨_, rfl, ?_⟩; have n0_ := Aside0.mk (Kd.R_lower ho0 (below_size (by repeat (first | (with_reducible first | exact HB.out | apply below_alloc | apply pw_below_drewN | apply below_drew1) | exact HB.out)))); have n1_ := Aside0.mk (below_step (by repeat (first | (with_reducible first | exact HB.out | apply below_alloc | apply pw_below_drewN | apply below_drew1) | exact HB.out)) hb); clear HB; have HO279 := n0_; have HB := n1_; clear n0_ n1_; (try clear hb); (try clear hb2); (try clear hk); (try clear hi); (try clear ho0); obtain ⟨Ao14, co14, eo14⟩ := Kd.R_slice HO279.out; subst eo14) | ((with_reducible refine gate_callee (f := 13) rfl ?_); refine goesL_ (some 54) rfl rfl Tryd.func13 (by kernel_rfl) rfl #[.slice Ao14 t276.length co14] rfl (by (try simp only [List.map_toArray, List.map_cons, List.map_nil]); first | done | rfl | (simp only [List.length_drop, List.length_take]; rfl)) ?_; (with_reducible refine (redpencillaw41_split.calls k _ _ t276 t284 _ ?side1 ?side2 A11.out).mono ?_); (case side1 => repeat (first | exact (Kd.R_reads' HO279.out).2.2 | (with_reducible refine Kd.C_alloc ?_ _) | (with_reducible refine Kd.C_drewN ?_ _) | (with_reducible refine Kd.C_drew ?_))); (case side2 => exact (Kd.R_reads' HO279.out).2.1); rintro e w15 ⟨v285, rfl, ho0, hb⟩; refine ⟨_, rfl, ?_⟩; have n0_ := Aside0.mk (Kd.R_below (by (with_reducible repeat (first | apply Kd.R_alloc | apply Kd.R_drewN | apply Kd.R_drew)); exact HO279.out) hb); have n1_ := Aside0.mk (Kd.S_lower (Kd.S_new' ho0 (Kd.R_lt (by (with_reducible repeat (first | apply Kd.R_alloc | apply Kd.R_drewN | apply Kd.R_drew)); exact HO279.out))) (below_size (by repeat (first | (with_reducible first | exact HB.out | apply below_alloc | apply pw_below_drewN | apply below_drew1) | exact HB.out)))); have n2_ := Aside0.mk (below_step (by repeat (first | (with_reducible first | exact HB.out | apply below_alloc | apply pw_below_drewN | apply below_drew1) | exact HB.out)) hb); clear HO279; clear HB; have HO279 := n0_; have HO286 := n1_; have HB := n2_; clear n0_ n1_ n2_; (try clear hb); (try clear hb2); (try clear hk); (try clear hi); (try clear ho0)))
      (try simp only [Act.put, List.setIfInBounds_toArray, List.set_cons_zero, List.set_cons_succ])
      go_cut [75] (fun v75 wc => ∃ (kq : Nat) (x75_11 : Bool), v75 = .bool x75_11 ∧ Aside0 (redpencillaw41_LinesPlaces.j0 kq a0 a1 a2 a3 a4 t276 t284 x75_11 = some r) ∧ Aside0 (kq ≤ k) ∧ Aside0 (Kd.R (Kd.int .i32) 21 wc w.heap.size (fun _ => True) (.slice Ao14 t276.length co14) t276) ∧ Aside0 (Kd.S (Kd.slice 21 (Kd.int .i32)) 23 wc w.heap.size (fun k_ => some k_ ≠ ((.slice Ao14 t276.length co14) : Value).ownBlock) v285 t284) ∧ Aside0 (Below w.heap.size w wc))
      case first =>
        have H := HC12.out
        clear HC12
        by_cases c16 : a2 < 0
        · rw [if_pos c16] at H
          have c16b0 : decide (a2 < 0) = true := decide_eq_true c16
          clear c16
          (first | rw [c16b0] | (simp only [i64_w, i32_w]; rw [c16b0]) | skip)
          have H' := Aside0.mk H
          clear H
          go_wp2
          go_meet
          case rel => exact ⟨_, (true), (by first | rfl | (simp; done) | (simp [*]; done)), H', ⟨by first | omega | exact Nat.le_refl _⟩, ⟨by (with_reducible repeat (first | apply Kd.R_alloc | apply Kd.R_drewN | apply Kd.R_drew)); exact HO279.out⟩, ⟨by (with_reducible repeat (first | apply Kd.S_alloc | apply Kd.S_drewN | apply Kd.S_drew)); exact Kd.S_mono HO286.out (fun _ hk => hk.2)⟩, ⟨by repeat (first | (with_reducible first | exact HB.out | apply below_alloc | apply pw_below_drewN | apply below_drew1) | exact HB.out)⟩⟩
        · rw [if_neg c16] at H
          have c16b0 : decide (a2 < 0) = false := decide_eq_false c16
          clear c16
          (first | rw [c16b0] | (simp only [i64_w, i32_w]; rw [c16b0]) | skip)
          by_cases c17 : a2 ≥ (t284.length : Int)
          · rw [if_pos c17] at H
            have c17b0 : decide ((t284.length : Int) ≤ a2) = true := decide_eq_true c17
            clear c17
            have H' := Aside0.mk H
            clear H
            obtain ⟨Ao18, co18, eo18⟩ := Kd.S_slice HO286.out
            subst eo18
            go_wp2
            go_meet
            case rel => exact ⟨_, (true), (by first | rfl | (simp; done) | (simp [*]; done)), H', ⟨by first | omega | exact Nat.le_refl _⟩, ⟨by (with_reducible repeat (first | apply Kd.R_alloc | apply Kd.R_drewN | apply Kd.R_drew)); exact HO279.out⟩, ⟨by (with_reducible repeat (first | apply Kd.S_alloc | apply Kd.S_drewN | apply Kd.S_drew)); exact Kd.S_mono HO286.out (fun _ hk => hk.2)⟩, ⟨by repeat (first | (with_reducible first | exact HB.out | apply below_alloc | apply pw_below_drewN | apply below_drew1) | exact HB.out)⟩⟩
          · rw [if_neg c17] at H
            have c17b0 : decide ((t284.length : Int) ≤ a2) = false := decide_eq_false c17
            clear c17
            by_cases c19 : a3 < 0
            · rw [if_pos c19] at H
              have c19b0 : decide (a3 < 0) = true := decide_eq_true c19
              clear c19
              have H' := Aside0.mk H
              clear H
              obtain ⟨Ao20, co20, eo20⟩ := Kd.S_slice HO286.out
              subst eo20
              go_wp2
              go_meet
              case rel => exact ⟨_, (true), (by first | rfl | (simp; done) | (simp [*]; done)), H', ⟨by first | omega | exact Nat.le_refl _⟩, ⟨by (with_reducible repeat (first | apply Kd.R_alloc | apply Kd.R_drewN | apply Kd.R_drew)); exact HO279.out⟩, ⟨by (with_reducible repeat (first | apply Kd.S_alloc | apply Kd.S_drewN | apply Kd.S_drew)); exact Kd.S_mono HO286.out (fun _ hk => hk.2)⟩, ⟨by repeat (first | (with_reducible first | exact HB.out | apply below_alloc | apply pw_below_drewN | apply below_drew1) | exact HB.out)⟩⟩
            · rw [if_neg c19] at H
              have c19b0 : decide (a3 < 0) = false := decide_eq_false c19
              clear c19
              by_cases c21 : 0 ≤ a2
              · rw [if_pos c21] at H
                have c21b0 : decide (0 ≤ a2) = true := decide_eq_true c21
                clear c21
                by_cases c22 : a2 < (t284.length : Int)
                · rw [if_pos c22] at H
                  have c22b0 : decide (a2 < (t284.length : Int)) = true := decide_eq_true c22
                  clear c22
                  have H' := Aside0.mk H
                  clear H
                  obtain ⟨Ao23, co23, eo23⟩ := Kd.S_slice HO286.out
                  subst eo23
                  have p287 : 0 ≤ (a2 : Int) := of_decide_eq_true (by first | (with_reducible assumption) | assumption)
                  have q287 : a2 < (t284.length : Int) := of_decide_eq_true (by first | (with_reducible assumption) | assumption)
                  obtain ⟨ad287, A287_0, c287_0, e287, hx287_0, hl287_0, hi287_0⟩ := at_L2 (Kd.S_reads' HO286.out).2.2 a2 p287 q287
                  cases e287
                  obtain ⟨ce287, hce287, hMe287, hcc287⟩ := Kd.S_get HO286.out [] a2 p287 (by first | exact q287 | exact of_decide_eq_true (by first | (with_reducible assumption) | assumption) | (have e_ := (Kd.S_reads' HO286.out).1; omega))
                  obtain ⟨ve287_0, rfl, ge287_0⟩ := hMe287
                  have hv287_0 := hcc287 0 _ rfl
                  rw [Nat.add_zero, show ((Kd.slice 21 (Kd.int .i32))).sz = 1 from rfl, Nat.mul_one] at hv287_0
                  replace hv287_0 := Option.some.inj (hv287_0.symm.trans hx287_0)
                  rw [hv287_0] at ge287_0
                  have HL287_0 := Aside0.mk (show Kd.R (Kd.int .i32) 21 _ _ _ _ (rd_L2 t284 a2) from ge287_0)
                  clear hv287_0 ge287_0
                  clear hcc287 hce287
                  have HR287_0 := Aside0.mk hi287_0
                  have HC287_0 := Aside0.mk hl287_0
                  clear hi287_0 hl287_0
                  replace p287 := eq_true p287
                  replace q287 := eq_true q287
                  go_wp2
                  go_meet
                  case rel => exact ⟨_, (decide (a3 > ((rd_L2 t284 a2).length : Int))), (by first | rfl | (simp; done) | (simp [*]; done)), H', ⟨by first | omega | exact Nat.le_refl _⟩, ⟨by (with_reducible repeat (first | apply Kd.R_alloc | apply Kd.R_drewN | apply Kd.R_drew)); exact HO279.out⟩, ⟨by (with_reducible repeat (first | apply Kd.S_alloc | apply Kd.S_drewN | apply Kd.S_drew)); exact Kd.S_mono HO286.out (fun _ hk => hk.2)⟩, ⟨by repeat (first | (with_reducible first | exact HB.out | apply below_alloc | apply pw_below_drewN | apply below_drew1) | exact HB.out)⟩⟩
                · rw [if_neg c22] at H
                  exact absurd H (by simp)
              · rw [if_neg c21] at H
                exact absurd H (by simp)
      case rest =>
        clear HC12
        try clear c1
        try clear c2
        try clear p2
        try clear q2
        try clear hx2
        try clear c4
        try clear c6
        try clear c6b0
        try clear c6b1
        try clear c9
        try clear c10
        try clear c10b0
        try clear c10b1
        try clear c13
        try clear c16
        try clear c16b0
        try clear c17
        try clear c17b0
        try clear c19
        try clear c19b0
        try clear c21
        try clear c21b0
        try clear c22
        try clear c22b0
        try clear hx287_0
        try clear p287
        try clear q287
        obtain ⟨kq, x75_11, rfl, HA, HJ11, HO_11, HO_14, HB⟩ := hcut
        cases kq with
        | zero => exact absurd HA.out (by simp [redpencillaw41_LinesPlaces.j0])
        | succ kj11 =>
          have H := HA.out
          clear HA
          simp only [redpencillaw41_LinesPlaces.j0] at H
          have HC24 := Aside0.mk H
          clear H
          go_upto_if 75 with (fail)
          go_cut [] (fun wc => ∃ (kq : Nat), Aside0 (redpencillaw41_LinesPlaces.j1 kq a0 a1 a4 t276 = some r) ∧ Aside0 (kq ≤ kj11) ∧ Aside0 (Kd.R (Kd.int .i32) 21 wc w.heap.size (fun _ => True) (.slice Ao14 t276.length co14) t276) ∧ Aside0 (Below w.heap.size w wc))
          case first =>
            have H := HC24.out
            clear HC24
            by_cases c25 : x75_11 = true
            · subst c25
              have H1 : ((redpencillaw41_at.f kj11 a0 a2 a3 0 3).bind fun t288 => (if t288 = true then (redpencillaw41_LinesPlaces.j1 kj11 a0 a1 a4 t276) else (some false))) = some r := by rw [if_pos rfl] at H; exact H
              clear H
              have H := H1
              clear H1
              replace H := Option.bind_eq_some_iff.mp H
              obtain ⟨t288, A260, H⟩ := H
              replace H : (if t288 = true then (redpencillaw41_LinesPlaces.j1 kj11 a0 a1 a4 t276) else (some false)) = some r := H
              have A26 := Aside0.mk A260
              clear A260
              by_cases c27 : t288 = true
              · subst c27
                have H1 : (redpencillaw41_LinesPlaces.j1 kj11 a0 a1 a4 t276) = some r := by rw [if_pos rfl] at H; exact H
                clear H
                have H := H1
                clear H1
                have H' := Aside0.mk H
                clear H
                go_wp2_with (first | ((with_reducible refine gate_callee (f := 15) rfl ?_); refine goesL_ (some 79) rfl rfl Tryd.func15 (by kernel_rfl) rfl #[.string a0, .int .i64 a2, .int .i64 a3, .int .i64 0, .int .i64 3] rfl (by (try simp only [List.map_toArray, List.map_cons, List.map_nil]); first | done | rfl | (simp only [List.length_drop, List.length_take]; rfl)) ?_; (with_reducible refine (redpencillaw41_at.calls kj11 a0 a2 a3 0 3 true _ ?side1 A26.out).mono ?_); (case side1 => exact GOK_below HG.out (by repeat (first | (with_reducible first | exact HB.out | apply below_alloc | apply pw_below_drewN | apply below_drew1) | exact HB.out))); rintro e w28 ⟨rfl, hb⟩; refine ⟨_, rfl, ?_⟩; have n0_ := Aside0.mk (Kd.R_below (by (with_reducible repeat (first | apply Kd.R_alloc | apply Kd.R_drewN | apply Kd.R_drew)); exact HO_11.out) hb); have n1_ := Aside0.mk (Kd.S_below (by (with_reducible repeat (first | apply Kd.S_alloc | apply Kd.S_drewN | apply Kd.S_drew)); exact HO_14.out) hb); have n2_ := Aside0.mk (below_step (by repeat (first | (with_reducible first | exact HB.out | apply below_alloc | apply pw_below_drewN | apply below_drew1) | exact HB.out)) hb); clear HO_11; clear HO_14; clear HB; have HO_11 := n0_; have HO_14 := n1_; have HB := n2_; clear n0_ n1_ n2_; (try clear hb); (try clear hb2); (try clear hk); (try clear hi)))
                go_meet
                case rel => exact ⟨_, H', ⟨by have := HJ11.out; first | omega | exact Nat.le_refl _⟩, ⟨by (with_reducible repeat (first | apply Kd.R_alloc | apply Kd.R_drewN | apply Kd.R_drew)); exact HO_11.out⟩, ⟨by repeat (first | (with_reducible first | exact HB.out | apply below_alloc | apply pw_below_drewN | apply below_drew1) | exact HB.out)⟩⟩
              · replace c27 := Bool.eq_false_iff.mpr c27
                subst c27
                have H1 : (some false) = some r := by rw [if_neg (show ¬ (false = true) by decide)] at H; exact H
                clear H
                have H := H1
                clear H1
                obtain rfl := Option.some.inj H
                go_wp2_with (first | ((with_reducible refine gate_callee (f := 15) rfl ?_); refine goesL_ (some 79) rfl rfl Tryd.func15 (by kernel_rfl) rfl #[.string a0, .int .i64 a2, .int .i64 a3, .int .i64 0, .int .i64 3] rfl (by (try simp only [List.map_toArray, List.map_cons, List.map_nil]); first | done | rfl | (simp only [List.length_drop, List.length_take]; rfl)) ?_; (with_reducible refine (redpencillaw41_at.calls kj11 a0 a2 a3 0 3 false _ ?side1 A26.out).mono ?_); (case side1 => exact GOK_below HG.out (by repeat (first | (with_reducible first | exact HB.out | apply below_alloc | apply pw_below_drewN | apply below_drew1) | exact HB.out))); rintro e w29 ⟨rfl, hb⟩; refine ⟨_, rfl, ?_⟩; have n0_ := Aside0.mk (Kd.R_below (by (with_reducible repeat (first | apply Kd.R_alloc | apply Kd.R_drewN | apply Kd.R_drew)); exact HO_11.out) hb); have n1_ := Aside0.mk (Kd.S_below (by (with_reducible repeat (first | apply Kd.S_alloc | apply Kd.S_drewN | apply Kd.S_drew)); exact HO_14.out) hb); have n2_ := Aside0.mk (below_step (by repeat (first | (with_reducible first | exact HB.out | apply below_alloc | apply pw_below_drewN | apply below_drew1) | exact HB.out)) hb); clear HO_11; clear HO_14; clear HB; have HO_11 := n0_; have HO_14 := n1_; have HB := n2_; clear n0_ n1_ n2_; (try clear hb); (try clear hb2); (try clear hk); (try clear hi)))
                go_ret
                exact ⟨by first | rfl | (simp [errW_none, errW_some] <;> rfl) | (simp [*, errW_none, errW_some] <;> rfl), by repeat (first | (with_reducible first | exact HB.out | apply below_alloc | apply pw_below_drewN | apply below_drew1) | exact HB.out)⟩
            · replace c25 := Bool.eq_false_iff.mpr c25
              subst c25
              have H1 : ((redpencillaw41_index.f kj11 t284 a2 a3).bind fun t289 => ((redpencillaw41_at.f kj11 a0 a2 a3 t289 0).bind fun t290 => (if t290 = true then (redpencillaw41_LinesPlaces.j1 kj11 a0 a1 a4 t276) else (some false)))) = some r := by rw [if_neg (show ¬ (false = true) by decide)] at H; exact H
              clear H
              have H := H1
              clear H1
              replace H := Option.bind_eq_some_iff.mp H
              obtain ⟨t289, A300, H⟩ := H
              replace H : ((redpencillaw41_at.f kj11 a0 a2 a3 t289 0).bind fun t290 => (if t290 = true then (redpencillaw41_LinesPlaces.j1 kj11 a0 a1 a4 t276) else (some false))) = some r := H
              have A30 := Aside0.mk A300
              clear A300
              replace H := Option.bind_eq_some_iff.mp H
              obtain ⟨t290, A310, H⟩ := H
              replace H : (if t290 = true then (redpencillaw41_LinesPlaces.j1 kj11 a0 a1 a4 t276) else (some false)) = some r := H
              have A31 := Aside0.mk A310
              clear A310
              by_cases c32 : t290 = true
              · subst c32
                have H1 : (redpencillaw41_LinesPlaces.j1 kj11 a0 a1 a4 t276) = some r := by rw [if_pos rfl] at H; exact H
                clear H
                have H := H1
                clear H1
                have H' := Aside0.mk H
                clear H
                obtain ⟨Ao33, co33, eo33⟩ := Kd.S_slice HO_14.out
                subst eo33
                go_wp2_with (first | ((with_reducible refine gate_callee (f := 17) rfl ?_); refine goesL_ (some 87) rfl rfl Tryd.func17 (by kernel_rfl) rfl #[.slice Ao33 t284.length co33, .int .i64 a2, .int .i64 a3] rfl (by (try simp only [List.map_toArray, List.map_cons, List.map_nil]); first | done | rfl | (simp only [List.length_drop, List.length_take]; rfl)) ?_; (with_reducible refine (redpencillaw41_index.calls kj11 _ _ t284 a2 a3 t289 _ ?side1 ?side2 A30.out).mono ?_); (case side1 => repeat (first | exact (Kd.S_reads' HO_14.out).2.2 | (with_reducible refine Kd.C_alloc ?_ _) | (with_reducible refine Kd.C_drewN ?_ _) | (with_reducible refine Kd.C_drew ?_))); (case side2 => exact (Kd.S_reads' HO_14.out).2.1); rintro e w' ⟨rfl, ⟨nd, rfl⟩⟩; refine ⟨_, rfl, ?_⟩) | ((with_reducible refine gate_callee (f := 15) rfl ?_); refine goesL_ (some 88) rfl rfl Tryd.func15 (by kernel_rfl) rfl #[.string a0, .int .i64 a2, .int .i64 a3, .int .i64 t289, .int .i64 0] rfl (by (try simp only [List.map_toArray, List.map_cons, List.map_nil]); first | done | rfl | (simp only [List.length_drop, List.length_take]; rfl)) ?_; (with_reducible refine (redpencillaw41_at.calls kj11 a0 a2 a3 t289 0 true _ ?side1 A31.out).mono ?_); (case side1 => exact GOK_below HG.out (by repeat (first | (with_reducible first | exact HB.out | apply below_alloc | apply pw_below_drewN | apply below_drew1) | exact HB.out))); rintro e w34 ⟨rfl, hb⟩; refine ⟨_, rfl, ?_⟩; have n0_ := Aside0.mk (Kd.R_below (by (with_reducible repeat (first | apply Kd.R_alloc | apply Kd.R_drewN | apply Kd.R_drew)); exact HO_11.out) hb); have n1_ := Aside0.mk (Kd.S_below (by (with_reducible repeat (first | apply Kd.S_alloc | apply Kd.S_drewN | apply Kd.S_drew)); exact HO_14.out) hb); have n2_ := Aside0.mk (below_step (by repeat (first | (with_reducible first | exact HB.out | apply below_alloc | apply pw_below_drewN | apply below_drew1) | exact HB.out)) hb); clear HO_11; clear HO_14; clear HB; have HO_11 := n0_; have HO_14 := n1_; have HB := n2_; clear n0_ n1_ n2_; (try clear hb); (try clear hb2); (try clear hk); (try clear hi)))
                go_meet
                case rel => exact ⟨_, H', ⟨by have := HJ11.out; first | omega | exact Nat.le_refl _⟩, ⟨by (with_reducible repeat (first | apply Kd.R_alloc | apply Kd.R_drewN | apply Kd.R_drew)); exact HO_11.out⟩, ⟨by repeat (first | (with_reducible first | exact HB.out | apply below_alloc | apply pw_below_drewN | apply below_drew1) | exact HB.out)⟩⟩
              · replace c32 := Bool.eq_false_iff.mpr c32
                subst c32
                have H1 : (some false) = some r := by rw [if_neg (show ¬ (false = true) by decide)] at H; exact H
                clear H
                have H := H1
                clear H1
                obtain rfl := Option.some.inj H
                obtain ⟨Ao35, co35, eo35⟩ := Kd.S_slice HO_14.out
                subst eo35
                go_wp2_with (first | ((with_reducible refine gate_callee (f := 17) rfl ?_); refine goesL_ (some 87) rfl rfl Tryd.func17 (by kernel_rfl) rfl #[.slice Ao35 t284.length co35, .int .i64 a2, .int .i64 a3] rfl (by (try simp only [List.map_toArray, List.map_cons, List.map_nil]); first | done | rfl | (simp only [List.length_drop, List.length_take]; rfl)) ?_; (with_reducible refine (redpencillaw41_index.calls kj11 _ _ t284 a2 a3 t289 _ ?side1 ?side2 A30.out).mono ?_); (case side1 => repeat (first | exact (Kd.S_reads' HO_14.out).2.2 | (with_reducible refine Kd.C_alloc ?_ _) | (with_reducible refine Kd.C_drewN ?_ _) | (with_reducible refine Kd.C_drew ?_))); (case side2 => exact (Kd.S_reads' HO_14.out).2.1); rintro e w' ⟨rfl, ⟨nd, rfl⟩⟩; refine ⟨_, rfl, ?_⟩) | ((with_reducible refine gate_callee (f := 15) rfl ?_); refine goesL_ (some 88) rfl rfl Tryd.func15 (by kernel_rfl) rfl #[.string a0, .int .i64 a2, .int .i64 a3, .int .i64 t289, .int .i64 0] rfl (by (try simp only [List.map_toArray, List.map_cons, List.map_nil]); first | done | rfl | (simp only [List.length_drop, List.length_take]; rfl)) ?_; (with_reducible refine (redpencillaw41_at.calls kj11 a0 a2 a3 t289 0 false _ ?side1 A31.out).mono ?_); (case side1 => exact GOK_below HG.out (by repeat (first | (with_reducible first | exact HB.out | apply below_alloc | apply pw_below_drewN | apply below_drew1) | exact HB.out))); rintro e w36 ⟨rfl, hb⟩; refine ⟨_, rfl, ?_⟩; have n0_ := Aside0.mk (Kd.R_below (by (with_reducible repeat (first | apply Kd.R_alloc | apply Kd.R_drewN | apply Kd.R_drew)); exact HO_11.out) hb); have n1_ := Aside0.mk (Kd.S_below (by (with_reducible repeat (first | apply Kd.S_alloc | apply Kd.S_drewN | apply Kd.S_drew)); exact HO_14.out) hb); have n2_ := Aside0.mk (below_step (by repeat (first | (with_reducible first | exact HB.out | apply below_alloc | apply pw_below_drewN | apply below_drew1) | exact HB.out)) hb); clear HO_11; clear HO_14; clear HB; have HO_11 := n0_; have HO_14 := n1_; have HB := n2_; clear n0_ n1_ n2_; (try clear hb); (try clear hb2); (try clear hk); (try clear hi)))
                go_ret
                exact ⟨by first | rfl | (simp [errW_none, errW_some] <;> rfl) | (simp [*, errW_none, errW_some] <;> rfl), by repeat (first | (with_reducible first | exact HB.out | apply below_alloc | apply pw_below_drewN | apply below_drew1) | exact HB.out)⟩
          case rest =>
            clear HC24
            try clear c1
            try clear c2
            try clear p2
            try clear q2
            try clear hx2
            try clear c3
            try clear c4
            try clear c6
            try clear c6b0
            try clear c6b1
            try clear c9
            try clear c10
            try clear c10b0
            try clear c10b1
            try clear c13
            try clear c15
            try clear c16
            try clear c16b0
            try clear c17
            try clear c17b0
            try clear c19
            try clear c19b0
            try clear c21
            try clear c21b0
            try clear c22
            try clear c22b0
            try clear c25
            try clear c27
            try clear c28
            try clear p28
            try clear q28
            try clear hx28
            try clear c32
            try clear hx287_0
            try clear p2
            try clear p287
            try clear q2
            try clear q287
            obtain ⟨kq, HA, HJ23, HO_11, HB⟩ := hcut
            cases kq with
            | zero => exact absurd HA.out (by simp [redpencillaw41_LinesPlaces.j1])
            | succ kj23 =>
              have H := HA.out
              clear HA
              simp only [redpencillaw41_LinesPlaces.j1] at H
              have HC37 := Aside0.mk H
              clear H
              go_upto_region 13 with (fail)
              go_cut [97] (fun v97 wc => ∃ (kq : Nat) (x97_36 : Bool), v97 = .bool x97_36 ∧ Aside0 (redpencillaw41_LinesPlaces.j2 kq a0 a1 a4 t276 x97_36 = some r) ∧ Aside0 (kq ≤ kj23) ∧ Aside0 (Kd.R (Kd.int .i32) 21 wc w.heap.size (fun _ => True) (.slice Ao14 t276.length co14) t276) ∧ Aside0 (Below w.heap.size w wc))
              case first =>
                have H := HC37.out
                clear HC37
                by_cases c38 : a1 < 0
                · rw [if_pos c38] at H
                  have c38b0 : decide (a1 < 0) = true := decide_eq_true c38
                  clear c38
                  (first | rw [c38b0] | (simp only [i64_w, i32_w]; rw [c38b0]) | skip)
                  have H' := Aside0.mk H
                  clear H
                  go_wp2
                  go_meet
                  case rel => exact ⟨_, (true), (by first | rfl | (simp; done) | (simp [*]; done)), H', ⟨by have := HJ11.out; have := HJ23.out; first | omega | exact Nat.le_refl _⟩, ⟨by (with_reducible repeat (first | apply Kd.R_alloc | apply Kd.R_drewN | apply Kd.R_drew)); exact HO_11.out⟩, ⟨by repeat (first | (with_reducible first | exact HB.out | apply below_alloc | apply pw_below_drewN | apply below_drew1) | exact HB.out)⟩⟩
                · rw [if_neg c38] at H
                  have c38b0 : decide (a1 < 0) = false := decide_eq_false c38
                  clear c38
                  (first | rw [c38b0] | (simp only [i64_w, i32_w]; rw [c38b0]) | skip)
                  have H' := Aside0.mk H
                  clear H
                  go_wp2
                  go_meet
                  case rel => exact ⟨_, (decide (a1 > (t276.length : Int))), (by first | rfl | (simp; done) | (simp [*]; done)), H', ⟨by have := HJ11.out; have := HJ23.out; first | omega | exact Nat.le_refl _⟩, ⟨by (with_reducible repeat (first | apply Kd.R_alloc | apply Kd.R_drewN | apply Kd.R_drew)); exact HO_11.out⟩, ⟨by repeat (first | (with_reducible first | exact HB.out | apply below_alloc | apply pw_below_drewN | apply below_drew1) | exact HB.out)⟩⟩
              case rest =>
                clear HC37
                try clear c1
                try clear c2
                try clear p2
                try clear q2
                try clear hx2
                try clear c3
                try clear c4
                try clear c6
                try clear c6b0
                try clear c6b1
                try clear c9
                try clear c10
                try clear c10b0
                try clear c10b1
                try clear c13
                try clear c15
                try clear c16
                try clear c16b0
                try clear c17
                try clear c17b0
                try clear c19
                try clear c19b0
                try clear c21
                try clear c21b0
                try clear c22
                try clear c22b0
                try clear c25
                try clear c27
                try clear c28
                try clear p28
                try clear q28
                try clear hx28
                try clear c32
                try clear c38
                try clear c38b0
                try clear hx287_0
                try clear p2
                try clear p28
                try clear p287
                try clear q2
                try clear q28
                try clear q287
                obtain ⟨kq, x97_36, rfl, HA, HJ36, HO_11, HB⟩ := hcut
                cases kq with
                | zero => exact absurd HA.out (by simp [redpencillaw41_LinesPlaces.j2])
                | succ kj36 =>
                  have H := HA.out
                  clear HA
                  simp only [redpencillaw41_LinesPlaces.j2] at H
                  by_cases c39 : x97_36 = true
                  · subst c39
                    have H1 : (if a4 < 1 then (redpencillaw41_LinesPlaces.j3 kj36 a0 a1 a4 3 true) else (redpencillaw41_LinesPlaces.j3 kj36 a0 a1 a4 3 (decide (a4 > 16)))) = some r := by rw [if_pos rfl] at H; exact H
                    clear H
                    have H := H1
                    clear H1
                    have HC40 := Aside0.mk H
                    clear H
                    go_upto_region 15 with (fail)
                    go_cut [103] (fun v103 wc => ∃ (kq : Nat) (x103_39 : Bool), v103 = .bool x103_39 ∧ Aside0 (redpencillaw41_LinesPlaces.j3 kq a0 a1 a4 3 x103_39 = some r) ∧ Aside0 (kq ≤ kj36) ∧ Aside0 (Below w.heap.size w wc))
                    case first =>
                      have H := HC40.out
                      clear HC40
                      by_cases c41 : a4 < 1
                      · rw [if_pos c41] at H
                        have c41b0 : decide (a4 < 1) = true := decide_eq_true c41
                        clear c41
                        (first | rw [c41b0] | (simp only [i64_w, i32_w]; rw [c41b0]) | skip)
                        have H' := Aside0.mk H
                        clear H
                        go_wp2
                        go_meet
                        case rel => exact ⟨_, (true), (by first | rfl | (simp; done) | (simp [*]; done)), H', ⟨by have := HJ11.out; have := HJ23.out; have := HJ36.out; first | omega | exact Nat.le_refl _⟩, ⟨by repeat (first | (with_reducible first | exact HB.out | apply below_alloc | apply pw_below_drewN | apply below_drew1) | exact HB.out)⟩⟩
                      · rw [if_neg c41] at H
                        have c41b0 : decide (a4 < 1) = false := decide_eq_false c41
                        clear c41
                        (first | rw [c41b0] | (simp only [i64_w, i32_w]; rw [c41b0]) | skip)
                        have H' := Aside0.mk H
                        clear H
                        go_wp2
                        go_meet
                        case rel => exact ⟨_, (decide (a4 > 16)), (by first | rfl | (simp; done) | (simp [*]; done)), H', ⟨by have := HJ11.out; have := HJ23.out; have := HJ36.out; first | omega | exact Nat.le_refl _⟩, ⟨by repeat (first | (with_reducible first | exact HB.out | apply below_alloc | apply pw_below_drewN | apply below_drew1) | exact HB.out)⟩⟩
                    case rest =>
                      clear HC40
                      try clear c1
                      try clear c2
                      try clear p2
                      try clear q2
                      try clear hx2
                      try clear c3
                      try clear c4
                      try clear c6
                      try clear c6b0
                      try clear c6b1
                      try clear c9
                      try clear c10
                      try clear c10b0
                      try clear c10b1
                      try clear c13
                      try clear c15
                      try clear c16
                      try clear c16b0
                      try clear c17
                      try clear c17b0
                      try clear c19
                      try clear c19b0
                      try clear c21
                      try clear c21b0
                      try clear c22
                      try clear c22b0
                      try clear c25
                      try clear c27
                      try clear c28
                      try clear p28
                      try clear q28
                      try clear hx28
                      try clear c32
                      try clear c38
                      try clear c38b0
                      try clear c39
                      try clear c41
                      try clear c41b0
                      try clear hx287_0
                      try clear p2
                      try clear p28
                      try clear p287
                      try clear q2
                      try clear q28
                      try clear q287
                      obtain ⟨kq, x103_39, rfl, HA, HJ39, HB⟩ := hcut
                      cases kq with
                      | zero => exact absurd HA.out (by simp [redpencillaw41_LinesPlaces.j3])
                      | succ kj39 =>
                        have H := HA.out
                        clear HA
                        simp only [redpencillaw41_LinesPlaces.j3] at H
                        by_cases c42 : x103_39 = true
                        · subst c42
                          have H1 : ((redpencillaw41_places.f kj39 a0 a1 0 0 3).bind fun t291 => (if t291 = true then ((redpencillaw41_wide.f kj39 a0 a1 a4 0 2).bind fun t292 => (if t292 = true then ((redpencillaw41_known.f kj39).bind fun t293 => (some t293)) else (some false))) else (some false))) = some r := by rw [if_pos rfl] at H; exact H
                          clear H
                          have H := H1
                          clear H1
                          replace H := Option.bind_eq_some_iff.mp H
                          obtain ⟨t291, A430, H⟩ := H
                          replace H : (if t291 = true then ((redpencillaw41_wide.f kj39 a0 a1 a4 0 2).bind fun t292 => (if t292 = true then ((redpencillaw41_known.f kj39).bind fun t293 => (some t293)) else (some false))) else (some false)) = some r := H
                          have A43 := Aside0.mk A430
                          clear A430
                          by_cases c44 : t291 = true
                          · subst c44
                            have H1 : ((redpencillaw41_wide.f kj39 a0 a1 a4 0 2).bind fun t292 => (if t292 = true then ((redpencillaw41_known.f kj39).bind fun t293 => (some t293)) else (some false))) = some r := by rw [if_pos rfl] at H; exact H
                            clear H
                            have H := H1
                            clear H1
                            replace H := Option.bind_eq_some_iff.mp H
                            obtain ⟨t292, A450, H⟩ := H
                            replace H : (if t292 = true then ((redpencillaw41_known.f kj39).bind fun t293 => (some t293)) else (some false)) = some r := H
                            have A45 := Aside0.mk A450
                            clear A450
                            by_cases c46 : t292 = true
                            · subst c46
                              have H1 : ((redpencillaw41_known.f kj39).bind fun t293 => (some t293)) = some r := by rw [if_pos rfl] at H; exact H
                              clear H
                              have H := H1
                              clear H1
                              replace H := Option.bind_eq_some_iff.mp H
                              obtain ⟨t293, A470, H⟩ := H
                              replace H : (some t293) = some r := H
                              have A47 := Aside0.mk A470
                              clear A470
                              obtain rfl := Option.some.inj H
                              go_wp2_with (first | ((with_reducible refine gate_callee (f := 14) rfl ?_); refine goesL_ (some 106) rfl rfl Tryd.func14 (by kernel_rfl) rfl #[.string a0, .int .i64 a1, .int .i64 0, .int .i64 0, .int .i64 3] rfl (by (try simp only [List.map_toArray, List.map_cons, List.map_nil]); first | done | rfl | (simp only [List.length_drop, List.length_take]; rfl)) ?_; (with_reducible refine (redpencillaw41_places.calls kj39 a0 a1 0 0 3 true _ ?side1 A43.out).mono ?_); (case side1 => exact GOK_below HG.out (by repeat (first | (with_reducible first | exact HB.out | apply below_alloc | apply pw_below_drewN | apply below_drew1) | exact HB.out))); rintro e w48 ⟨rfl, hb⟩; refine ⟨_, rfl, ?_⟩; have n0_ := Aside0.mk (below_step (by repeat (first | (with_reducible first | exact HB.out | apply below_alloc | apply pw_below_drewN | apply below_drew1) | exact HB.out)) hb); clear HB; have HB := n0_; clear n0_; (try clear hb); (try clear hb2); (try clear hk); (try clear hi)) | (go_at_call 16; (with_reducible refine (redpencillaw41_wide.calls kj39 a0 a1 a4 0 2 true _ ?side1 A45.out).mono ?_); (case side1 => exact GOK_below HG.out (by repeat (first | (with_reducible first | exact HB.out | apply below_alloc | apply pw_below_drewN | apply below_drew1) | exact HB.out))); rintro e w49 ⟨rfl, hb⟩; have n0_ := Aside0.mk (below_step (by repeat (first | (with_reducible first | exact HB.out | apply below_alloc | apply pw_below_drewN | apply below_drew1) | exact HB.out)) hb); clear HB; have HB := n0_; clear n0_; (try clear hb); (try clear hb2); (try clear hk); (try clear hi)) | (go_at_call 9; (with_reducible refine (redpencillaw41_known.calls kj39  t293 _ ?side1 A47.out).mono ?_); (case side1 => exact GOK_below HG.out (by repeat (first | (with_reducible first | exact HB.out | apply below_alloc | apply pw_below_drewN | apply below_drew1) | exact HB.out))); rintro e w50 ⟨rfl, hb⟩; have n0_ := Aside0.mk (below_step (by repeat (first | (with_reducible first | exact HB.out | apply below_alloc | apply pw_below_drewN | apply below_drew1) | exact HB.out)) hb); clear HB; have HB := n0_; clear n0_; (try clear hb); (try clear hb2); (try clear hk); (try clear hi)))
                              go_ret
                              exact ⟨by first | rfl | (simp [errW_none, errW_some] <;> rfl) | (simp [*, errW_none, errW_some] <;> rfl), by repeat (first | (with_reducible first | exact HB.out | apply below_alloc | apply pw_below_drewN | apply below_drew1) | exact HB.out)⟩
                            · replace c46 := Bool.eq_false_iff.mpr c46
                              subst c46
                              have H1 : (some false) = some r := by rw [if_neg (show ¬ (false = true) by decide)] at H; exact H
                              clear H
                              have H := H1
                              clear H1
                              obtain rfl := Option.some.inj H
                              go_wp2_with (first | ((with_reducible refine gate_callee (f := 14) rfl ?_); refine goesL_ (some 106) rfl rfl Tryd.func14 (by kernel_rfl) rfl #[.string a0, .int .i64 a1, .int .i64 0, .int .i64 0, .int .i64 3] rfl (by (try simp only [List.map_toArray, List.map_cons, List.map_nil]); first | done | rfl | (simp only [List.length_drop, List.length_take]; rfl)) ?_; (with_reducible refine (redpencillaw41_places.calls kj39 a0 a1 0 0 3 true _ ?side1 A43.out).mono ?_); (case side1 => exact GOK_below HG.out (by repeat (first | (with_reducible first | exact HB.out | apply below_alloc | apply pw_below_drewN | apply below_drew1) | exact HB.out))); rintro e w51 ⟨rfl, hb⟩; refine ⟨_, rfl, ?_⟩; have n0_ := Aside0.mk (below_step (by repeat (first | (with_reducible first | exact HB.out | apply below_alloc | apply pw_below_drewN | apply below_drew1) | exact HB.out)) hb); clear HB; have HB := n0_; clear n0_; (try clear hb); (try clear hb2); (try clear hk); (try clear hi)) | (go_at_call 16; (with_reducible refine (redpencillaw41_wide.calls kj39 a0 a1 a4 0 2 false _ ?side1 A45.out).mono ?_); (case side1 => exact GOK_below HG.out (by repeat (first | (with_reducible first | exact HB.out | apply below_alloc | apply pw_below_drewN | apply below_drew1) | exact HB.out))); rintro e w52 ⟨rfl, hb⟩; have n0_ := Aside0.mk (below_step (by repeat (first | (with_reducible first | exact HB.out | apply below_alloc | apply pw_below_drewN | apply below_drew1) | exact HB.out)) hb); clear HB; have HB := n0_; clear n0_; (try clear hb); (try clear hb2); (try clear hk); (try clear hi)))
                              go_ret
                              exact ⟨by first | rfl | (simp [errW_none, errW_some] <;> rfl) | (simp [*, errW_none, errW_some] <;> rfl), by repeat (first | (with_reducible first | exact HB.out | apply below_alloc | apply pw_below_drewN | apply below_drew1) | exact HB.out)⟩
                          · replace c44 := Bool.eq_false_iff.mpr c44
                            subst c44
                            have H1 : (some false) = some r := by rw [if_neg (show ¬ (false = true) by decide)] at H; exact H
                            clear H
                            have H := H1
                            clear H1
                            obtain rfl := Option.some.inj H
                            go_wp2_with (first | ((with_reducible refine gate_callee (f := 14) rfl ?_); refine goesL_ (some 106) rfl rfl Tryd.func14 (by kernel_rfl) rfl #[.string a0, .int .i64 a1, .int .i64 0, .int .i64 0, .int .i64 3] rfl (by (try simp only [List.map_toArray, List.map_cons, List.map_nil]); first | done | rfl | (simp only [List.length_drop, List.length_take]; rfl)) ?_; (with_reducible refine (redpencillaw41_places.calls kj39 a0 a1 0 0 3 false _ ?side1 A43.out).mono ?_); (case side1 => exact GOK_below HG.out (by repeat (first | (with_reducible first | exact HB.out | apply below_alloc | apply pw_below_drewN | apply below_drew1) | exact HB.out))); rintro e w53 ⟨rfl, hb⟩; refine ⟨_, rfl, ?_⟩; have n0_ := Aside0.mk (below_step (by repeat (first | (with_reducible first | exact HB.out | apply below_alloc | apply pw_below_drewN | apply below_drew1) | exact HB.out)) hb); clear HB; have HB := n0_; clear n0_; (try clear hb); (try clear hb2); (try clear hk); (try clear hi)))
                            go_ret
                            exact ⟨by first | rfl | (simp [errW_none, errW_some] <;> rfl) | (simp [*, errW_none, errW_some] <;> rfl), by repeat (first | (with_reducible first | exact HB.out | apply below_alloc | apply pw_below_drewN | apply below_drew1) | exact HB.out)⟩
                        · replace c42 := Bool.eq_false_iff.mpr c42
                          subst c42
                          have H1 : ((redpencillaw41_places.f kj39 a0 a1 0 0 3).bind fun t294 => (if t294 = true then ((redpencillaw41_wide.f kj39 a0 a1 a4 0 3).bind fun t295 => (if t295 = true then ((redpencillaw41_known.f kj39).bind fun t296 => (some t296)) else (some false))) else (some false))) = some r := by rw [if_neg (show ¬ (false = true) by decide)] at H; exact H
                          clear H
                          have H := H1
                          clear H1
                          replace H := Option.bind_eq_some_iff.mp H
                          obtain ⟨t294, A540, H⟩ := H
                          replace H : (if t294 = true then ((redpencillaw41_wide.f kj39 a0 a1 a4 0 3).bind fun t295 => (if t295 = true then ((redpencillaw41_known.f kj39).bind fun t296 => (some t296)) else (some false))) else (some false)) = some r := H
                          have A54 := Aside0.mk A540
                          clear A540
                          by_cases c55 : t294 = true
                          · subst c55
                            have H1 : ((redpencillaw41_wide.f kj39 a0 a1 a4 0 3).bind fun t295 => (if t295 = true then ((redpencillaw41_known.f kj39).bind fun t296 => (some t296)) else (some false))) = some r := by rw [if_pos rfl] at H; exact H
                            clear H
                            have H := H1
                            clear H1
                            replace H := Option.bind_eq_some_iff.mp H
                            obtain ⟨t295, A560, H⟩ := H
                            replace H : (if t295 = true then ((redpencillaw41_known.f kj39).bind fun t296 => (some t296)) else (some false)) = some r := H
                            have A56 := Aside0.mk A560
                            clear A560
                            by_cases c57 : t295 = true
                            · subst c57
                              have H1 : ((redpencillaw41_known.f kj39).bind fun t296 => (some t296)) = some r := by rw [if_pos rfl] at H; exact H
                              clear H
                              have H := H1
                              clear H1
                              replace H := Option.bind_eq_some_iff.mp H
                              obtain ⟨t296, A580, H⟩ := H
                              replace H : (some t296) = some r := H
                              have A58 := Aside0.mk A580
                              clear A580
                              obtain rfl := Option.some.inj H
                              go_wp2_with (first | ((with_reducible refine gate_callee (f := 14) rfl ?_); refine goesL_ (some 106) rfl rfl Tryd.func14 (by kernel_rfl) rfl #[.string a0, .int .i64 a1, .int .i64 0, .int .i64 0, .int .i64 3] rfl (by (try simp only [List.map_toArray, List.map_cons, List.map_nil]); first | done | rfl | (simp only [List.length_drop, List.length_take]; rfl)) ?_; (with_reducible refine (redpencillaw41_places.calls kj39 a0 a1 0 0 3 true _ ?side1 A54.out).mono ?_); (case side1 => exact GOK_below HG.out (by repeat (first | (with_reducible first | exact HB.out | apply below_alloc | apply pw_below_drewN | apply below_drew1) | exact HB.out))); rintro e w59 ⟨rfl, hb⟩; refine ⟨_, rfl, ?_⟩; have n0_ := Aside0.mk (below_step (by repeat (first | (with_reducible first | exact HB.out | apply below_alloc | apply pw_below_drewN | apply below_drew1) | exact HB.out)) hb); clear HB; have HB := n0_; clear n0_; (try clear hb); (try clear hb2); (try clear hk); (try clear hi)) | (go_at_call 16; (with_reducible refine (redpencillaw41_wide.calls kj39 a0 a1 a4 0 3 true _ ?side1 A56.out).mono ?_); (case side1 => exact GOK_below HG.out (by repeat (first | (with_reducible first | exact HB.out | apply below_alloc | apply pw_below_drewN | apply below_drew1) | exact HB.out))); rintro e w60 ⟨rfl, hb⟩; have n0_ := Aside0.mk (below_step (by repeat (first | (with_reducible first | exact HB.out | apply below_alloc | apply pw_below_drewN | apply below_drew1) | exact HB.out)) hb); clear HB; have HB := n0_; clear n0_; (try clear hb); (try clear hb2); (try clear hk); (try clear hi)) | (go_at_call 9; (with_reducible refine (redpencillaw41_known.calls kj39  t296 _ ?side1 A58.out).mono ?_); (case side1 => exact GOK_below HG.out (by repeat (first | (with_reducible first | exact HB.out | apply below_alloc | apply pw_below_drewN | apply below_drew1) | exact HB.out))); rintro e w61 ⟨rfl, hb⟩; have n0_ := Aside0.mk (below_step (by repeat (first | (with_reducible first | exact HB.out | apply below_alloc | apply pw_below_drewN | apply below_drew1) | exact HB.out)) hb); clear HB; have HB := n0_; clear n0_; (try clear hb); (try clear hb2); (try clear hk); (try clear hi)))
                              go_ret
                              exact ⟨by first | rfl | (simp [errW_none, errW_some] <;> rfl) | (simp [*, errW_none, errW_some] <;> rfl), by repeat (first | (with_reducible first | exact HB.out | apply below_alloc | apply pw_below_drewN | apply below_drew1) | exact HB.out)⟩
                            · replace c57 := Bool.eq_false_iff.mpr c57
                              subst c57
                              have H1 : (some false) = some r := by rw [if_neg (show ¬ (false = true) by decide)] at H; exact H
                              clear H
                              have H := H1
                              clear H1
                              obtain rfl := Option.some.inj H
                              go_wp2_with (first | ((with_reducible refine gate_callee (f := 14) rfl ?_); refine goesL_ (some 106) rfl rfl Tryd.func14 (by kernel_rfl) rfl #[.string a0, .int .i64 a1, .int .i64 0, .int .i64 0, .int .i64 3] rfl (by (try simp only [List.map_toArray, List.map_cons, List.map_nil]); first | done | rfl | (simp only [List.length_drop, List.length_take]; rfl)) ?_; (with_reducible refine (redpencillaw41_places.calls kj39 a0 a1 0 0 3 true _ ?side1 A54.out).mono ?_); (case side1 => exact GOK_below HG.out (by repeat (first | (with_reducible first | exact HB.out | apply below_alloc | apply pw_below_drewN | apply below_drew1) | exact HB.out))); rintro e w62 ⟨rfl, hb⟩; refine ⟨_, rfl, ?_⟩; have n0_ := Aside0.mk (below_step (by repeat (first | (with_reducible first | exact HB.out | apply below_alloc | apply pw_below_drewN | apply below_drew1) | exact HB.out)) hb); clear HB; have HB := n0_; clear n0_; (try clear hb); (try clear hb2); (try clear hk); (try clear hi)) | (go_at_call 16; (with_reducible refine (redpencillaw41_wide.calls kj39 a0 a1 a4 0 3 false _ ?side1 A56.out).mono ?_); (case side1 => exact GOK_below HG.out (by repeat (first | (with_reducible first | exact HB.out | apply below_alloc | apply pw_below_drewN | apply below_drew1) | exact HB.out))); rintro e w63 ⟨rfl, hb⟩; have n0_ := Aside0.mk (below_step (by repeat (first | (with_reducible first | exact HB.out | apply below_alloc | apply pw_below_drewN | apply below_drew1) | exact HB.out)) hb); clear HB; have HB := n0_; clear n0_; (try clear hb); (try clear hb2); (try clear hk); (try clear hi)))
                              go_ret
                              exact ⟨by first | rfl | (simp [errW_none, errW_some] <;> rfl) | (simp [*, errW_none, errW_some] <;> rfl), by repeat (first | (with_reducible first | exact HB.out | apply below_alloc | apply pw_below_drewN | apply below_drew1) | exact HB.out)⟩
                          · replace c55 := Bool.eq_false_iff.mpr c55
                            subst c55
                            have H1 : (some false) = some r := by rw [if_neg (show ¬ (false = true) by decide)] at H; exact H
                            clear H
                            have H := H1
                            clear H1
                            obtain rfl := Option.some.inj H
                            go_wp2_with (first | ((with_reducible refine gate_callee (f := 14) rfl ?_); refine goesL_ (some 106) rfl rfl Tryd.func14 (by kernel_rfl) rfl #[.string a0, .int .i64 a1, .int .i64 0, .int .i64 0, .int .i64 3] rfl (by (try simp only [List.map_toArray, List.map_cons, List.map_nil]); first | done | rfl | (simp only [List.length_drop, List.length_take]; rfl)) ?_; (with_reducible refine (redpencillaw41_places.calls kj39 a0 a1 0 0 3 false _ ?side1 A54.out).mono ?_); (case side1 => exact GOK_below HG.out (by repeat (first | (with_reducible first | exact HB.out | apply below_alloc | apply pw_below_drewN | apply below_drew1) | exact HB.out))); rintro e w64 ⟨rfl, hb⟩; refine ⟨_, rfl, ?_⟩; have n0_ := Aside0.mk (below_step (by repeat (first | (with_reducible first | exact HB.out | apply below_alloc | apply pw_below_drewN | apply below_drew1) | exact HB.out)) hb); clear HB; have HB := n0_; clear n0_; (try clear hb); (try clear hb2); (try clear hk); (try clear hi)))
                            go_ret
                            exact ⟨by first | rfl | (simp [errW_none, errW_some] <;> rfl) | (simp [*, errW_none, errW_some] <;> rfl), by repeat (first | (with_reducible first | exact HB.out | apply below_alloc | apply pw_below_drewN | apply below_drew1) | exact HB.out)⟩
                  · replace c39 := Bool.eq_false_iff.mpr c39
                    subst c39
                    have H1 : ((redpencillaw41_place.f kj36 t276 a1).bind fun bt297 => ((redpencillaw41_places.f kj36 a0 a1 bt297.1 bt297.2 0).bind fun t299 => (if t299 = true then (if a4 < 1 then (redpencillaw41_LinesPlaces.j4 kj36 a0 a1 a4 t276 bt297.2 true) else (redpencillaw41_LinesPlaces.j4 kj36 a0 a1 a4 t276 bt297.2 (decide (a4 > 16)))) else (some false)))) = some r := by rw [if_neg (show ¬ (false = true) by decide)] at H; exact H
                    clear H
                    have H := H1
                    clear H1
                    replace H := Option.bind_eq_some_iff.mp H
                    obtain ⟨⟨t297, t298⟩, A650, H⟩ := H
                    replace H : ((redpencillaw41_places.f kj36 a0 a1 t297 t298 0).bind fun t299 => (if t299 = true then (if a4 < 1 then (redpencillaw41_LinesPlaces.j4 kj36 a0 a1 a4 t276 t298 true) else (redpencillaw41_LinesPlaces.j4 kj36 a0 a1 a4 t276 t298 (decide (a4 > 16)))) else (some false))) = some r := H
                    have A65 := Aside0.mk A650
                    clear A650
                    replace H := Option.bind_eq_some_iff.mp H
                    obtain ⟨t299, A660, H⟩ := H
                    replace H : (if t299 = true then (if a4 < 1 then (redpencillaw41_LinesPlaces.j4 kj36 a0 a1 a4 t276 t298 true) else (redpencillaw41_LinesPlaces.j4 kj36 a0 a1 a4 t276 t298 (decide (a4 > 16)))) else (some false)) = some r := H
                    have A66 := Aside0.mk A660
                    clear A660
                    by_cases c67 : t299 = true
                    · subst c67
                      have H1 : (if a4 < 1 then (redpencillaw41_LinesPlaces.j4 kj36 a0 a1 a4 t276 t298 true) else (redpencillaw41_LinesPlaces.j4 kj36 a0 a1 a4 t276 t298 (decide (a4 > 16)))) = some r := by rw [if_pos rfl] at H; exact H
                      clear H
                      have H := H1
                      clear H1
                      have HC68 := Aside0.mk H
                      clear H
                      go_upto_region 21 with (first | ((with_reducible refine gate_callee (f := 18) rfl ?_); refine goesL_ (some 120) rfl rfl Tryd.func18 (by kernel_rfl) rfl #[.slice Ao14 t276.length co14, .int .i64 a1] rfl (by (try simp only [List.map_toArray, List.map_cons, List.map_nil]); first | done | rfl | (simp only [List.length_drop, List.length_take]; rfl)) ?_; (with_reducible refine (redpencillaw41_place.calls kj36 _ _ t276 a1 t297 t298 _ ?side1 ?side2 A65.out).mono ?_); (case side1 => repeat (first | exact (Kd.R_reads' HO_11.out).2.2 | (with_reducible refine Kd.C_alloc ?_ _) | (with_reducible refine Kd.C_drewN ?_ _) | (with_reducible refine Kd.C_drew ?_))); (case side2 => exact (Kd.R_reads' HO_11.out).2.1); rintro e w' ⟨rfl, ⟨nd, rfl⟩⟩; refine ⟨_, rfl, ?_⟩) | ((with_reducible refine gate_callee (f := 14) rfl ?_); refine goesL_ (some 127) rfl rfl Tryd.func14 (by kernel_rfl) rfl #[.string a0, .int .i64 a1, .int .i64 t297, .int .i64 t298, .int .i64 0] rfl (by (try simp only [List.map_toArray, List.map_cons, List.map_nil]); first | done | rfl | (simp only [List.length_drop, List.length_take]; rfl)) ?_; (with_reducible refine (redpencillaw41_places.calls kj36 a0 a1 t297 t298 0 true _ ?side1 A66.out).mono ?_); (case side1 => exact GOK_below HG.out (by repeat (first | (with_reducible first | exact HB.out | apply below_alloc | apply pw_below_drewN | apply below_drew1) | exact HB.out))); rintro e w69 ⟨rfl, hb⟩; refine ⟨_, rfl, ?_⟩; have n0_ := Aside0.mk (Kd.R_below (by (with_reducible repeat (first | apply Kd.R_alloc | apply Kd.R_drewN | apply Kd.R_drew)); exact HO_11.out) hb); have n1_ := Aside0.mk (below_step (by repeat (first | (with_reducible first | exact HB.out | apply below_alloc | apply pw_below_drewN | apply below_drew1) | exact HB.out)) hb); clear HO_11; clear HB; have HO_11 := n0_; have HB := n1_; clear n0_ n1_; (try clear hb); (try clear hb2); (try clear hk); (try clear hi)))
                      (try simp only [Act.put, List.setIfInBounds_toArray, List.set_cons_zero, List.set_cons_succ])
                      go_cut [134] (fun v134 wc => ∃ (kq : Nat) (x134_67 : Bool), v134 = .bool x134_67 ∧ Aside0 (redpencillaw41_LinesPlaces.j4 kq a0 a1 a4 t276 t298 x134_67 = some r) ∧ Aside0 (kq ≤ kj36) ∧ Aside0 (Kd.R (Kd.int .i32) 21 wc w.heap.size (fun _ => True) (.slice Ao14 t276.length co14) t276) ∧ Aside0 (Below w.heap.size w wc))
                      case first =>
                        have H := HC68.out
                        clear HC68
                        by_cases c70 : a4 < 1
                        · rw [if_pos c70] at H
                          have c70b0 : decide (a4 < 1) = true := decide_eq_true c70
                          clear c70
                          (first | rw [c70b0] | (simp only [i64_w, i32_w]; rw [c70b0]) | skip)
                          have H' := Aside0.mk H
                          clear H
                          go_wp2
                          go_meet
                          case rel => exact ⟨_, (true), (by first | rfl | (simp; done) | (simp [*]; done)), H', ⟨by have := HJ11.out; have := HJ23.out; have := HJ36.out; first | omega | exact Nat.le_refl _⟩, ⟨by (with_reducible repeat (first | apply Kd.R_alloc | apply Kd.R_drewN | apply Kd.R_drew)); exact HO_11.out⟩, ⟨by repeat (first | (with_reducible first | exact HB.out | apply below_alloc | apply pw_below_drewN | apply below_drew1) | exact HB.out)⟩⟩
                        · rw [if_neg c70] at H
                          have c70b0 : decide (a4 < 1) = false := decide_eq_false c70
                          clear c70
                          (first | rw [c70b0] | (simp only [i64_w, i32_w]; rw [c70b0]) | skip)
                          have H' := Aside0.mk H
                          clear H
                          go_wp2
                          go_meet
                          case rel => exact ⟨_, (decide (a4 > 16)), (by first | rfl | (simp; done) | (simp [*]; done)), H', ⟨by have := HJ11.out; have := HJ23.out; have := HJ36.out; first | omega | exact Nat.le_refl _⟩, ⟨by (with_reducible repeat (first | apply Kd.R_alloc | apply Kd.R_drewN | apply Kd.R_drew)); exact HO_11.out⟩, ⟨by repeat (first | (with_reducible first | exact HB.out | apply below_alloc | apply pw_below_drewN | apply below_drew1) | exact HB.out)⟩⟩
                      case rest =>
                        clear HC68
                        try clear c1
                        try clear c2
                        try clear p2
                        try clear q2
                        try clear hx2
                        try clear c3
                        try clear c4
                        try clear c5
                        try clear c6
                        try clear c6b0
                        try clear c6b1
                        try clear c7
                        try clear c9
                        try clear c10
                        try clear c10b0
                        try clear c10b1
                        try clear c13
                        try clear c14
                        try clear c15
                        try clear c16
                        try clear c16b0
                        try clear c17
                        try clear c17b0
                        try clear c18
                        try clear c19
                        try clear c19b0
                        try clear c21
                        try clear c21b0
                        try clear c22
                        try clear c22b0
                        try clear c25
                        try clear c27
                        try clear c28
                        try clear p28
                        try clear q28
                        try clear hx28
                        try clear c32
                        try clear c38
                        try clear c38b0
                        try clear c39
                        try clear c41
                        try clear c41b0
                        try clear c42
                        try clear c44
                        try clear c46
                        try clear c55
                        try clear c57
                        try clear c67
                        try clear c70
                        try clear c70b0
                        try clear hx287_0
                        try clear p2
                        try clear p28
                        try clear p287
                        try clear q2
                        try clear q28
                        try clear q287
                        obtain ⟨kq, x134_67, rfl, HA, HJ67, HO_11, HB⟩ := hcut
                        cases kq with
                        | zero => exact absurd HA.out (by simp [redpencillaw41_LinesPlaces.j4])
                        | succ kj67 =>
                          have H := HA.out
                          clear HA
                          simp only [redpencillaw41_LinesPlaces.j4] at H
                          by_cases c71 : x134_67 = true
                          · subst c71
                            have H1 : ((redpencillaw41_wide.f kj67 a0 a1 a4 0 2).bind fun t300 => (if t300 = true then ((redpencillaw41_known.f kj67).bind fun t301 => (some t301)) else (some false))) = some r := by rw [if_pos rfl] at H; exact H
                            clear H
                            have H := H1
                            clear H1
                            replace H := Option.bind_eq_some_iff.mp H
                            obtain ⟨t300, A720, H⟩ := H
                            replace H : (if t300 = true then ((redpencillaw41_known.f kj67).bind fun t301 => (some t301)) else (some false)) = some r := H
                            have A72 := Aside0.mk A720
                            clear A720
                            by_cases c73 : t300 = true
                            · subst c73
                              have H1 : ((redpencillaw41_known.f kj67).bind fun t301 => (some t301)) = some r := by rw [if_pos rfl] at H; exact H
                              clear H
                              have H := H1
                              clear H1
                              replace H := Option.bind_eq_some_iff.mp H
                              obtain ⟨t301, A740, H⟩ := H
                              replace H : (some t301) = some r := H
                              have A74 := Aside0.mk A740
                              clear A740
                              obtain rfl := Option.some.inj H
                              go_wp2_with (first | ((with_reducible refine gate_callee (f := 16) rfl ?_); refine goesL_ (some 138) rfl rfl Tryd.func16 (by kernel_rfl) rfl #[.string a0, .int .i64 a1, .int .i64 a4, .int .i64 0, .int .i64 2] rfl (by (try simp only [List.map_toArray, List.map_cons, List.map_nil]); first | done | rfl | (simp only [List.length_drop, List.length_take]; rfl)) ?_; (with_reducible refine (redpencillaw41_wide.calls kj67 a0 a1 a4 0 2 true _ ?side1 A72.out).mono ?_); (case side1 => exact GOK_below HG.out (by repeat (first | (with_reducible first | exact HB.out | apply below_alloc | apply pw_below_drewN | apply below_drew1) | exact HB.out))); rintro e w75 ⟨rfl, hb⟩; refine ⟨_, rfl, ?_⟩; have n0_ := Aside0.mk (Kd.R_below (by (with_reducible repeat (first | apply Kd.R_alloc | apply Kd.R_drewN | apply Kd.R_drew)); exact HO_11.out) hb); have n1_ := Aside0.mk (below_step (by repeat (first | (with_reducible first | exact HB.out | apply below_alloc | apply pw_below_drewN | apply below_drew1) | exact HB.out)) hb); clear HO_11; clear HB; have HO_11 := n0_; have HB := n1_; clear n0_ n1_; (try clear hb); (try clear hb2); (try clear hk); (try clear hi)) | (go_at_call 9; (with_reducible refine (redpencillaw41_known.calls kj67  t301 _ ?side1 A74.out).mono ?_); (case side1 => exact GOK_below HG.out (by repeat (first | (with_reducible first | exact HB.out | apply below_alloc | apply pw_below_drewN | apply below_drew1) | exact HB.out))); rintro e w76 ⟨rfl, hb⟩; have n0_ := Aside0.mk (Kd.R_below (by (with_reducible repeat (first | apply Kd.R_alloc | apply Kd.R_drewN | apply Kd.R_drew)); exact HO_11.out) hb); have n1_ := Aside0.mk (below_step (by repeat (first | (with_reducible first | exact HB.out | apply below_alloc | apply pw_below_drewN | apply below_drew1) | exact HB.out)) hb); clear HO_11; clear HB; have HO_11 := n0_; have HB := n1_; clear n0_ n1_; (try clear hb); (try clear hb2); (try clear hk); (try clear hi)))
                              go_ret
                              exact ⟨by first | rfl | (simp [errW_none, errW_some] <;> rfl) | (simp [*, errW_none, errW_some] <;> rfl), by repeat (first | (with_reducible first | exact HB.out | apply below_alloc | apply pw_below_drewN | apply below_drew1) | exact HB.out)⟩
                            · replace c73 := Bool.eq_false_iff.mpr c73
                              subst c73
                              have H1 : (some false) = some r := by rw [if_neg (show ¬ (false = true) by decide)] at H; exact H
                              clear H
                              have H := H1
                              clear H1
                              obtain rfl := Option.some.inj H
                              go_wp2_with (first | ((with_reducible refine gate_callee (f := 16) rfl ?_); refine goesL_ (some 138) rfl rfl Tryd.func16 (by kernel_rfl) rfl #[.string a0, .int .i64 a1, .int .i64 a4, .int .i64 0, .int .i64 2] rfl (by (try simp only [List.map_toArray, List.map_cons, List.map_nil]); first | done | rfl | (simp only [List.length_drop, List.length_take]; rfl)) ?_; (with_reducible refine (redpencillaw41_wide.calls kj67 a0 a1 a4 0 2 false _ ?side1 A72.out).mono ?_); (case side1 => exact GOK_below HG.out (by repeat (first | (with_reducible first | exact HB.out | apply below_alloc | apply pw_below_drewN | apply below_drew1) | exact HB.out))); rintro e w77 ⟨rfl, hb⟩; refine ⟨_, rfl, ?_⟩; have n0_ := Aside0.mk (Kd.R_below (by (with_reducible repeat (first | apply Kd.R_alloc | apply Kd.R_drewN | apply Kd.R_drew)); exact HO_11.out) hb); have n1_ := Aside0.mk (below_step (by repeat (first | (with_reducible first | exact HB.out | apply below_alloc | apply pw_below_drewN | apply below_drew1) | exact HB.out)) hb); clear HO_11; clear HB; have HO_11 := n0_; have HB := n1_; clear n0_ n1_; (try clear hb); (try clear hb2); (try clear hk); (try clear hi)))
                              go_ret
                              exact ⟨by first | rfl | (simp [errW_none, errW_some] <;> rfl) | (simp [*, errW_none, errW_some] <;> rfl), by repeat (first | (with_reducible first | exact HB.out | apply below_alloc | apply pw_below_drewN | apply below_drew1) | exact HB.out)⟩
                          · replace c71 := Bool.eq_false_iff.mpr c71
                            subst c71
                            have H1 : (redpencillaw41_LinesPlaces.l0 kj67 a0 a1 a4 t276 0 (wrap64 (a1 - t298))) = some r := by rw [if_neg (show ¬ (false = true) by decide)] at H; exact H
                            clear H
                            have H := H1
                            clear H1
                            have H' := Aside0.mk H
                            clear H
                            go_wp2
                            go_loopg [18, 19] kj67 (fun kq v18 v19 w' => ∃ (x18_5 : Int) (x19_5 : Int), v18 = .int .i64 x18_5 ∧ v19 = .int .i64 x19_5 ∧ Aside0 (redpencillaw41_LinesPlaces.l0 kq a0 a1 a4 t276 x18_5 x19_5 = some r) ∧ Aside0 (kq ≤ kj67) ∧ Aside0 (Kd.R (Kd.int .i32) 21 w' w.heap.size (fun _ => True) (.slice Ao14 t276.length co14) t276) ∧ Aside0 (Below w.heap.size w w'))
                            case atStart => exact ⟨(0), (wrap64 (a1 - t298)), (by first | rfl | (simp; done) | (simp [*]; done)), (by first | rfl | (simp; done) | (simp [*]; done)), H', ⟨Nat.le_refl _⟩, ⟨by (with_reducible repeat (first | apply Kd.R_alloc | apply Kd.R_drewN | apply Kd.R_drew)); exact HO_11.out⟩, ⟨by repeat (first | (with_reducible first | exact HB.out | apply below_alloc | apply pw_below_drewN | apply below_drew1) | exact HB.out)⟩⟩
                            case round =>
                              clear H'
                              try clear c1
                              try clear c2
                              try clear p2
                              try clear q2
                              try clear hx2
                              try clear c3
                              try clear c4
                              try clear c5
                              try clear c6
                              try clear c6b0
                              try clear c6b1
                              try clear p6
                              try clear c7
                              try clear c9
                              try clear c10
                              try clear c10b0
                              try clear c10b1
                              try clear c13
                              try clear c14
                              try clear c15
                              try clear c16
                              try clear c16b0
                              try clear c17
                              try clear c17b0
                              try clear c18
                              try clear c19
                              try clear c19b0
                              try clear c21
                              try clear c21b0
                              try clear c22
                              try clear c22b0
                              try clear c25
                              try clear c27
                              try clear c28
                              try clear p28
                              try clear q28
                              try clear hx28
                              try clear c32
                              try clear c38
                              try clear c38b0
                              try clear c39
                              try clear c41
                              try clear c41b0
                              try clear c42
                              try clear c44
                              try clear c46
                              try clear c55
                              try clear c57
                              try clear p64
                              try clear c67
                              try clear c70
                              try clear c70b0
                              try clear c71
                              try clear c73
                              try clear hx287_0
                              try clear p2
                              try clear p28
                              try clear p287
                              try clear q2
                              try clear q28
                              try clear q287
                              obtain ⟨x18_5, x19_5, rfl, rfl, HA, HK5, HO_11, HB⟩ := hrel
                              cases gk with
                              | zero => exact absurd HA.out (by simp [redpencillaw41_LinesPlaces.l0])
                              | succ k5 =>
                                have H := HA.out
                                clear HA
                                simp only [redpencillaw41_LinesPlaces.l0] at H
                                by_cases c78 : x19_5 < a1
                                · rw [if_pos c78] at H
                                  have c78b0 : decide (x19_5 < a1) = true := decide_eq_true c78
                                  clear c78
                                  have H' := Aside0.mk H
                                  clear H
                                  go_wp2
                                  go_loopg [18] k5 (fun kq v18 w' => ∃ (x18_6 : Int), v18 = .int .i64 x18_6 ∧ Aside0 (redpencillaw41_LinesPlaces.l1 kq a0 a1 a4 t276 x18_6 x19_5 = some r) ∧ Aside0 (kq ≤ k5) ∧ Aside0 (Kd.R (Kd.int .i32) 21 w' w.heap.size (fun _ => True) (.slice Ao14 t276.length co14) t276) ∧ Aside0 (Below w.heap.size w w'))
                                  case atStart => exact ⟨(wrap64 (x18_5 + 1)), (by first | rfl | (simp; done) | (simp [*]; done)), H', ⟨Nat.le_refl _⟩, ⟨by (with_reducible repeat (first | apply Kd.R_alloc | apply Kd.R_drewN | apply Kd.R_drew)); exact HO_11.out⟩, ⟨by repeat (first | (with_reducible first | exact HB.out | apply below_alloc | apply pw_below_drewN | apply below_drew1) | exact HB.out)⟩⟩
                                  case round =>
                                    clear H'
                                    try clear c1
                                    try clear c2
                                    try clear p2
                                    try clear q2
                                    try clear hx2
                                    try clear c3
                                    try clear c4
                                    try clear c5
                                    try clear c6
                                    try clear c6b0
                                    try clear c6b1
                                    try clear p6
                                    try clear c7
                                    try clear c9
                                    try clear c10
                                    try clear c10b0
                                    try clear c10b1
                                    try clear c13
                                    try clear c14
                                    try clear c15
                                    try clear c16
                                    try clear c16b0
                                    try clear c17
                                    try clear c17b0
                                    try clear c18
                                    try clear c19
                                    try clear c19b0
                                    try clear c21
                                    try clear c21b0
                                    try clear c22
                                    try clear c22b0
                                    try clear c25
                                    try clear c27
                                    try clear c28
                                    try clear p28
                                    try clear q28
                                    try clear hx28
                                    try clear c32
                                    try clear c38
                                    try clear c38b0
                                    try clear c39
                                    try clear c41
                                    try clear c41b0
                                    try clear c42
                                    try clear c44
                                    try clear c46
                                    try clear c55
                                    try clear c57
                                    try clear p64
                                    try clear c67
                                    try clear c70
                                    try clear c70b0
                                    try clear c71
                                    try clear c73
                                    try clear c78
                                    try clear c78b0
                                    try clear hx287_0
                                    try clear p2
                                    try clear p28
                                    try clear p287
                                    try clear p6
                                    try clear p64
                                    try clear q2
                                    try clear q28
                                    try clear q287
                                    obtain ⟨x18_6, rfl, HA, HK6, HO_11, HB⟩ := hrel
                                    cases gk with
                                    | zero => exact absurd HA.out (by simp [redpencillaw41_LinesPlaces.l1])
                                    | succ k6 =>
                                      have H := HA.out
                                      clear HA
                                      simp only [redpencillaw41_LinesPlaces.l1] at H
                                      by_cases c79 : 0 ≤ x19_5
                                      · rw [if_pos c79] at H
                                        have c79b0 : decide (0 ≤ x19_5) = true := decide_eq_true c79
                                        clear c79
                                        by_cases c80 : x19_5 < (t276.length : Int)
                                        · rw [if_pos c80] at H
                                          have c80b0 : decide (x19_5 < (t276.length : Int)) = true := decide_eq_true c80
                                          clear c80
                                          by_cases c81 : (rd t276 x19_5) = 9
                                          · rw [if_pos c81] at H
                                            have c81b0 : ((rd t276 x19_5) == 9) = true := beq_iff_eq.mpr c81
                                            have c81b1 : ((rd t276 x19_5) != 9) = false := bne_eq_false_iff_eq.mpr c81
                                            clear c81
                                            by_cases c82 : a4 = 0
                                            · rw [if_pos c82] at H
                                              exact absurd H (by simp)
                                            · rw [if_neg c82] at H
                                              have c82b0 : (a4 == 0) = false := beq_eq_false_iff_ne.mpr c82
                                              have c82b1 : (a4 != 0) = true := bne_iff_ne.mpr c82
                                              by_cases c83 : (Int.tmod x18_6 a4) = 0
                                              · rw [if_pos c83] at H
                                                have c83b0 : ((Int.tmod x18_6 a4) == 0) = true := beq_iff_eq.mpr c83
                                                have c83b1 : ((Int.tmod x18_6 a4) != 0) = false := bne_eq_false_iff_eq.mpr c83
                                                clear c83
                                                have H' := Aside0.mk H
                                                clear H
                                                have p304 : 0 ≤ (x19_5 : Int) := of_decide_eq_true (by first | (with_reducible assumption) | assumption)
                                                have q304 : x19_5 < (t276.length : Int) := of_decide_eq_true (by first | (with_reducible assumption) | assumption)
                                                obtain ⟨ad304, e304, hx304_0⟩ := Kd.at_int (Kd.R_reads' HO_11.out).2.2 x19_5 p304 q304
                                                cases e304
                                                replace p304 := eq_true p304
                                                replace q304 := eq_true q304
                                                go_wp2
                                                go_roundg k6
                                                case measure => have := HJ11.out; have := HJ23.out; have := HJ36.out; have := HJ67.out; have := HK5.out; have := HK6.out; omega
                                                case rel => exact ⟨(x18_6), (wrap64 (x19_5 + 1)), (by first | rfl | (simp; done) | (simp [*]; done)), (by first | rfl | (simp; done) | (simp [*]; done)), H', ⟨by have := HJ11.out; have := HJ23.out; have := HJ36.out; have := HJ67.out; have := HK5.out; have := HK6.out; omega⟩, ⟨by (with_reducible repeat (first | apply Kd.R_alloc | apply Kd.R_drewN | apply Kd.R_drew)); exact HO_11.out⟩, ⟨by repeat (first | (with_reducible first | exact HB.out | apply below_alloc | apply pw_below_drewN | apply below_drew1) | exact HB.out)⟩⟩
                                              · rw [if_neg c83] at H
                                                have c83b0 : ((Int.tmod x18_6 a4) == 0) = false := beq_eq_false_iff_ne.mpr c83
                                                have c83b1 : ((Int.tmod x18_6 a4) != 0) = true := bne_iff_ne.mpr c83
                                                have H' := Aside0.mk H
                                                clear H
                                                have p304 : 0 ≤ (x19_5 : Int) := of_decide_eq_true (by first | (with_reducible assumption) | assumption)
                                                have q304 : x19_5 < (t276.length : Int) := of_decide_eq_true (by first | (with_reducible assumption) | assumption)
                                                obtain ⟨ad304, e304, hx304_0⟩ := Kd.at_int (Kd.R_reads' HO_11.out).2.2 x19_5 p304 q304
                                                cases e304
                                                replace p304 := eq_true p304
                                                replace q304 := eq_true q304
                                                go_wp2
                                                go_roundg k6
                                                case measure => have := HJ11.out; have := HJ23.out; have := HJ36.out; have := HJ67.out; have := HK5.out; have := HK6.out; omega
                                                case rel => exact ⟨(wrap64 (x18_6 + 1)), (by first | rfl | (simp; done) | (simp [*]; done)), H', ⟨by have := HJ11.out; have := HJ23.out; have := HJ36.out; have := HJ67.out; have := HK5.out; have := HK6.out; omega⟩, ⟨by (with_reducible repeat (first | apply Kd.R_alloc | apply Kd.R_drewN | apply Kd.R_drew)); exact HO_11.out⟩, ⟨by repeat (first | (with_reducible first | exact HB.out | apply below_alloc | apply pw_below_drewN | apply below_drew1) | exact HB.out)⟩⟩
                                          · rw [if_neg c81] at H
                                            have c81b0 : ((rd t276 x19_5) == 9) = false := beq_eq_false_iff_ne.mpr c81
                                            have c81b1 : ((rd t276 x19_5) != 9) = true := bne_iff_ne.mpr c81
                                            have H' := Aside0.mk H
                                            clear H
                                            have p304 : 0 ≤ (x19_5 : Int) := of_decide_eq_true (by first | (with_reducible assumption) | assumption)
                                            have q304 : x19_5 < (t276.length : Int) := of_decide_eq_true (by first | (with_reducible assumption) | assumption)
                                            obtain ⟨ad304, e304, hx304_0⟩ := Kd.at_int (Kd.R_reads' HO_11.out).2.2 x19_5 p304 q304
                                            cases e304
                                            replace p304 := eq_true p304
                                            replace q304 := eq_true q304
                                            go_wp2
                                            go_roundg k6
                                            case measure => have := HJ11.out; have := HJ23.out; have := HJ36.out; have := HJ67.out; have := HK5.out; have := HK6.out; omega
                                            case rel => exact ⟨(x18_6), (wrap64 (x19_5 + 1)), (by first | rfl | (simp; done) | (simp [*]; done)), (by first | rfl | (simp; done) | (simp [*]; done)), H', ⟨by have := HJ11.out; have := HJ23.out; have := HJ36.out; have := HJ67.out; have := HK5.out; have := HK6.out; omega⟩, ⟨by (with_reducible repeat (first | apply Kd.R_alloc | apply Kd.R_drewN | apply Kd.R_drew)); exact HO_11.out⟩, ⟨by repeat (first | (with_reducible first | exact HB.out | apply below_alloc | apply pw_below_drewN | apply below_drew1) | exact HB.out)⟩⟩
                                        · rw [if_neg c80] at H
                                          exact absurd H (by simp)
                                      · rw [if_neg c79] at H
                                        exact absurd H (by simp)
                                · rw [if_neg c78] at H
                                  have c78b0 : decide (x19_5 < a1) = false := decide_eq_false c78
                                  clear c78
                                  replace H := Option.bind_eq_some_iff.mp H
                                  obtain ⟨t302, A840, H⟩ := H
                                  replace H : (if t302 = true then ((redpencillaw41_known.f k5).bind fun t303 => (some t303)) else (some false)) = some r := H
                                  have A84 := Aside0.mk A840
                                  clear A840
                                  by_cases c85 : t302 = true
                                  · subst c85
                                    have H1 : ((redpencillaw41_known.f k5).bind fun t303 => (some t303)) = some r := by rw [if_pos rfl] at H; exact H
                                    clear H
                                    have H := H1
                                    clear H1
                                    replace H := Option.bind_eq_some_iff.mp H
                                    obtain ⟨t303, A860, H⟩ := H
                                    replace H : (some t303) = some r := H
                                    have A86 := Aside0.mk A860
                                    clear A860
                                    obtain rfl := Option.some.inj H
                                    go_wp2_with (first | ((with_reducible refine gate_callee (f := 16) rfl ?_); refine goesL_ (some 169) rfl rfl Tryd.func16 (by kernel_rfl) rfl #[.string a0, .int .i64 a1, .int .i64 a4, .int .i64 x18_5, .int .i64 0] rfl (by (try simp only [List.map_toArray, List.map_cons, List.map_nil]); first | done | rfl | (simp only [List.length_drop, List.length_take]; rfl)) ?_; (with_reducible refine (redpencillaw41_wide.calls k5 a0 a1 a4 x18_5 0 true _ ?side1 A84.out).mono ?_); (case side1 => exact GOK_below HG.out (by repeat (first | (with_reducible first | exact HB.out | apply below_alloc | apply pw_below_drewN | apply below_drew1) | exact HB.out))); rintro e w87 ⟨rfl, hb⟩; refine ⟨_, rfl, ?_⟩; have n0_ := Aside0.mk (Kd.R_below (by (with_reducible repeat (first | apply Kd.R_alloc | apply Kd.R_drewN | apply Kd.R_drew)); exact HO_11.out) hb); have n1_ := Aside0.mk (below_step (by repeat (first | (with_reducible first | exact HB.out | apply below_alloc | apply pw_below_drewN | apply below_drew1) | exact HB.out)) hb); clear HO_11; clear HB; have HO_11 := n0_; have HB := n1_; clear n0_ n1_; (try clear hb); (try clear hb2); (try clear hk); (try clear hi)) | (go_at_call 9; (with_reducible refine (redpencillaw41_known.calls k5  t303 _ ?side1 A86.out).mono ?_); (case side1 => exact GOK_below HG.out (by repeat (first | (with_reducible first | exact HB.out | apply below_alloc | apply pw_below_drewN | apply below_drew1) | exact HB.out))); rintro e w88 ⟨rfl, hb⟩; have n0_ := Aside0.mk (Kd.R_below (by (with_reducible repeat (first | apply Kd.R_alloc | apply Kd.R_drewN | apply Kd.R_drew)); exact HO_11.out) hb); have n1_ := Aside0.mk (below_step (by repeat (first | (with_reducible first | exact HB.out | apply below_alloc | apply pw_below_drewN | apply below_drew1) | exact HB.out)) hb); clear HO_11; clear HB; have HO_11 := n0_; have HB := n1_; clear n0_ n1_; (try clear hb); (try clear hb2); (try clear hk); (try clear hi)))
                                    go_ret
                                    exact ⟨by first | rfl | (simp [errW_none, errW_some] <;> rfl) | (simp [*, errW_none, errW_some] <;> rfl), by repeat (first | (with_reducible first | exact HB.out | apply below_alloc | apply pw_below_drewN | apply below_drew1) | exact HB.out)⟩
                                  · replace c85 := Bool.eq_false_iff.mpr c85
                                    subst c85
                                    have H1 : (some false) = some r := by rw [if_neg (show ¬ (false = true) by decide)] at H; exact H
                                    clear H
                                    have H := H1
                                    clear H1
                                    obtain rfl := Option.some.inj H
                                    go_wp2_with (first | ((with_reducible refine gate_callee (f := 16) rfl ?_); refine goesL_ (some 169) rfl rfl Tryd.func16 (by kernel_rfl) rfl #[.string a0, .int .i64 a1, .int .i64 a4, .int .i64 x18_5, .int .i64 0] rfl (by (try simp only [List.map_toArray, List.map_cons, List.map_nil]); first | done | rfl | (simp only [List.length_drop, List.length_take]; rfl)) ?_; (with_reducible refine (redpencillaw41_wide.calls k5 a0 a1 a4 x18_5 0 false _ ?side1 A84.out).mono ?_); (case side1 => exact GOK_below HG.out (by repeat (first | (with_reducible first | exact HB.out | apply below_alloc | apply pw_below_drewN | apply below_drew1) | exact HB.out))); rintro e w89 ⟨rfl, hb⟩; refine ⟨_, rfl, ?_⟩; have n0_ := Aside0.mk (Kd.R_below (by (with_reducible repeat (first | apply Kd.R_alloc | apply Kd.R_drewN | apply Kd.R_drew)); exact HO_11.out) hb); have n1_ := Aside0.mk (below_step (by repeat (first | (with_reducible first | exact HB.out | apply below_alloc | apply pw_below_drewN | apply below_drew1) | exact HB.out)) hb); clear HO_11; clear HB; have HO_11 := n0_; have HB := n1_; clear n0_ n1_; (try clear hb); (try clear hb2); (try clear hk); (try clear hi)))
                                    go_ret
                                    exact ⟨by first | rfl | (simp [errW_none, errW_some] <;> rfl) | (simp [*, errW_none, errW_some] <;> rfl), by repeat (first | (with_reducible first | exact HB.out | apply below_alloc | apply pw_below_drewN | apply below_drew1) | exact HB.out)⟩
                    · replace c67 := Bool.eq_false_iff.mpr c67
                      subst c67
                      have H1 : (some false) = some r := by rw [if_neg (show ¬ (false = true) by decide)] at H; exact H
                      clear H
                      have H := H1
                      clear H1
                      obtain rfl := Option.some.inj H
                      go_wp2_with (first | ((with_reducible refine gate_callee (f := 18) rfl ?_); refine goesL_ (some 120) rfl rfl Tryd.func18 (by kernel_rfl) rfl #[.slice Ao14 t276.length co14, .int .i64 a1] rfl (by (try simp only [List.map_toArray, List.map_cons, List.map_nil]); first | done | rfl | (simp only [List.length_drop, List.length_take]; rfl)) ?_; (with_reducible refine (redpencillaw41_place.calls kj36 _ _ t276 a1 t297 t298 _ ?side1 ?side2 A65.out).mono ?_); (case side1 => repeat (first | exact (Kd.R_reads' HO_11.out).2.2 | (with_reducible refine Kd.C_alloc ?_ _) | (with_reducible refine Kd.C_drewN ?_ _) | (with_reducible refine Kd.C_drew ?_))); (case side2 => exact (Kd.R_reads' HO_11.out).2.1); rintro e w' ⟨rfl, ⟨nd, rfl⟩⟩; refine ⟨_, rfl, ?_⟩) | ((with_reducible refine gate_callee (f := 14) rfl ?_); refine goesL_ (some 127) rfl rfl Tryd.func14 (by kernel_rfl) rfl #[.string a0, .int .i64 a1, .int .i64 t297, .int .i64 t298, .int .i64 0] rfl (by (try simp only [List.map_toArray, List.map_cons, List.map_nil]); first | done | rfl | (simp only [List.length_drop, List.length_take]; rfl)) ?_; (with_reducible refine (redpencillaw41_places.calls kj36 a0 a1 t297 t298 0 false _ ?side1 A66.out).mono ?_); (case side1 => exact GOK_below HG.out (by repeat (first | (with_reducible first | exact HB.out | apply below_alloc | apply pw_below_drewN | apply below_drew1) | exact HB.out))); rintro e w90 ⟨rfl, hb⟩; refine ⟨_, rfl, ?_⟩; have n0_ := Aside0.mk (Kd.R_below (by (with_reducible repeat (first | apply Kd.R_alloc | apply Kd.R_drewN | apply Kd.R_drew)); exact HO_11.out) hb); have n1_ := Aside0.mk (below_step (by repeat (first | (with_reducible first | exact HB.out | apply below_alloc | apply pw_below_drewN | apply below_drew1) | exact HB.out)) hb); clear HO_11; clear HB; have HO_11 := n0_; have HB := n1_; clear n0_ n1_; (try clear hb); (try clear hb2); (try clear hk); (try clear hi)))
                      go_ret
                      exact ⟨by first | rfl | (simp [errW_none, errW_some] <;> rfl) | (simp [*, errW_none, errW_some] <;> rfl), by repeat (first | (with_reducible first | exact HB.out | apply below_alloc | apply pw_below_drewN | apply below_drew1) | exact HB.out)⟩
    · rw [if_neg c10] at H
      have c10b0 : (t277 == 0) = false := beq_eq_false_iff_ne.mpr c10
      have c10b1 : (t277 != 0) = true := bne_iff_ne.mpr c10
      replace H := Option.bind_eq_some_iff.mp H
      obtain ⟨t280, A910, H⟩ := H
      replace H : (if t280 = true then ((redpencillaw41_at.f k a0 a2 a3 0 t277).bind fun t281 => (if t281 = true then ((redpencillaw41_wide.f k a0 a1 a4 0 t277).bind fun t282 => (if t282 = true then ((redpencillaw41_known.f k).bind fun t283 => (some t283)) else (some false))) else (some false))) else (some false)) = some r := H
      have A91 := Aside0.mk A910
      clear A910
      by_cases c92 : t280 = true
      · subst c92
        have H1 : ((redpencillaw41_at.f k a0 a2 a3 0 t277).bind fun t281 => (if t281 = true then ((redpencillaw41_wide.f k a0 a1 a4 0 t277).bind fun t282 => (if t282 = true then ((redpencillaw41_known.f k).bind fun t283 => (some t283)) else (some false))) else (some false))) = some r := by rw [if_pos rfl] at H; exact H
        clear H
        have H := H1
        clear H1
        replace H := Option.bind_eq_some_iff.mp H
        obtain ⟨t281, A930, H⟩ := H
        replace H : (if t281 = true then ((redpencillaw41_wide.f k a0 a1 a4 0 t277).bind fun t282 => (if t282 = true then ((redpencillaw41_known.f k).bind fun t283 => (some t283)) else (some false))) else (some false)) = some r := H
        have A93 := Aside0.mk A930
        clear A930
        by_cases c94 : t281 = true
        · subst c94
          have H1 : ((redpencillaw41_wide.f k a0 a1 a4 0 t277).bind fun t282 => (if t282 = true then ((redpencillaw41_known.f k).bind fun t283 => (some t283)) else (some false))) = some r := by rw [if_pos rfl] at H; exact H
          clear H
          have H := H1
          clear H1
          replace H := Option.bind_eq_some_iff.mp H
          obtain ⟨t282, A950, H⟩ := H
          replace H : (if t282 = true then ((redpencillaw41_known.f k).bind fun t283 => (some t283)) else (some false)) = some r := H
          have A95 := Aside0.mk A950
          clear A950
          by_cases c96 : t282 = true
          · subst c96
            have H1 : ((redpencillaw41_known.f k).bind fun t283 => (some t283)) = some r := by rw [if_pos rfl] at H; exact H
            clear H
            have H := H1
            clear H1
            replace H := Option.bind_eq_some_iff.mp H
            obtain ⟨t283, A970, H⟩ := H
            replace H : (some t283) = some r := H
            have A97 := Aside0.mk A970
            clear A970
            obtain rfl := Option.some.inj H
            go_enter Tryd.func4, Tryd.ntmps4
            go_wp2_with (first | ((with_reducible refine gate_callee (f := 10) rfl ?_); refine goesL_ (some 26) rfl rfl Tryd.func10 (by kernel_rfl) rfl #[.string a0] rfl (by (try simp only [List.map_toArray, List.map_cons, List.map_nil]); first | done | rfl | (simp only [List.length_drop, List.length_take]; rfl)) ?_; (with_reducible refine (runes_Decode.calls a0 t276 t277 _ ?side1 A9.out).mono ?_); (case side1 => exact GOK_below HG.out (by repeat (first | (with_reducible first | exact HB.out | apply below_alloc | apply pw_below_drewN | apply below_drew1) | exact HB.out))); rintro e w98 ⟨v278, rfl, ho0, hb⟩; refine ⟨_, rfl, ?_⟩; have n0_ := Aside0.mk (Kd.R_lower ho0 (below_size (by repeat (first | (with_reducible first | exact HB.out | apply below_alloc | apply pw_below_drewN | apply below_drew1) | exact HB.out)))); have n1_ := Aside0.mk (below_step (by repeat (first | (with_reducible first | exact HB.out | apply below_alloc | apply pw_below_drewN | apply below_drew1) | exact HB.out)) hb); clear HB; have HO279 := n0_; have HB := n1_; clear n0_ n1_; (try clear hb); (try clear hb2); (try clear hk); (try clear hi); (try clear ho0)) | ((with_reducible refine gate_callee (f := 14) rfl ?_); refine goesL_ (some 35) rfl rfl Tryd.func14 (by kernel_rfl) rfl #[.string a0, .int .i64 a1, .int .i64 0, .int .i64 0, .int .i64 t277] rfl (by (try simp only [List.map_toArray, List.map_cons, List.map_nil]); first | done | rfl | (simp only [List.length_drop, List.length_take]; rfl)) ?_; (with_reducible refine (redpencillaw41_places.calls k a0 a1 0 0 t277 true _ ?side1 A91.out).mono ?_); (case side1 => exact GOK_below HG.out (by repeat (first | (with_reducible first | exact HB.out | apply below_alloc | apply pw_below_drewN | apply below_drew1) | exact HB.out))); rintro e w99 ⟨rfl, hb⟩; refine ⟨_, rfl, ?_⟩; have n0_ := Aside0.mk (Kd.R_below (by (with_reducible repeat (first | apply Kd.R_alloc | apply Kd.R_drewN | apply Kd.R_drew)); exact HO279.out) hb); have n1_ := Aside0.mk (below_step (by repeat (first | (with_reducible first | exact HB.out | apply below_alloc | apply pw_below_drewN | apply below_drew1) | exact HB.out)) hb); clear HO279; clear HB; have HO279 := n0_; have HB := n1_; clear n0_ n1_; (try clear hb); (try clear hb2); (try clear hk); (try clear hi)) | (go_at_call 15; (with_reducible refine (redpencillaw41_at.calls k a0 a2 a3 0 t277 true _ ?side1 A93.out).mono ?_); (case side1 => exact GOK_below HG.out (by repeat (first | (with_reducible first | exact HB.out | apply below_alloc | apply pw_below_drewN | apply below_drew1) | exact HB.out))); rintro e w100 ⟨rfl, hb⟩; have n0_ := Aside0.mk (Kd.R_below (by (with_reducible repeat (first | apply Kd.R_alloc | apply Kd.R_drewN | apply Kd.R_drew)); exact HO279.out) hb); have n1_ := Aside0.mk (below_step (by repeat (first | (with_reducible first | exact HB.out | apply below_alloc | apply pw_below_drewN | apply below_drew1) | exact HB.out)) hb); clear HO279; clear HB; have HO279 := n0_; have HB := n1_; clear n0_ n1_; (try clear hb); (try clear hb2); (try clear hk); (try clear hi)) | (go_at_call 16; (with_reducible refine (redpencillaw41_wide.calls k a0 a1 a4 0 t277 true _ ?side1 A95.out).mono ?_); (case side1 => exact GOK_below HG.out (by repeat (first | (with_reducible first | exact HB.out | apply below_alloc | apply pw_below_drewN | apply below_drew1) | exact HB.out))); rintro e w101 ⟨rfl, hb⟩; have n0_ := Aside0.mk (Kd.R_below (by (with_reducible repeat (first | apply Kd.R_alloc | apply Kd.R_drewN | apply Kd.R_drew)); exact HO279.out) hb); have n1_ := Aside0.mk (below_step (by repeat (first | (with_reducible first | exact HB.out | apply below_alloc | apply pw_below_drewN | apply below_drew1) | exact HB.out)) hb); clear HO279; clear HB; have HO279 := n0_; have HB := n1_; clear n0_ n1_; (try clear hb); (try clear hb2); (try clear hk); (try clear hi)) | (go_at_call 9; (with_reducible refine (redpencillaw41_known.calls k  t283 _ ?side1 A97.out).mono ?_); (case side1 => exact GOK_below HG.out (by repeat (first | (with_reducible first | exact HB.out | apply below_alloc | apply pw_below_drewN | apply below_drew1) | exact HB.out))); rintro e w102 ⟨rfl, hb⟩; have n0_ := Aside0.mk (Kd.R_below (by (with_reducible repeat (first | apply Kd.R_alloc | apply Kd.R_drewN | apply Kd.R_drew)); exact HO279.out) hb); have n1_ := Aside0.mk (below_step (by repeat (first | (with_reducible first | exact HB.out | apply below_alloc | apply pw_below_drewN | apply below_drew1) | exact HB.out)) hb); clear HO279; clear HB; have HO279 := n0_; have HB := n1_; clear n0_ n1_; (try clear hb); (try clear hb2); (try clear hk); (try clear hi)))
            go_ret
            exact ⟨by first | rfl | (simp [errW_none, errW_some] <;> rfl) | (simp [*, errW_none, errW_some] <;> rfl), by repeat (first | (with_reducible first | exact HB.out | apply below_alloc | apply pw_below_drewN | apply below_drew1) | exact HB.out)⟩
          · replace c96 := Bool.eq_false_iff.mpr c96
            subst c96
            have H1 : (some false) = some r := by rw [if_neg (show ¬ (false = true) by decide)] at H; exact H
            clear H
            have H := H1
            clear H1
            obtain rfl := Option.some.inj H
            go_enter Tryd.func4, Tryd.ntmps4
            go_wp2_with (first | ((with_reducible refine gate_callee (f := 10) rfl ?_); refine goesL_ (some 26) rfl rfl Tryd.func10 (by kernel_rfl) rfl #[.string a0] rfl (by (try simp only [List.map_toArray, List.map_cons, List.map_nil]); first | done | rfl | (simp only [List.length_drop, List.length_take]; rfl)) ?_; (with_reducible refine (runes_Decode.calls a0 t276 t277 _ ?side1 A9.out).mono ?_); (case side1 => exact GOK_below HG.out (by repeat (first | (with_reducible first | exact HB.out | apply below_alloc | apply pw_below_drewN | apply below_drew1) | exact HB.out))); rintro e w103 ⟨v278, rfl, ho0, hb⟩; refine ⟨_, rfl, ?_⟩; have n0_ := Aside0.mk (Kd.R_lower ho0 (below_size (by repeat (first | (with_reducible first | exact HB.out | apply below_alloc | apply pw_below_drewN | apply below_drew1) | exact HB.out)))); have n1_ := Aside0.mk (below_step (by repeat (first | (with_reducible first | exact HB.out | apply below_alloc | apply pw_below_drewN | apply below_drew1) | exact HB.out)) hb); clear HB; have HO279 := n0_; have HB := n1_; clear n0_ n1_; (try clear hb); (try clear hb2); (try clear hk); (try clear hi); (try clear ho0)) | ((with_reducible refine gate_callee (f := 14) rfl ?_); refine goesL_ (some 35) rfl rfl Tryd.func14 (by kernel_rfl) rfl #[.string a0, .int .i64 a1, .int .i64 0, .int .i64 0, .int .i64 t277] rfl (by (try simp only [List.map_toArray, List.map_cons, List.map_nil]); first | done | rfl | (simp only [List.length_drop, List.length_take]; rfl)) ?_; (with_reducible refine (redpencillaw41_places.calls k a0 a1 0 0 t277 true _ ?side1 A91.out).mono ?_); (case side1 => exact GOK_below HG.out (by repeat (first | (with_reducible first | exact HB.out | apply below_alloc | apply pw_below_drewN | apply below_drew1) | exact HB.out))); rintro e w104 ⟨rfl, hb⟩; refine ⟨_, rfl, ?_⟩; have n0_ := Aside0.mk (Kd.R_below (by (with_reducible repeat (first | apply Kd.R_alloc | apply Kd.R_drewN | apply Kd.R_drew)); exact HO279.out) hb); have n1_ := Aside0.mk (below_step (by repeat (first | (with_reducible first | exact HB.out | apply below_alloc | apply pw_below_drewN | apply below_drew1) | exact HB.out)) hb); clear HO279; clear HB; have HO279 := n0_; have HB := n1_; clear n0_ n1_; (try clear hb); (try clear hb2); (try clear hk); (try clear hi)) | (go_at_call 15; (with_reducible refine (redpencillaw41_at.calls k a0 a2 a3 0 t277 true _ ?side1 A93.out).mono ?_); (case side1 => exact GOK_below HG.out (by repeat (first | (with_reducible first | exact HB.out | apply below_alloc | apply pw_below_drewN | apply below_drew1) | exact HB.out))); rintro e w105 ⟨rfl, hb⟩; have n0_ := Aside0.mk (Kd.R_below (by (with_reducible repeat (first | apply Kd.R_alloc | apply Kd.R_drewN | apply Kd.R_drew)); exact HO279.out) hb); have n1_ := Aside0.mk (below_step (by repeat (first | (with_reducible first | exact HB.out | apply below_alloc | apply pw_below_drewN | apply below_drew1) | exact HB.out)) hb); clear HO279; clear HB; have HO279 := n0_; have HB := n1_; clear n0_ n1_; (try clear hb); (try clear hb2); (try clear hk); (try clear hi)) | (go_at_call 16; (with_reducible refine (redpencillaw41_wide.calls k a0 a1 a4 0 t277 false _ ?side1 A95.out).mono ?_); (case side1 => exact GOK_below HG.out (by repeat (first | (with_reducible first | exact HB.out | apply below_alloc | apply pw_below_drewN | apply below_drew1) | exact HB.out))); rintro e w106 ⟨rfl, hb⟩; have n0_ := Aside0.mk (Kd.R_below (by (with_reducible repeat (first | apply Kd.R_alloc | apply Kd.R_drewN | apply Kd.R_drew)); exact HO279.out) hb); have n1_ := Aside0.mk (below_step (by repeat (first | (with_reducible first | exact HB.out | apply below_alloc | apply pw_below_drewN | apply below_drew1) | exact HB.out)) hb); clear HO279; clear HB; have HO279 := n0_; have HB := n1_; clear n0_ n1_; (try clear hb); (try clear hb2); (try clear hk); (try clear hi)))
            go_ret
            exact ⟨by first | rfl | (simp [errW_none, errW_some] <;> rfl) | (simp [*, errW_none, errW_some] <;> rfl), by repeat (first | (with_reducible first | exact HB.out | apply below_alloc | apply pw_below_drewN | apply below_drew1) | exact HB.out)⟩
        · replace c94 := Bool.eq_false_iff.mpr c94
          subst c94
          have H1 : (some false) = some r := by rw [if_neg (show ¬ (false = true) by decide)] at H; exact H
          clear H
          have H := H1
          clear H1
          obtain rfl := Option.some.inj H
          go_enter Tryd.func4, Tryd.ntmps4
          go_wp2_with (first | ((with_reducible refine gate_callee (f := 10) rfl ?_); refine goesL_ (some 26) rfl rfl Tryd.func10 (by kernel_rfl) rfl #[.string a0] rfl (by (try simp only [List.map_toArray, List.map_cons, List.map_nil]); first | done | rfl | (simp only [List.length_drop, List.length_take]; rfl)) ?_; (with_reducible refine (runes_Decode.calls a0 t276 t277 _ ?side1 A9.out).mono ?_); (case side1 => exact GOK_below HG.out (by repeat (first | (with_reducible first | exact HB.out | apply below_alloc | apply pw_below_drewN | apply below_drew1) | exact HB.out))); rintro e w107 ⟨v278, rfl, ho0, hb⟩; refine ⟨_, rfl, ?_⟩; have n0_ := Aside0.mk (Kd.R_lower ho0 (below_size (by repeat (first | (with_reducible first | exact HB.out | apply below_alloc | apply pw_below_drewN | apply below_drew1) | exact HB.out)))); have n1_ := Aside0.mk (below_step (by repeat (first | (with_reducible first | exact HB.out | apply below_alloc | apply pw_below_drewN | apply below_drew1) | exact HB.out)) hb); clear HB; have HO279 := n0_; have HB := n1_; clear n0_ n1_; (try clear hb); (try clear hb2); (try clear hk); (try clear hi); (try clear ho0)) | ((with_reducible refine gate_callee (f := 14) rfl ?_); refine goesL_ (some 35) rfl rfl Tryd.func14 (by kernel_rfl) rfl #[.string a0, .int .i64 a1, .int .i64 0, .int .i64 0, .int .i64 t277] rfl (by (try simp only [List.map_toArray, List.map_cons, List.map_nil]); first | done | rfl | (simp only [List.length_drop, List.length_take]; rfl)) ?_; (with_reducible refine (redpencillaw41_places.calls k a0 a1 0 0 t277 true _ ?side1 A91.out).mono ?_); (case side1 => exact GOK_below HG.out (by repeat (first | (with_reducible first | exact HB.out | apply below_alloc | apply pw_below_drewN | apply below_drew1) | exact HB.out))); rintro e w108 ⟨rfl, hb⟩; refine ⟨_, rfl, ?_⟩; have n0_ := Aside0.mk (Kd.R_below (by (with_reducible repeat (first | apply Kd.R_alloc | apply Kd.R_drewN | apply Kd.R_drew)); exact HO279.out) hb); have n1_ := Aside0.mk (below_step (by repeat (first | (with_reducible first | exact HB.out | apply below_alloc | apply pw_below_drewN | apply below_drew1) | exact HB.out)) hb); clear HO279; clear HB; have HO279 := n0_; have HB := n1_; clear n0_ n1_; (try clear hb); (try clear hb2); (try clear hk); (try clear hi)) | (go_at_call 15; (with_reducible refine (redpencillaw41_at.calls k a0 a2 a3 0 t277 false _ ?side1 A93.out).mono ?_); (case side1 => exact GOK_below HG.out (by repeat (first | (with_reducible first | exact HB.out | apply below_alloc | apply pw_below_drewN | apply below_drew1) | exact HB.out))); rintro e w109 ⟨rfl, hb⟩; have n0_ := Aside0.mk (Kd.R_below (by (with_reducible repeat (first | apply Kd.R_alloc | apply Kd.R_drewN | apply Kd.R_drew)); exact HO279.out) hb); have n1_ := Aside0.mk (below_step (by repeat (first | (with_reducible first | exact HB.out | apply below_alloc | apply pw_below_drewN | apply below_drew1) | exact HB.out)) hb); clear HO279; clear HB; have HO279 := n0_; have HB := n1_; clear n0_ n1_; (try clear hb); (try clear hb2); (try clear hk); (try clear hi)))
          go_ret
          exact ⟨by first | rfl | (simp [errW_none, errW_some] <;> rfl) | (simp [*, errW_none, errW_some] <;> rfl), by repeat (first | (with_reducible first | exact HB.out | apply below_alloc | apply pw_below_drewN | apply below_drew1) | exact HB.out)⟩
      · replace c92 := Bool.eq_false_iff.mpr c92
        subst c92
        have H1 : (some false) = some r := by rw [if_neg (show ¬ (false = true) by decide)] at H; exact H
        clear H
        have H := H1
        clear H1
        obtain rfl := Option.some.inj H
        go_enter Tryd.func4, Tryd.ntmps4
        go_wp2_with (first | ((with_reducible refine gate_callee (f := 10) rfl ?_); refine goesL_ (some 26) rfl rfl Tryd.func10 (by kernel_rfl) rfl #[.string a0] rfl (by (try simp only [List.map_toArray, List.map_cons, List.map_nil]); first | done | rfl | (simp only [List.length_drop, List.length_take]; rfl)) ?_; (with_reducible refine (runes_Decode.calls a0 t276 t277 _ ?side1 A9.out).mono ?_); (case side1 => exact GOK_below HG.out (by repeat (first | (with_reducible first | exact HB.out | apply below_alloc | apply pw_below_drewN | apply below_drew1) | exact HB.out))); rintro e w110 ⟨v278, rfl, ho0, hb⟩; refine ⟨_, rfl, ?_⟩; have n0_ := Aside0.mk (Kd.R_lower ho0 (below_size (by repeat (first | (with_reducible first | exact HB.out | apply below_alloc | apply pw_below_drewN | apply below_drew1) | exact HB.out)))); have n1_ := Aside0.mk (below_step (by repeat (first | (with_reducible first | exact HB.out | apply below_alloc | apply pw_below_drewN | apply below_drew1) | exact HB.out)) hb); clear HB; have HO279 := n0_; have HB := n1_; clear n0_ n1_; (try clear hb); (try clear hb2); (try clear hk); (try clear hi); (try clear ho0)) | ((with_reducible refine gate_callee (f := 14) rfl ?_); refine goesL_ (some 35) rfl rfl Tryd.func14 (by kernel_rfl) rfl #[.string a0, .int .i64 a1, .int .i64 0, .int .i64 0, .int .i64 t277] rfl (by (try simp only [List.map_toArray, List.map_cons, List.map_nil]); first | done | rfl | (simp only [List.length_drop, List.length_take]; rfl)) ?_; (with_reducible refine (redpencillaw41_places.calls k a0 a1 0 0 t277 false _ ?side1 A91.out).mono ?_); (case side1 => exact GOK_below HG.out (by repeat (first | (with_reducible first | exact HB.out | apply below_alloc | apply pw_below_drewN | apply below_drew1) | exact HB.out))); rintro e w111 ⟨rfl, hb⟩; refine ⟨_, rfl, ?_⟩; have n0_ := Aside0.mk (Kd.R_below (by (with_reducible repeat (first | apply Kd.R_alloc | apply Kd.R_drewN | apply Kd.R_drew)); exact HO279.out) hb); have n1_ := Aside0.mk (below_step (by repeat (first | (with_reducible first | exact HB.out | apply below_alloc | apply pw_below_drewN | apply below_drew1) | exact HB.out)) hb); clear HO279; clear HB; have HO279 := n0_; have HB := n1_; clear n0_ n1_; (try clear hb); (try clear hb2); (try clear hk); (try clear hi)))
        go_ret
        exact ⟨by first | rfl | (simp [errW_none, errW_some] <;> rfl) | (simp [*, errW_none, errW_some] <;> rfl), by repeat (first | (with_reducible first | exact HB.out | apply below_alloc | apply pw_below_drewN | apply below_drew1) | exact HB.out)⟩

end Go.Proofs.YtbjahfbagbghnaaDoor.PAll
