-- Printed by a program of this session (wip/tools/mkprint2.py) out of the translation; Lean checks it. -- narrowed
import Derived.Test.YtbjahfbagbghnaaDoorPAllx0
import Derived.Test.YtbjahfbagbghnaaDoorPAllx2
import Derived.Test.YtbjahfbagbghnaaDoorPAllx3
import Derived.Test.YtbjahfbagbghnaaDoorPAllx5
import Derived.Test.YtbjahfbagbghnaaDoorPAllx6
import Derived.Test.YtbjahfbagbghnaaDoorPAllx7
import Derived.Test.YtbjahfbagbghnaaDoorLs
namespace Go.Proofs.YtbjahfbagbghnaaDoor.PAll
open Go.RowKit Go.Proofs.YtbjahfbagbghnaaDoorW.PrintWords Go.Proofs.YtbjahfbagbghnaaDoorW.PrintLast Go.Proofs.YtbjahfbagbghnaaDoorW.PrintMore
attribute [local go_sem] max2_int min2_int max_two min_two max_three min_three max_four min_four   -- for this text's walks alone
set_option linter.unusedVariables false
set_option linter.unusedSimpArgs false

/-! ### redpencillaw41_LinesHolds: function 8 -/
mutual
def redpencillaw41_LinesHolds.j0 : Nat → ByteArray → Int → Int → Int → Bool → Option (Bool)
 | 0, _, _, _, _, _ => none
 | k + 1, x0, x1, x2, x3, x43 => if x43 = true then ((redpencillaw41_known.f k).bind fun t371 => (some t371)) else ((runes_Decode.f x0).bind fun bt372 => (if bt372.2 = 0 then (if (wrap64 ((bt372.1.length : Int) + 1)) = 0 then (none) else ((lines_Place.f k x0 (Int.tmod (wrap64 (x1)) (wrap64 ((bt372.1.length : Int) + 1)))).bind fun bt377 => ((lines_Count.f k x0).bind fun bt380 => (if bt377.2.2 = 0 then (if bt380.2 = 0 then ((redpencillaw41_at.f k x0 bt377.1 bt377.2.1 (Int.tmod (wrap64 (x1)) (wrap64 ((bt372.1.length : Int) + 1))) 0).bind fun t382 => (if t382 = true then ((redpencillaw41_moves.f k x0 (Int.tmod (wrap64 (x1)) (wrap64 ((bt372.1.length : Int) + 1))) 0 bt377.2.1 (Int.tmod (wrap64 (x1)) (wrap64 ((bt372.1.length : Int) + 1))) 0).bind fun t383 => (redpencillaw41_LinesHolds.j1 k x0 x2 x3 bt372.1 (Int.tmod (wrap64 (x1)) (wrap64 ((bt372.1.length : Int) + 1))) bt377.1 bt380.1 (!t383))) else (redpencillaw41_LinesHolds.j1 k x0 x2 x3 bt372.1 (Int.tmod (wrap64 (x1)) (wrap64 ((bt372.1.length : Int) + 1))) bt377.1 bt380.1 true))) else (redpencillaw41_LinesHolds.j1 k x0 x2 x3 bt372.1 (Int.tmod (wrap64 (x1)) (wrap64 ((bt372.1.length : Int) + 1))) bt377.1 bt380.1 true)) else (redpencillaw41_LinesHolds.j1 k x0 x2 x3 bt372.1 (Int.tmod (wrap64 (x1)) (wrap64 ((bt372.1.length : Int) + 1))) bt377.1 bt380.1 true))))) else ((redpencillaw41_known.f k).bind fun t376 => (some t376))))
def redpencillaw41_LinesHolds.j1 : Nat → ByteArray → Int → Int → List Int → Int → Int → Int → Bool → Option (Bool)
 | 0, _, _, _, _, _, _, _, _ => none
 | k + 1, x0, x2, x3, x9, x11, x12, x14, x92 => if x92 = true then (some false) else (redpencillaw41_LinesHolds.l0 k x0 x2 x3 x9 x11 x12 x14 (⟨#[]⟩ : ByteArray) 0)
def redpencillaw41_LinesHolds.l0 : Nat → ByteArray → Int → Int → List Int → Int → Int → Int → ByteArray → Int → Option (Bool)
 | 0, _, _, _, _, _, _, _, _, _ => none
 | k + 1, x0, x2, x3, x9, x11, x12, x14, x16, x17 => if x17 < x14 then (redpencillaw41_LinesHolds.j3 k x0 x2 x3 x9 x11 x12 x14 x16 x17 (decide (x17 < 400))) else (redpencillaw41_LinesHolds.j3 k x0 x2 x3 x9 x11 x12 x14 x16 x17 false)
def redpencillaw41_LinesHolds.j3 : Nat → ByteArray → Int → Int → List Int → Int → Int → Int → ByteArray → Int → Bool → Option (Bool)
 | 0, _, _, _, _, _, _, _, _, _, _ => none
 | k + 1, x0, x2, x3, x9, x11, x12, x14, x16, x17, x99 => if x99 = true then ((lines_Line.f k x0 x17).bind fun bt384 => (if bt384.2 = 0 then (if x17 > 0 then (if x16.size + 1 ≤ 9223372036854775807 then (if (x16 ++ (⟨#[10]⟩ : ByteArray)).size + bt384.1.size ≤ 9223372036854775807 then (redpencillaw41_LinesHolds.l0 k x0 x2 x3 x9 x11 x12 x14 ((x16 ++ (⟨#[10]⟩ : ByteArray)) ++ bt384.1) (wrap64 (x17 + 1))) else (none)) else (none)) else (if x16.size + bt384.1.size ≤ 9223372036854775807 then (redpencillaw41_LinesHolds.l0 k x0 x2 x3 x9 x11 x12 x14 (x16 ++ bt384.1) (wrap64 (x17 + 1))) else (none))) else (some false))) else (if x16.toList = x0.toList then (if (wrap64 (x12 + (wrap64 (x2)))) < x14 then ((lines_Move.f k x0 x11 (wrap64 (x2)) (wrap64 (x3))).bind fun bt386 => ((lines_Move.f k x0 bt386.1 (wrap64 (-(wrap64 (x2)))) (wrap64 (x3))).bind fun bt388 => ((lines_Place.f k x0 bt388.1).bind fun bt390 => (if bt386.2 = 0 then (if bt388.2 = 0 then (if bt390.2.2 = 0 then (if bt390.1 = x12 then (redpencillaw41_LinesHolds.j4 k x0 x9 x11) else (some false)) else (some false)) else (some false)) else (some false))))) else (redpencillaw41_LinesHolds.j4 k x0 x9 x11)) else (some false))
def redpencillaw41_LinesHolds.j4 : Nat → ByteArray → List Int → Int → Option (Bool)
 | 0, _, _, _ => none
 | k + 1, x0, x9, x11 => (lines_Next.f k x0 x11).bind fun bt393 => ((lines_Back.f k x0 bt393.1).bind fun bt395 => ((lines_Word.f k x0 x11).bind fun bt397 => (if bt393.2 = 0 then (if bt395.2 = 0 then (if bt397.2.2 = 0 then (if bt393.1 < x11 then (redpencillaw41_LinesHolds.j5 k x9 bt397.1 bt397.2.1 true) else (if bt397.1 > x11 then (redpencillaw41_LinesHolds.j5 k x9 bt397.1 bt397.2.1 true) else (if bt397.2.1 < x11 then (redpencillaw41_LinesHolds.j5 k x9 bt397.1 bt397.2.1 true) else (if bt397.1 < 0 then (redpencillaw41_LinesHolds.j5 k x9 bt397.1 bt397.2.1 true) else (if bt397.2.1 > (x9.length : Int) then (redpencillaw41_LinesHolds.j5 k x9 bt397.1 bt397.2.1 true) else (if x11 < (x9.length : Int) then (if 0 ≤ x11 then ((redpencillaw41_lettered.f (rd x9 x11)).bind fun t401 => (if t401 = true then (redpencillaw41_LinesHolds.j5 k x9 bt397.1 bt397.2.1 (decide (bt395.1 > x11))) else (redpencillaw41_LinesHolds.j5 k x9 bt397.1 bt397.2.1 false))) else (none)) else (redpencillaw41_LinesHolds.j5 k x9 bt397.1 bt397.2.1 false))))))) else (redpencillaw41_LinesHolds.j5 k x9 bt397.1 bt397.2.1 true)) else (redpencillaw41_LinesHolds.j5 k x9 bt397.1 bt397.2.1 true)) else (redpencillaw41_LinesHolds.j5 k x9 bt397.1 bt397.2.1 true))))
def redpencillaw41_LinesHolds.j5 : Nat → List Int → Int → Int → Bool → Option (Bool)
 | 0, _, _, _, _ => none
 | k + 1, x9, x29, x30, x240 => if x240 = true then (some false) else (redpencillaw41_LinesHolds.l1 k x9 x30 x29)
def redpencillaw41_LinesHolds.l1 : Nat → List Int → Int → Int → Option (Bool)
 | 0, _, _, _ => none
 | k + 1, x9, x30, x32 => if x32 < x30 then (if 0 ≤ x32 then (if x32 < (x9.length : Int) then ((redpencillaw41_lettered.f (rd x9 x32)).bind fun t403 => (if t403 = true then (redpencillaw41_LinesHolds.l1 k x9 x30 (wrap64 (x32 + 1))) else (some false))) else (none)) else (none)) else ((redpencillaw41_known.f k).bind fun t404 => (some t404))
end
def redpencillaw41_LinesHolds.f (k : Nat) (a0 : ByteArray) (a1 : Int) (a2 : Int) (a3 : Int) : Option (Bool) := if (a0.size : Int) > 300 then (redpencillaw41_LinesHolds.j0 k a0 a1 a2 a3 true) else (if a2 > 20 then (redpencillaw41_LinesHolds.j0 k a0 a1 a2 a3 true) else (redpencillaw41_LinesHolds.j0 k a0 a1 a2 a3 (decide (a3 > 300))))
theorem redpencillaw41_LinesHolds.mono_l : ∀ k, (∀ y0 y1 y2 y3 y4, LeO (redpencillaw41_LinesHolds.j0 k y0 y1 y2 y3 y4) (redpencillaw41_LinesHolds.j0 (k + 1) y0 y1 y2 y3 y4)) ∧ (∀ y0 y1 y2 y3 y4 y5 y6 y7, LeO (redpencillaw41_LinesHolds.j1 k y0 y1 y2 y3 y4 y5 y6 y7) (redpencillaw41_LinesHolds.j1 (k + 1) y0 y1 y2 y3 y4 y5 y6 y7)) ∧ (∀ y0 y1 y2 y3 y4 y5 y6 y7 y8, LeO (redpencillaw41_LinesHolds.l0 k y0 y1 y2 y3 y4 y5 y6 y7 y8) (redpencillaw41_LinesHolds.l0 (k + 1) y0 y1 y2 y3 y4 y5 y6 y7 y8)) ∧ (∀ y0 y1 y2 y3 y4 y5 y6 y7 y8 y9, LeO (redpencillaw41_LinesHolds.j3 k y0 y1 y2 y3 y4 y5 y6 y7 y8 y9) (redpencillaw41_LinesHolds.j3 (k + 1) y0 y1 y2 y3 y4 y5 y6 y7 y8 y9)) ∧ (∀ y0 y1 y2, LeO (redpencillaw41_LinesHolds.j4 k y0 y1 y2) (redpencillaw41_LinesHolds.j4 (k + 1) y0 y1 y2)) ∧ (∀ y0 y1 y2 y3, LeO (redpencillaw41_LinesHolds.j5 k y0 y1 y2 y3) (redpencillaw41_LinesHolds.j5 (k + 1) y0 y1 y2 y3)) ∧ (∀ y0 y1 y2, LeO (redpencillaw41_LinesHolds.l1 k y0 y1 y2) (redpencillaw41_LinesHolds.l1 (k + 1) y0 y1 y2))
 | 0 => ⟨fun _ _ _ _ _ r h => by simp [redpencillaw41_LinesHolds.j0] at h, fun _ _ _ _ _ _ _ _ r h => by simp [redpencillaw41_LinesHolds.j1] at h, fun _ _ _ _ _ _ _ _ _ r h => by simp [redpencillaw41_LinesHolds.l0] at h, fun _ _ _ _ _ _ _ _ _ _ r h => by simp [redpencillaw41_LinesHolds.j3] at h, fun _ _ _ r h => by simp [redpencillaw41_LinesHolds.j4] at h, fun _ _ _ _ r h => by simp [redpencillaw41_LinesHolds.j5] at h, fun _ _ _ r h => by simp [redpencillaw41_LinesHolds.l1] at h⟩
 | k + 1 => by
  obtain ⟨ih0, ih1, ih2, ih3, ih4, ih5, ih6⟩ := redpencillaw41_LinesHolds.mono_l k
  refine ⟨?_, ?_, ?_, ?_, ?_, ?_, ?_⟩
  ·
   intro y0 y1 y2 y3 y4
   unfold redpencillaw41_LinesHolds.j0
   repeat' first
   | (with_reducible exact ih0 _ _ _ _ _)
   | (with_reducible exact ih1 _ _ _ _ _ _ _ _)
   | (with_reducible exact ih2 _ _ _ _ _ _ _ _ _)
   | (with_reducible exact ih3 _ _ _ _ _ _ _ _ _ _)
   | (with_reducible exact ih4 _ _ _)
   | (with_reducible exact ih5 _ _ _ _)
   | (with_reducible exact ih6 _ _ _)
   | (with_reducible exact lines_Back.mono _ _ _)
   | (with_reducible exact lines_Count.mono _ _)
   | (with_reducible exact lines_Line.mono _ _ _)
   | (with_reducible exact lines_Move.mono _ _ _ _ _)
   | (with_reducible exact lines_Next.mono _ _ _)
   | (with_reducible exact lines_Place.mono _ _ _)
   | (with_reducible exact lines_Word.mono _ _ _)
   | (with_reducible exact redpencillaw41_at.mono _ _ _ _ _ _)
   | (with_reducible exact redpencillaw41_known.mono _)
   | (with_reducible exact redpencillaw41_moves.mono _ _ _ _ _ _ _)
   | (with_reducible exact LeO.refl _)
   | (with_reducible exact LeO.none _)
   | (with_reducible refine LeO.ite ?_ ?_)
   | (with_reducible refine LeO.bind ?_ (fun _ => ?_))
   | exact ih0 _ _ _ _ _
   | exact ih1 _ _ _ _ _ _ _ _
   | exact ih2 _ _ _ _ _ _ _ _ _
   | exact ih3 _ _ _ _ _ _ _ _ _ _
   | exact ih4 _ _ _
   | exact ih5 _ _ _ _
   | exact ih6 _ _ _
   | exact lines_Back.mono _ _ _
   | exact lines_Count.mono _ _
   | exact lines_Line.mono _ _ _
   | exact lines_Move.mono _ _ _ _ _
   | exact lines_Next.mono _ _ _
   | exact lines_Place.mono _ _ _
   | exact lines_Word.mono _ _ _
   | exact redpencillaw41_at.mono _ _ _ _ _ _
   | exact redpencillaw41_known.mono _
   | exact redpencillaw41_moves.mono _ _ _ _ _ _ _
   | exact LeO.none _
   | refine LeO.ite ?_ ?_
   | refine LeO.bind ?_ (fun _ => ?_)
  ·
   intro y0 y1 y2 y3 y4 y5 y6 y7
   unfold redpencillaw41_LinesHolds.j1
   repeat' first
   | (with_reducible exact ih0 _ _ _ _ _)
   | (with_reducible exact ih1 _ _ _ _ _ _ _ _)
   | (with_reducible exact ih2 _ _ _ _ _ _ _ _ _)
   | (with_reducible exact ih3 _ _ _ _ _ _ _ _ _ _)
   | (with_reducible exact ih4 _ _ _)
   | (with_reducible exact ih5 _ _ _ _)
   | (with_reducible exact ih6 _ _ _)
   | (with_reducible exact lines_Back.mono _ _ _)
   | (with_reducible exact lines_Count.mono _ _)
   | (with_reducible exact lines_Line.mono _ _ _)
   | (with_reducible exact lines_Move.mono _ _ _ _ _)
   | (with_reducible exact lines_Next.mono _ _ _)
   | (with_reducible exact lines_Place.mono _ _ _)
   | (with_reducible exact lines_Word.mono _ _ _)
   | (with_reducible exact redpencillaw41_at.mono _ _ _ _ _ _)
   | (with_reducible exact redpencillaw41_known.mono _)
   | (with_reducible exact redpencillaw41_moves.mono _ _ _ _ _ _ _)
   | (with_reducible exact LeO.refl _)
   | (with_reducible exact LeO.none _)
   | (with_reducible refine LeO.ite ?_ ?_)
   | (with_reducible refine LeO.bind ?_ (fun _ => ?_))
   | exact ih0 _ _ _ _ _
   | exact ih1 _ _ _ _ _ _ _ _
   | exact ih2 _ _ _ _ _ _ _ _ _
   | exact ih3 _ _ _ _ _ _ _ _ _ _
   | exact ih4 _ _ _
   | exact ih5 _ _ _ _
   | exact ih6 _ _ _
   | exact lines_Back.mono _ _ _
   | exact lines_Count.mono _ _
   | exact lines_Line.mono _ _ _
   | exact lines_Move.mono _ _ _ _ _
   | exact lines_Next.mono _ _ _
   | exact lines_Place.mono _ _ _
   | exact lines_Word.mono _ _ _
   | exact redpencillaw41_at.mono _ _ _ _ _ _
   | exact redpencillaw41_known.mono _
   | exact redpencillaw41_moves.mono _ _ _ _ _ _ _
   | exact LeO.none _
   | refine LeO.ite ?_ ?_
   | refine LeO.bind ?_ (fun _ => ?_)
  ·
   intro y0 y1 y2 y3 y4 y5 y6 y7 y8
   unfold redpencillaw41_LinesHolds.l0
   repeat' first
   | (with_reducible exact ih0 _ _ _ _ _)
   | (with_reducible exact ih1 _ _ _ _ _ _ _ _)
   | (with_reducible exact ih2 _ _ _ _ _ _ _ _ _)
   | (with_reducible exact ih3 _ _ _ _ _ _ _ _ _ _)
   | (with_reducible exact ih4 _ _ _)
   | (with_reducible exact ih5 _ _ _ _)
   | (with_reducible exact ih6 _ _ _)
   | (with_reducible exact lines_Back.mono _ _ _)
   | (with_reducible exact lines_Count.mono _ _)
   | (with_reducible exact lines_Line.mono _ _ _)
   | (with_reducible exact lines_Move.mono _ _ _ _ _)
   | (with_reducible exact lines_Next.mono _ _ _)
   | (with_reducible exact lines_Place.mono _ _ _)
   | (with_reducible exact lines_Word.mono _ _ _)
   | (with_reducible exact redpencillaw41_at.mono _ _ _ _ _ _)
   | (with_reducible exact redpencillaw41_known.mono _)
   | (with_reducible exact redpencillaw41_moves.mono _ _ _ _ _ _ _)
   | (with_reducible exact LeO.refl _)
   | (with_reducible exact LeO.none _)
   | (with_reducible refine LeO.ite ?_ ?_)
   | (with_reducible refine LeO.bind ?_ (fun _ => ?_))
   | exact ih0 _ _ _ _ _
   | exact ih1 _ _ _ _ _ _ _ _
   | exact ih2 _ _ _ _ _ _ _ _ _
   | exact ih3 _ _ _ _ _ _ _ _ _ _
   | exact ih4 _ _ _
   | exact ih5 _ _ _ _
   | exact ih6 _ _ _
   | exact lines_Back.mono _ _ _
   | exact lines_Count.mono _ _
   | exact lines_Line.mono _ _ _
   | exact lines_Move.mono _ _ _ _ _
   | exact lines_Next.mono _ _ _
   | exact lines_Place.mono _ _ _
   | exact lines_Word.mono _ _ _
   | exact redpencillaw41_at.mono _ _ _ _ _ _
   | exact redpencillaw41_known.mono _
   | exact redpencillaw41_moves.mono _ _ _ _ _ _ _
   | exact LeO.none _
   | refine LeO.ite ?_ ?_
   | refine LeO.bind ?_ (fun _ => ?_)
  ·
   intro y0 y1 y2 y3 y4 y5 y6 y7 y8 y9
   unfold redpencillaw41_LinesHolds.j3
   repeat' first
   | (with_reducible exact ih0 _ _ _ _ _)
   | (with_reducible exact ih1 _ _ _ _ _ _ _ _)
   | (with_reducible exact ih2 _ _ _ _ _ _ _ _ _)
   | (with_reducible exact ih3 _ _ _ _ _ _ _ _ _ _)
   | (with_reducible exact ih4 _ _ _)
   | (with_reducible exact ih5 _ _ _ _)
   | (with_reducible exact ih6 _ _ _)
   | (with_reducible exact lines_Back.mono _ _ _)
   | (with_reducible exact lines_Count.mono _ _)
   | (with_reducible exact lines_Line.mono _ _ _)
   | (with_reducible exact lines_Move.mono _ _ _ _ _)
   | (with_reducible exact lines_Next.mono _ _ _)
   | (with_reducible exact lines_Place.mono _ _ _)
   | (with_reducible exact lines_Word.mono _ _ _)
   | (with_reducible exact redpencillaw41_at.mono _ _ _ _ _ _)
   | (with_reducible exact redpencillaw41_known.mono _)
   | (with_reducible exact redpencillaw41_moves.mono _ _ _ _ _ _ _)
   | (with_reducible exact LeO.refl _)
   | (with_reducible exact LeO.none _)
   | (with_reducible refine LeO.ite ?_ ?_)
   | (with_reducible refine LeO.bind ?_ (fun _ => ?_))
   | exact ih0 _ _ _ _ _
   | exact ih1 _ _ _ _ _ _ _ _
   | exact ih2 _ _ _ _ _ _ _ _ _
   | exact ih3 _ _ _ _ _ _ _ _ _ _
   | exact ih4 _ _ _
   | exact ih5 _ _ _ _
   | exact ih6 _ _ _
   | exact lines_Back.mono _ _ _
   | exact lines_Count.mono _ _
   | exact lines_Line.mono _ _ _
   | exact lines_Move.mono _ _ _ _ _
   | exact lines_Next.mono _ _ _
   | exact lines_Place.mono _ _ _
   | exact lines_Word.mono _ _ _
   | exact redpencillaw41_at.mono _ _ _ _ _ _
   | exact redpencillaw41_known.mono _
   | exact redpencillaw41_moves.mono _ _ _ _ _ _ _
   | exact LeO.none _
   | refine LeO.ite ?_ ?_
   | refine LeO.bind ?_ (fun _ => ?_)
  ·
   intro y0 y1 y2
   unfold redpencillaw41_LinesHolds.j4
   repeat' first
   | (with_reducible exact ih0 _ _ _ _ _)
   | (with_reducible exact ih1 _ _ _ _ _ _ _ _)
   | (with_reducible exact ih2 _ _ _ _ _ _ _ _ _)
   | (with_reducible exact ih3 _ _ _ _ _ _ _ _ _ _)
   | (with_reducible exact ih4 _ _ _)
   | (with_reducible exact ih5 _ _ _ _)
   | (with_reducible exact ih6 _ _ _)
   | (with_reducible exact lines_Back.mono _ _ _)
   | (with_reducible exact lines_Count.mono _ _)
   | (with_reducible exact lines_Line.mono _ _ _)
   | (with_reducible exact lines_Move.mono _ _ _ _ _)
   | (with_reducible exact lines_Next.mono _ _ _)
   | (with_reducible exact lines_Place.mono _ _ _)
   | (with_reducible exact lines_Word.mono _ _ _)
   | (with_reducible exact redpencillaw41_at.mono _ _ _ _ _ _)
   | (with_reducible exact redpencillaw41_known.mono _)
   | (with_reducible exact redpencillaw41_moves.mono _ _ _ _ _ _ _)
   | (with_reducible exact LeO.refl _)
   | (with_reducible exact LeO.none _)
   | (with_reducible refine LeO.ite ?_ ?_)
   | (with_reducible refine LeO.bind ?_ (fun _ => ?_))
   | exact ih0 _ _ _ _ _
   | exact ih1 _ _ _ _ _ _ _ _
   | exact ih2 _ _ _ _ _ _ _ _ _
   | exact ih3 _ _ _ _ _ _ _ _ _ _
   | exact ih4 _ _ _
   | exact ih5 _ _ _ _
   | exact ih6 _ _ _
   | exact lines_Back.mono _ _ _
   | exact lines_Count.mono _ _
   | exact lines_Line.mono _ _ _
   | exact lines_Move.mono _ _ _ _ _
   | exact lines_Next.mono _ _ _
   | exact lines_Place.mono _ _ _
   | exact lines_Word.mono _ _ _
   | exact redpencillaw41_at.mono _ _ _ _ _ _
   | exact redpencillaw41_known.mono _
   | exact redpencillaw41_moves.mono _ _ _ _ _ _ _
   | exact LeO.none _
   | refine LeO.ite ?_ ?_
   | refine LeO.bind ?_ (fun _ => ?_)
  ·
   intro y0 y1 y2 y3
   unfold redpencillaw41_LinesHolds.j5
   repeat' first
   | (with_reducible exact ih0 _ _ _ _ _)
   | (with_reducible exact ih1 _ _ _ _ _ _ _ _)
   | (with_reducible exact ih2 _ _ _ _ _ _ _ _ _)
   | (with_reducible exact ih3 _ _ _ _ _ _ _ _ _ _)
   | (with_reducible exact ih4 _ _ _)
   | (with_reducible exact ih5 _ _ _ _)
   | (with_reducible exact ih6 _ _ _)
   | (with_reducible exact lines_Back.mono _ _ _)
   | (with_reducible exact lines_Count.mono _ _)
   | (with_reducible exact lines_Line.mono _ _ _)
   | (with_reducible exact lines_Move.mono _ _ _ _ _)
   | (with_reducible exact lines_Next.mono _ _ _)
   | (with_reducible exact lines_Place.mono _ _ _)
   | (with_reducible exact lines_Word.mono _ _ _)
   | (with_reducible exact redpencillaw41_at.mono _ _ _ _ _ _)
   | (with_reducible exact redpencillaw41_known.mono _)
   | (with_reducible exact redpencillaw41_moves.mono _ _ _ _ _ _ _)
   | (with_reducible exact LeO.refl _)
   | (with_reducible exact LeO.none _)
   | (with_reducible refine LeO.ite ?_ ?_)
   | (with_reducible refine LeO.bind ?_ (fun _ => ?_))
   | exact ih0 _ _ _ _ _
   | exact ih1 _ _ _ _ _ _ _ _
   | exact ih2 _ _ _ _ _ _ _ _ _
   | exact ih3 _ _ _ _ _ _ _ _ _ _
   | exact ih4 _ _ _
   | exact ih5 _ _ _ _
   | exact ih6 _ _ _
   | exact lines_Back.mono _ _ _
   | exact lines_Count.mono _ _
   | exact lines_Line.mono _ _ _
   | exact lines_Move.mono _ _ _ _ _
   | exact lines_Next.mono _ _ _
   | exact lines_Place.mono _ _ _
   | exact lines_Word.mono _ _ _
   | exact redpencillaw41_at.mono _ _ _ _ _ _
   | exact redpencillaw41_known.mono _
   | exact redpencillaw41_moves.mono _ _ _ _ _ _ _
   | exact LeO.none _
   | refine LeO.ite ?_ ?_
   | refine LeO.bind ?_ (fun _ => ?_)
  ·
   intro y0 y1 y2
   unfold redpencillaw41_LinesHolds.l1
   repeat' first
   | (with_reducible exact ih0 _ _ _ _ _)
   | (with_reducible exact ih1 _ _ _ _ _ _ _ _)
   | (with_reducible exact ih2 _ _ _ _ _ _ _ _ _)
   | (with_reducible exact ih3 _ _ _ _ _ _ _ _ _ _)
   | (with_reducible exact ih4 _ _ _)
   | (with_reducible exact ih5 _ _ _ _)
   | (with_reducible exact ih6 _ _ _)
   | (with_reducible exact lines_Back.mono _ _ _)
   | (with_reducible exact lines_Count.mono _ _)
   | (with_reducible exact lines_Line.mono _ _ _)
   | (with_reducible exact lines_Move.mono _ _ _ _ _)
   | (with_reducible exact lines_Next.mono _ _ _)
   | (with_reducible exact lines_Place.mono _ _ _)
   | (with_reducible exact lines_Word.mono _ _ _)
   | (with_reducible exact redpencillaw41_at.mono _ _ _ _ _ _)
   | (with_reducible exact redpencillaw41_known.mono _)
   | (with_reducible exact redpencillaw41_moves.mono _ _ _ _ _ _ _)
   | (with_reducible exact LeO.refl _)
   | (with_reducible exact LeO.none _)
   | (with_reducible refine LeO.ite ?_ ?_)
   | (with_reducible refine LeO.bind ?_ (fun _ => ?_))
   | exact ih0 _ _ _ _ _
   | exact ih1 _ _ _ _ _ _ _ _
   | exact ih2 _ _ _ _ _ _ _ _ _
   | exact ih3 _ _ _ _ _ _ _ _ _ _
   | exact ih4 _ _ _
   | exact ih5 _ _ _ _
   | exact ih6 _ _ _
   | exact lines_Back.mono _ _ _
   | exact lines_Count.mono _ _
   | exact lines_Line.mono _ _ _
   | exact lines_Move.mono _ _ _ _ _
   | exact lines_Next.mono _ _ _
   | exact lines_Place.mono _ _ _
   | exact lines_Word.mono _ _ _
   | exact redpencillaw41_at.mono _ _ _ _ _ _
   | exact redpencillaw41_known.mono _
   | exact redpencillaw41_moves.mono _ _ _ _ _ _ _
   | exact LeO.none _
   | refine LeO.ite ?_ ?_
   | refine LeO.bind ?_ (fun _ => ?_)
theorem redpencillaw41_LinesHolds.mono : ∀ a0 a1 a2 a3 k, LeO (redpencillaw41_LinesHolds.f k a0 a1 a2 a3) (redpencillaw41_LinesHolds.f (k + 1) a0 a1 a2 a3) := by
 intro a0 a1 a2 a3 k
 obtain ⟨ih0, ih1, ih2, ih3, ih4, ih5, ih6⟩ := redpencillaw41_LinesHolds.mono_l k
 unfold redpencillaw41_LinesHolds.f
 repeat' first
   | (with_reducible exact ih0 _ _ _ _ _)
   | (with_reducible exact ih1 _ _ _ _ _ _ _ _)
   | (with_reducible exact ih2 _ _ _ _ _ _ _ _ _)
   | (with_reducible exact ih3 _ _ _ _ _ _ _ _ _ _)
   | (with_reducible exact ih4 _ _ _)
   | (with_reducible exact ih5 _ _ _ _)
   | (with_reducible exact ih6 _ _ _)
   | (with_reducible exact lines_Back.mono _ _ _)
   | (with_reducible exact lines_Count.mono _ _)
   | (with_reducible exact lines_Line.mono _ _ _)
   | (with_reducible exact lines_Move.mono _ _ _ _ _)
   | (with_reducible exact lines_Next.mono _ _ _)
   | (with_reducible exact lines_Place.mono _ _ _)
   | (with_reducible exact lines_Word.mono _ _ _)
   | (with_reducible exact redpencillaw41_at.mono _ _ _ _ _ _)
   | (with_reducible exact redpencillaw41_known.mono _)
   | (with_reducible exact redpencillaw41_moves.mono _ _ _ _ _ _ _)
   | (with_reducible exact LeO.refl _)
   | (with_reducible exact LeO.none _)
   | (with_reducible refine LeO.ite ?_ ?_)
   | (with_reducible refine LeO.bind ?_ (fun _ => ?_))
   | exact ih0 _ _ _ _ _
   | exact ih1 _ _ _ _ _ _ _ _
   | exact ih2 _ _ _ _ _ _ _ _ _
   | exact ih3 _ _ _ _ _ _ _ _ _ _
   | exact ih4 _ _ _
   | exact ih5 _ _ _ _
   | exact ih6 _ _ _
   | exact lines_Back.mono _ _ _
   | exact lines_Count.mono _ _
   | exact lines_Line.mono _ _ _
   | exact lines_Move.mono _ _ _ _ _
   | exact lines_Next.mono _ _ _
   | exact lines_Place.mono _ _ _
   | exact lines_Word.mono _ _ _
   | exact redpencillaw41_at.mono _ _ _ _ _ _
   | exact redpencillaw41_known.mono _
   | exact redpencillaw41_moves.mono _ _ _ _ _ _ _
   | exact LeO.none _
   | refine LeO.ite ?_ ?_
   | refine LeO.bind ?_ (fun _ => ?_)
set_option maxHeartbeats 8000000 in
set_option maxRecDepth 100000 in
theorem redpencillaw41_LinesHolds.calls (k : Nat) (a0 : ByteArray) (a1 : Int) (a2 : Int) (a3 : Int) (w : World) (hG : GOK w) (h : redpencillaw41_LinesHolds.f k a0 a1 a2 a3 = some true) :
  Calls Tryd.prog 8 #[.string a0, .int .u16 a1, .int .u8 a2, .int .u16 a3] w fun e w' => e = .returned (.bool true) ∧ Below w.heap.size w w' := by
 have HB := Aside0.mk (Below.refl w.heap.size w)
 have HG := Aside0.mk hG
 clear hG
 have H : (if (a0.size : Int) > 300 then (redpencillaw41_LinesHolds.j0 k a0 a1 a2 a3 true) else (if a2 > 20 then (redpencillaw41_LinesHolds.j0 k a0 a1 a2 a3 true) else (redpencillaw41_LinesHolds.j0 k a0 a1 a2 a3 (decide (a3 > 300))))) = some true := h
 clear h
 have HC5 := Aside0.mk H
 clear H
 go_enter Tryd.func8, Tryd.ntmps8
 go_upto_region 1 with (fail)
 go_cut [43] (fun v43 wc => ∃ (kq : Nat) (x43_4 : Bool), v43 = .bool x43_4 ∧ Aside0 (redpencillaw41_LinesHolds.j0 kq a0 a1 a2 a3 x43_4 = some true) ∧ Aside0 (kq ≤ k) ∧ Aside0 (Below w.heap.size w wc))
 case first =>
  have H := HC5.out
  clear HC5
  by_cases c6 : (a0.size : Int) > 300
  ·
   rw [if_pos c6] at H
   have c6b0 : decide (300 < (a0.size : Int)) = true := decide_eq_true c6
   have c6b1 : decide (300 < a0.size) = true := decide_eq_true (by omega)
   clear c6
   (first | rw [c6b0] | (simp only [i64_w, i32_w]; rw [c6b0]) | skip)
   have H' := Aside0.mk H
   clear H
   go_wp2
   go_meet
   case rel => exact ⟨_, (true), (by first | rfl | (simp; done) | (simp [*]; done)), H', ⟨by first | omega | exact Nat.le_refl _⟩, ⟨by repeat (first | (with_reducible first | exact HB.out | apply below_alloc | apply pw_below_drewN | apply below_drew1) | exact HB.out)⟩⟩
  ·
   rw [if_neg c6] at H
   have c6b0 : decide (300 < (a0.size : Int)) = false := decide_eq_false c6
   have c6b1 : decide (300 < a0.size) = false := decide_eq_false (by omega)
   clear c6
   (first | rw [c6b0] | (simp only [i64_w, i32_w]; rw [c6b0]) | skip)
   by_cases c7 : a2 > 20
   ·
    rw [if_pos c7] at H
    have c7b0 : decide (20 < a2) = true := decide_eq_true c7
    clear c7
    have H' := Aside0.mk H
    clear H
    go_wp2
    go_meet
    case rel => exact ⟨_, (true), (by first | rfl | (simp; done) | (simp [*]; done)), H', ⟨by first | omega | exact Nat.le_refl _⟩, ⟨by repeat (first | (with_reducible first | exact HB.out | apply below_alloc | apply pw_below_drewN | apply below_drew1) | exact HB.out)⟩⟩
   ·
    rw [if_neg c7] at H
    have c7b0 : decide (20 < a2) = false := decide_eq_false c7
    clear c7
    have H' := Aside0.mk H
    clear H
    go_wp2
    go_meet
    case rel => exact ⟨_, (decide (a3 > 300)), (by first | rfl | (simp; done) | (simp [*]; done)), H', ⟨by first | omega | exact Nat.le_refl _⟩, ⟨by repeat (first | (with_reducible first | exact HB.out | apply below_alloc | apply pw_below_drewN | apply below_drew1) | exact HB.out)⟩⟩
 case rest =>
  as_aux_lemma =>
   clear HC5
   try clear p2
   try clear c6
   try clear c6b0
   try clear c6b1
   try clear c7
   try clear c7b0
   obtain ⟨kq, x43_4, rfl, HA, HJ4, HB⟩ := hcut
   cases kq with
   | zero => exact absurd HA.out (by simp [redpencillaw41_LinesHolds.j0])
   | succ kj4 =>
    have H := HA.out
    clear HA
    simp only [redpencillaw41_LinesHolds.j0] at H
    by_cases c8 : x43_4 = true
    ·
     subst c8
     have H1 : ((redpencillaw41_known.f kj4).bind fun t371 => (some t371)) = some true := by rw [if_pos rfl] at H; exact H
     clear H
     have H := H1
     clear H1
     replace H := Option.bind_eq_some_iff.mp H
     obtain ⟨t371, A90, H⟩ := H
     replace H : (some t371) = some true := H
     have A9 := Aside0.mk A90
     clear A90
     obtain rfl := Option.some.inj H
     go_wp2_with (first | ((with_reducible refine gate_callee (f := 9) rfl ?_); refine goesL_ (some 44) rfl rfl Tryd.func9 (by kernel_rfl) rfl #[] rfl (by (try simp only [List.map_toArray, List.map_cons, List.map_nil]); first | done | rfl | (simp only [List.length_drop, List.length_take]; rfl)) ?_; (with_reducible refine (redpencillaw41_known.calls kj4  true _ ?side1 A9.out).mono ?_); (case side1 => exact GOK_below HG.out (by repeat (first | (with_reducible first | exact HB.out | apply below_alloc | apply pw_below_drewN | apply below_drew1) | exact HB.out))); rintro e w10 ⟨rfl, hb⟩; refine ⟨_, rfl, ?_⟩; have n0_ := Aside0.mk (below_step (by repeat (first | (with_reducible first | exact HB.out | apply below_alloc | apply pw_below_drewN | apply below_drew1) | exact HB.out)) hb); clear HB; have HB := n0_; clear n0_; (try clear hb); (try clear hb2); (try clear hk); (try clear hi)))
     go_ret
     exact ⟨by first | rfl | (simp [errW_none, errW_some] <;> rfl) | (simp [*, errW_none, errW_some] <;> rfl), by repeat (first | (with_reducible first | exact HB.out | apply below_alloc | apply pw_below_drewN | apply below_drew1) | exact HB.out)⟩
    ·
     replace c8 := Bool.eq_false_iff.mpr c8
     subst c8
     have H1 : ((runes_Decode.f a0).bind fun bt372 => (if bt372.2 = 0 then (if (wrap64 ((bt372.1.length : Int) + 1)) = 0 then (none) else ((lines_Place.f kj4 a0 (Int.tmod (wrap64 (a1)) (wrap64 ((bt372.1.length : Int) + 1)))).bind fun bt377 => ((lines_Count.f kj4 a0).bind fun bt380 => (if bt377.2.2 = 0 then (if bt380.2 = 0 then ((redpencillaw41_at.f kj4 a0 bt377.1 bt377.2.1 (Int.tmod (wrap64 (a1)) (wrap64 ((bt372.1.length : Int) + 1))) 0).bind fun t382 => (if t382 = true then ((redpencillaw41_moves.f kj4 a0 (Int.tmod (wrap64 (a1)) (wrap64 ((bt372.1.length : Int) + 1))) 0 bt377.2.1 (Int.tmod (wrap64 (a1)) (wrap64 ((bt372.1.length : Int) + 1))) 0).bind fun t383 => (redpencillaw41_LinesHolds.j1 kj4 a0 a2 a3 bt372.1 (Int.tmod (wrap64 (a1)) (wrap64 ((bt372.1.length : Int) + 1))) bt377.1 bt380.1 (!t383))) else (redpencillaw41_LinesHolds.j1 kj4 a0 a2 a3 bt372.1 (Int.tmod (wrap64 (a1)) (wrap64 ((bt372.1.length : Int) + 1))) bt377.1 bt380.1 true))) else (redpencillaw41_LinesHolds.j1 kj4 a0 a2 a3 bt372.1 (Int.tmod (wrap64 (a1)) (wrap64 ((bt372.1.length : Int) + 1))) bt377.1 bt380.1 true)) else (redpencillaw41_LinesHolds.j1 kj4 a0 a2 a3 bt372.1 (Int.tmod (wrap64 (a1)) (wrap64 ((bt372.1.length : Int) + 1))) bt377.1 bt380.1 true))))) else ((redpencillaw41_known.f kj4).bind fun t376 => (some t376)))) = some true := by rw [if_neg (show ¬ (false = true) by decide)] at H; exact H
     clear H
     have H := H1
     clear H1
     replace H := Option.bind_eq_some_iff.mp H
     obtain ⟨⟨t372, t373⟩, A110, H⟩ := H
     replace H : (if t373 = 0 then (if (wrap64 ((t372.length : Int) + 1)) = 0 then (none) else ((lines_Place.f kj4 a0 (Int.tmod (wrap64 (a1)) (wrap64 ((t372.length : Int) + 1)))).bind fun bt377 => ((lines_Count.f kj4 a0).bind fun bt380 => (if bt377.2.2 = 0 then (if bt380.2 = 0 then ((redpencillaw41_at.f kj4 a0 bt377.1 bt377.2.1 (Int.tmod (wrap64 (a1)) (wrap64 ((t372.length : Int) + 1))) 0).bind fun t382 => (if t382 = true then ((redpencillaw41_moves.f kj4 a0 (Int.tmod (wrap64 (a1)) (wrap64 ((t372.length : Int) + 1))) 0 bt377.2.1 (Int.tmod (wrap64 (a1)) (wrap64 ((t372.length : Int) + 1))) 0).bind fun t383 => (redpencillaw41_LinesHolds.j1 kj4 a0 a2 a3 t372 (Int.tmod (wrap64 (a1)) (wrap64 ((t372.length : Int) + 1))) bt377.1 bt380.1 (!t383))) else (redpencillaw41_LinesHolds.j1 kj4 a0 a2 a3 t372 (Int.tmod (wrap64 (a1)) (wrap64 ((t372.length : Int) + 1))) bt377.1 bt380.1 true))) else (redpencillaw41_LinesHolds.j1 kj4 a0 a2 a3 t372 (Int.tmod (wrap64 (a1)) (wrap64 ((t372.length : Int) + 1))) bt377.1 bt380.1 true)) else (redpencillaw41_LinesHolds.j1 kj4 a0 a2 a3 t372 (Int.tmod (wrap64 (a1)) (wrap64 ((t372.length : Int) + 1))) bt377.1 bt380.1 true))))) else ((redpencillaw41_known.f kj4).bind fun t376 => (some t376))) = some true := H
     have A11 := Aside0.mk A110
     clear A110
     by_cases c12 : t373 = 0
     ·
      rw [if_pos c12] at H
      have c12b0 : (t373 == 0) = true := beq_iff_eq.mpr c12
      have c12b1 : (t373 != 0) = false := bne_eq_false_iff_eq.mpr c12
      clear c12
      by_cases c13 : (wrap64 ((t372.length : Int) + 1)) = 0
      ·
       rw [if_pos c13] at H
       exact absurd H (by simp)
      ·
       rw [if_neg c13] at H
       have c13b0 : ((wrap64 ((t372.length : Int) + 1)) == 0) = false := beq_eq_false_iff_ne.mpr c13
       have c13b1 : ((wrap64 ((t372.length : Int) + 1)) != 0) = true := bne_iff_ne.mpr c13
       replace H := Option.bind_eq_some_iff.mp H
       obtain ⟨⟨t377, t378, t379⟩, A140, H⟩ := H
       replace H : ((lines_Count.f kj4 a0).bind fun bt380 => (if t379 = 0 then (if bt380.2 = 0 then ((redpencillaw41_at.f kj4 a0 t377 t378 (Int.tmod (wrap64 (a1)) (wrap64 ((t372.length : Int) + 1))) 0).bind fun t382 => (if t382 = true then ((redpencillaw41_moves.f kj4 a0 (Int.tmod (wrap64 (a1)) (wrap64 ((t372.length : Int) + 1))) 0 t378 (Int.tmod (wrap64 (a1)) (wrap64 ((t372.length : Int) + 1))) 0).bind fun t383 => (redpencillaw41_LinesHolds.j1 kj4 a0 a2 a3 t372 (Int.tmod (wrap64 (a1)) (wrap64 ((t372.length : Int) + 1))) t377 bt380.1 (!t383))) else (redpencillaw41_LinesHolds.j1 kj4 a0 a2 a3 t372 (Int.tmod (wrap64 (a1)) (wrap64 ((t372.length : Int) + 1))) t377 bt380.1 true))) else (redpencillaw41_LinesHolds.j1 kj4 a0 a2 a3 t372 (Int.tmod (wrap64 (a1)) (wrap64 ((t372.length : Int) + 1))) t377 bt380.1 true)) else (redpencillaw41_LinesHolds.j1 kj4 a0 a2 a3 t372 (Int.tmod (wrap64 (a1)) (wrap64 ((t372.length : Int) + 1))) t377 bt380.1 true))) = some true := H
       have A14 := Aside0.mk A140
       clear A140
       replace H := Option.bind_eq_some_iff.mp H
       obtain ⟨⟨t380, t381⟩, A150, H⟩ := H
       replace H : (if t379 = 0 then (if t381 = 0 then ((redpencillaw41_at.f kj4 a0 t377 t378 (Int.tmod (wrap64 (a1)) (wrap64 ((t372.length : Int) + 1))) 0).bind fun t382 => (if t382 = true then ((redpencillaw41_moves.f kj4 a0 (Int.tmod (wrap64 (a1)) (wrap64 ((t372.length : Int) + 1))) 0 t378 (Int.tmod (wrap64 (a1)) (wrap64 ((t372.length : Int) + 1))) 0).bind fun t383 => (redpencillaw41_LinesHolds.j1 kj4 a0 a2 a3 t372 (Int.tmod (wrap64 (a1)) (wrap64 ((t372.length : Int) + 1))) t377 t380 (!t383))) else (redpencillaw41_LinesHolds.j1 kj4 a0 a2 a3 t372 (Int.tmod (wrap64 (a1)) (wrap64 ((t372.length : Int) + 1))) t377 t380 true))) else (redpencillaw41_LinesHolds.j1 kj4 a0 a2 a3 t372 (Int.tmod (wrap64 (a1)) (wrap64 ((t372.length : Int) + 1))) t377 t380 true)) else (redpencillaw41_LinesHolds.j1 kj4 a0 a2 a3 t372 (Int.tmod (wrap64 (a1)) (wrap64 ((t372.length : Int) + 1))) t377 t380 true)) = some true := H
       have A15 := Aside0.mk A150
       clear A150
       have HC16 := Aside0.mk H
       clear H
       go_upto_region 9 with (first | ((with_reducible refine gate_callee (f := 10) rfl ?_); refine goesL_ (some 47) rfl rfl Tryd.func10 (by kernel_rfl) rfl #[.string a0] rfl (by (try simp only [List.map_toArray, List.map_cons, List.map_nil]); first | done | rfl | (simp only [List.length_drop, List.length_take]; rfl)) ?_; (with_reducible refine (runes_Decode.calls a0 t372 t373 _ ?side1 A11.out).mono ?_); (case side1 => exact GOK_below HG.out (by repeat (first | (with_reducible first | exact HB.out | apply below_alloc | apply pw_below_drewN | apply below_drew1) | exact HB.out))); rintro e w17 ⟨v374, rfl, ho0, hb⟩; refine ⟨_, rfl, ?_⟩; have n0_ := Aside0.mk (Kd.R_lower ho0 (below_size (by repeat (first | (with_reducible first | exact HB.out | apply below_alloc | apply pw_below_drewN | apply below_drew1) | exact HB.out)))); have n1_ := Aside0.mk (below_step (by repeat (first | (with_reducible first | exact HB.out | apply below_alloc | apply pw_below_drewN | apply below_drew1) | exact HB.out)) hb); clear HB; have HO375 := n0_; have HB := n1_; clear n0_ n1_; (try clear hb); (try clear hb2); (try clear hk); (try clear hi); (try clear ho0); obtain ⟨Ao18, co18, eo18⟩ := Kd.R_slice HO375.out; subst eo18) | ((with_reducible refine gate_callee (f := 24) rfl ?_); refine goesL_ (some 62) rfl rfl Tryd.func24 (by kernel_rfl) rfl #[.string a0, .int .i64 (Int.tmod (wrap64 (a1)) (wrap64 ((t372.length : Int) + 1)))] rfl (by (try simp only [List.map_toArray, List.map_cons, List.map_nil]); first | done | rfl | (simp only [List.length_drop, List.length_take]; rfl)) ?_; (with_reducible refine (lines_Place.calls kj4 a0 (Int.tmod (wrap64 (a1)) (wrap64 ((t372.length : Int) + 1))) t377 t378 t379 _ ?side1 A14.out).mono ?_); (case side1 => exact GOK_below HG.out (by repeat (first | (with_reducible first | exact HB.out | apply below_alloc | apply pw_below_drewN | apply below_drew1) | exact HB.out))); rintro e w19 ⟨rfl, hb⟩; refine ⟨_, rfl, ?_⟩; have n0_ := Aside0.mk (Kd.R_below (by (with_reducible repeat (first | apply Kd.R_alloc | apply Kd.R_drewN | apply Kd.R_drew)); exact HO375.out) hb); have n1_ := Aside0.mk (below_step (by repeat (first | (with_reducible first | exact HB.out | apply below_alloc | apply pw_below_drewN | apply below_drew1) | exact HB.out)) hb); clear HO375; clear HB; have HO375 := n0_; have HB := n1_; clear n0_ n1_; (try clear hb); (try clear hb2); (try clear hk); (try clear hi)) | ((with_reducible refine gate_callee (f := 25) rfl ?_); refine goesL_ (some 68) rfl rfl Tryd.func25 (by kernel_rfl) rfl #[.string a0] rfl (by (try simp only [List.map_toArray, List.map_cons, List.map_nil]); first | done | rfl | (simp only [List.length_drop, List.length_take]; rfl)) ?_; (with_reducible refine (lines_Count.calls kj4 a0 t380 t381 _ ?side1 A15.out).mono ?_); (case side1 => exact GOK_below HG.out (by repeat (first | (with_reducible first | exact HB.out | apply below_alloc | apply pw_below_drewN | apply below_drew1) | exact HB.out))); rintro e w20 ⟨rfl, hb⟩; refine ⟨_, rfl, ?_⟩; have n0_ := Aside0.mk (Kd.R_below (by (with_reducible repeat (first | apply Kd.R_alloc | apply Kd.R_drewN | apply Kd.R_drew)); exact HO375.out) hb); have n1_ := Aside0.mk (below_step (by repeat (first | (with_reducible first | exact HB.out | apply below_alloc | apply pw_below_drewN | apply below_drew1) | exact HB.out)) hb); clear HO375; clear HB; have HO375 := n0_; have HB := n1_; clear n0_ n1_; (try clear hb); (try clear hb2); (try clear hk); (try clear hi)))
       (try simp only [Act.put, List.setIfInBounds_toArray, List.set_cons_zero, List.set_cons_succ])
       go_cut [92] (fun v92 wc => ∃ (kq : Nat) (x92_15 : Bool), v92 = .bool x92_15 ∧ Aside0 (redpencillaw41_LinesHolds.j1 kq a0 a2 a3 t372 (Int.tmod (wrap64 (a1)) (wrap64 ((t372.length : Int) + 1))) t377 t380 x92_15 = some true) ∧ Aside0 (kq ≤ kj4) ∧ Aside0 (Kd.R (Kd.int .i32) 21 wc w.heap.size (fun _ => True) (.slice Ao18 t372.length co18) t372) ∧ Aside0 (Below w.heap.size w wc))
       case first =>
        have H := HC16.out
        clear HC16
        by_cases c21 : t379 = 0
        ·
         rw [if_pos c21] at H
         have c21b0 : (t379 == 0) = true := beq_iff_eq.mpr c21
         have c21b1 : (t379 != 0) = false := bne_eq_false_iff_eq.mpr c21
         clear c21
         (first | rw [c21b0] | (simp only [i64_w, i32_w]; rw [c21b0]) | skip)
         by_cases c22 : t381 = 0
         ·
          rw [if_pos c22] at H
          have c22b0 : (t381 == 0) = true := beq_iff_eq.mpr c22
          have c22b1 : (t381 != 0) = false := bne_eq_false_iff_eq.mpr c22
          clear c22
          replace H := Option.bind_eq_some_iff.mp H
          obtain ⟨t382, A230, H⟩ := H
          replace H : (if t382 = true then ((redpencillaw41_moves.f kj4 a0 (Int.tmod (wrap64 (a1)) (wrap64 ((t372.length : Int) + 1))) 0 t378 (Int.tmod (wrap64 (a1)) (wrap64 ((t372.length : Int) + 1))) 0).bind fun t383 => (redpencillaw41_LinesHolds.j1 kj4 a0 a2 a3 t372 (Int.tmod (wrap64 (a1)) (wrap64 ((t372.length : Int) + 1))) t377 t380 (!t383))) else (redpencillaw41_LinesHolds.j1 kj4 a0 a2 a3 t372 (Int.tmod (wrap64 (a1)) (wrap64 ((t372.length : Int) + 1))) t377 t380 true)) = some true := H
          have A23 := Aside0.mk A230
          clear A230
          by_cases c24 : t382 = true
          ·
           subst c24
           have H1 : ((redpencillaw41_moves.f kj4 a0 (Int.tmod (wrap64 (a1)) (wrap64 ((t372.length : Int) + 1))) 0 t378 (Int.tmod (wrap64 (a1)) (wrap64 ((t372.length : Int) + 1))) 0).bind fun t383 => (redpencillaw41_LinesHolds.j1 kj4 a0 a2 a3 t372 (Int.tmod (wrap64 (a1)) (wrap64 ((t372.length : Int) + 1))) t377 t380 (!t383))) = some true := by rw [if_pos rfl] at H; exact H
           clear H
           have H := H1
           clear H1
           replace H := Option.bind_eq_some_iff.mp H
           obtain ⟨t383, A250, H⟩ := H
           replace H : (redpencillaw41_LinesHolds.j1 kj4 a0 a2 a3 t372 (Int.tmod (wrap64 (a1)) (wrap64 ((t372.length : Int) + 1))) t377 t380 (!t383)) = some true := H
           have A25 := Aside0.mk A250
           clear A250
           have H' := Aside0.mk H
           clear H
           go_wp2_with (first | (go_at_call 15; (with_reducible refine (redpencillaw41_at.calls kj4 a0 t377 t378 (Int.tmod (wrap64 (a1)) (wrap64 ((t372.length : Int) + 1))) 0 true _ ?side1 A23.out).mono ?_); (case side1 => exact GOK_below HG.out (by repeat (first | (with_reducible first | exact HB.out | apply below_alloc | apply pw_below_drewN | apply below_drew1) | exact HB.out))); rintro e w26 ⟨rfl, hb⟩; have n0_ := Aside0.mk (Kd.R_below (by (with_reducible repeat (first | apply Kd.R_alloc | apply Kd.R_drewN | apply Kd.R_drew)); exact HO375.out) hb); have n1_ := Aside0.mk (below_step (by repeat (first | (with_reducible first | exact HB.out | apply below_alloc | apply pw_below_drewN | apply below_drew1) | exact HB.out)) hb); clear HO375; clear HB; have HO375 := n0_; have HB := n1_; clear n0_ n1_; (try clear hb); (try clear hb2); (try clear hk); (try clear hi)) | (go_at_call 19; (with_reducible refine (redpencillaw41_moves.calls kj4 a0 (Int.tmod (wrap64 (a1)) (wrap64 ((t372.length : Int) + 1))) 0 t378 (Int.tmod (wrap64 (a1)) (wrap64 ((t372.length : Int) + 1))) 0 t383 _ ?side1 A25.out).mono ?_); (case side1 => exact GOK_below HG.out (by repeat (first | (with_reducible first | exact HB.out | apply below_alloc | apply pw_below_drewN | apply below_drew1) | exact HB.out))); rintro e w27 ⟨rfl, hb⟩; have n0_ := Aside0.mk (Kd.R_below (by (with_reducible repeat (first | apply Kd.R_alloc | apply Kd.R_drewN | apply Kd.R_drew)); exact HO375.out) hb); have n1_ := Aside0.mk (below_step (by repeat (first | (with_reducible first | exact HB.out | apply below_alloc | apply pw_below_drewN | apply below_drew1) | exact HB.out)) hb); clear HO375; clear HB; have HO375 := n0_; have HB := n1_; clear n0_ n1_; (try clear hb); (try clear hb2); (try clear hk); (try clear hi)))
           go_meet
           case rel => exact ⟨_, (!t383), (by first | rfl | (simp; done) | (simp [*]; done)), H', ⟨by have := HJ4.out; first | omega | exact Nat.le_refl _⟩, ⟨by (with_reducible repeat (first | apply Kd.R_alloc | apply Kd.R_drewN | apply Kd.R_drew)); exact HO375.out⟩, ⟨by repeat (first | (with_reducible first | exact HB.out | apply below_alloc | apply pw_below_drewN | apply below_drew1) | exact HB.out)⟩⟩
          ·
           replace c24 := Bool.eq_false_iff.mpr c24
           subst c24
           have H1 : (redpencillaw41_LinesHolds.j1 kj4 a0 a2 a3 t372 (Int.tmod (wrap64 (a1)) (wrap64 ((t372.length : Int) + 1))) t377 t380 true) = some true := by rw [if_neg (show ¬ (false = true) by decide)] at H; exact H
           clear H
           have H := H1
           clear H1
           have H' := Aside0.mk H
           clear H
           go_wp2_with (first | (go_at_call 15; (with_reducible refine (redpencillaw41_at.calls kj4 a0 t377 t378 (Int.tmod (wrap64 (a1)) (wrap64 ((t372.length : Int) + 1))) 0 false _ ?side1 A23.out).mono ?_); (case side1 => exact GOK_below HG.out (by repeat (first | (with_reducible first | exact HB.out | apply below_alloc | apply pw_below_drewN | apply below_drew1) | exact HB.out))); rintro e w28 ⟨rfl, hb⟩; have n0_ := Aside0.mk (Kd.R_below (by (with_reducible repeat (first | apply Kd.R_alloc | apply Kd.R_drewN | apply Kd.R_drew)); exact HO375.out) hb); have n1_ := Aside0.mk (below_step (by repeat (first | (with_reducible first | exact HB.out | apply below_alloc | apply pw_below_drewN | apply below_drew1) | exact HB.out)) hb); clear HO375; clear HB; have HO375 := n0_; have HB := n1_; clear n0_ n1_; (try clear hb); (try clear hb2); (try clear hk); (try clear hi)))
           go_meet
           case rel => exact ⟨_, (true), (by first | rfl | (simp; done) | (simp [*]; done)), H', ⟨by have := HJ4.out; first | omega | exact Nat.le_refl _⟩, ⟨by (with_reducible repeat (first | apply Kd.R_alloc | apply Kd.R_drewN | apply Kd.R_drew)); exact HO375.out⟩, ⟨by repeat (first | (with_reducible first | exact HB.out | apply below_alloc | apply pw_below_drewN | apply below_drew1) | exact HB.out)⟩⟩
         ·
          rw [if_neg c22] at H
          have c22b0 : (t381 == 0) = false := beq_eq_false_iff_ne.mpr c22
          have c22b1 : (t381 != 0) = true := bne_iff_ne.mpr c22
          have H' := Aside0.mk H
          clear H
          go_wp2
          go_meet
          case rel => exact ⟨_, (true), (by first | rfl | (simp; done) | (simp [*]; done)), H', ⟨by have := HJ4.out; first | omega | exact Nat.le_refl _⟩, ⟨by (with_reducible repeat (first | apply Kd.R_alloc | apply Kd.R_drewN | apply Kd.R_drew)); exact HO375.out⟩, ⟨by repeat (first | (with_reducible first | exact HB.out | apply below_alloc | apply pw_below_drewN | apply below_drew1) | exact HB.out)⟩⟩
        ·
         rw [if_neg c21] at H
         have c21b0 : (t379 == 0) = false := beq_eq_false_iff_ne.mpr c21
         have c21b1 : (t379 != 0) = true := bne_iff_ne.mpr c21
         (first | rw [c21b0] | (simp only [i64_w, i32_w]; rw [c21b0]) | skip)
         have H' := Aside0.mk H
         clear H
         go_wp2
         go_meet
         case rel => exact ⟨_, (true), (by first | rfl | (simp; done) | (simp [*]; done)), H', ⟨by have := HJ4.out; first | omega | exact Nat.le_refl _⟩, ⟨by (with_reducible repeat (first | apply Kd.R_alloc | apply Kd.R_drewN | apply Kd.R_drew)); exact HO375.out⟩, ⟨by repeat (first | (with_reducible first | exact HB.out | apply below_alloc | apply pw_below_drewN | apply below_drew1) | exact HB.out)⟩⟩
       case rest =>
        as_aux_lemma =>
         clear HC16
         try clear c1
         try clear c2
         try clear p2
         try clear c6
         try clear c6b0
         try clear c6b1
         try clear p6
         try clear c7
         try clear c7b0
         try clear c8
         try clear c9
         try clear c10
         try clear c12
         try clear c12b0
         try clear c12b1
         try clear c13
         try clear c13b0
         try clear c13b1
         try clear c21
         try clear c21b0
         try clear c21b1
         try clear c22
         try clear c22b0
         try clear c22b1
         try clear c24
         try clear c25
         try clear p2
         obtain ⟨kq, x92_15, rfl, HA, HJ15, HO_9, HB⟩ := hcut
         cases kq with
         | zero => exact absurd HA.out (by simp [redpencillaw41_LinesHolds.j1])
         | succ kj15 =>
          have H := HA.out
          clear HA
          simp only [redpencillaw41_LinesHolds.j1] at H
          by_cases c29 : x92_15 = true
          ·
           subst c29
           have H1 : (some false) = some true := by rw [if_pos rfl] at H; exact H
           exact absurd H1 (by simp)
          ·
           replace c29 := Bool.eq_false_iff.mpr c29
           subst c29
           have H1 : (redpencillaw41_LinesHolds.l0 kj15 a0 a2 a3 t372 (Int.tmod (wrap64 (a1)) (wrap64 ((t372.length : Int) + 1))) t377 t380 (⟨#[]⟩ : ByteArray) 0) = some true := by rw [if_neg (show ¬ (false = true) by decide)] at H; exact H
           clear H
           have H := H1
           clear H1
           have H' := Aside0.mk H
           clear H
           go_wp2
           go_loopg [16, 17] kj15 (fun kq v16 v17 w' => ∃ (x16_3 : ByteArray) (x17_3 : Int), v16 = .string x16_3 ∧ v17 = .int .i64 x17_3 ∧ Aside0 (redpencillaw41_LinesHolds.l0 kq a0 a2 a3 t372 (Int.tmod (wrap64 (a1)) (wrap64 ((t372.length : Int) + 1))) t377 t380 x16_3 x17_3 = some true) ∧ Aside0 (kq ≤ kj15) ∧ Aside0 (Kd.R (Kd.int .i32) 21 w' w.heap.size (fun _ => True) (.slice Ao18 t372.length co18) t372) ∧ Aside0 (Below w.heap.size w w'))
           case atStart => exact ⟨((⟨#[]⟩ : ByteArray)), (0), (by first | rfl | (simp; done) | (simp [*]; done)), (by first | rfl | (simp; done) | (simp [*]; done)), H', ⟨Nat.le_refl _⟩, ⟨by (with_reducible repeat (first | apply Kd.R_alloc | apply Kd.R_drewN | apply Kd.R_drew)); exact HO_9.out⟩, ⟨by repeat (first | (with_reducible first | exact HB.out | apply below_alloc | apply pw_below_drewN | apply below_drew1) | exact HB.out)⟩⟩
           case round =>
            as_aux_lemma =>
             clear H'
             try clear c1
             try clear c2
             try clear p2
             try clear c6
             try clear c6b0
             try clear c6b1
             try clear p6
             try clear c7
             try clear c7b0
             try clear c8
             try clear c9
             try clear c10
             try clear c12
             try clear c12b0
             try clear c12b1
             try clear c13
             try clear c13b0
             try clear c13b1
             try clear c21
             try clear c21b0
             try clear c21b1
             try clear c22
             try clear c22b0
             try clear c22b1
             try clear c24
             try clear c25
             try clear c29
             try clear p2
             try clear p6
             obtain ⟨x16_3, x17_3, rfl, rfl, HA, HK3, HO_9, HB⟩ := hrel
             cases gk with
             | zero => exact absurd HA.out (by simp [redpencillaw41_LinesHolds.l0])
             | succ k3 =>
              have H := HA.out
              clear HA
              simp only [redpencillaw41_LinesHolds.l0] at H
              have HC30 := Aside0.mk H
              clear H
              go_upto_region 13 with (fail)
              go_cut [99] (fun v99 wc => ∃ (kq : Nat) (x99_29 : Bool), v99 = .bool x99_29 ∧ Aside0 (redpencillaw41_LinesHolds.j3 kq a0 a2 a3 t372 (Int.tmod (wrap64 (a1)) (wrap64 ((t372.length : Int) + 1))) t377 t380 x16_3 x17_3 x99_29 = some true) ∧ Aside0 (kq ≤ k3) ∧ Aside0 (Kd.R (Kd.int .i32) 21 wc w.heap.size (fun _ => True) (.slice Ao18 t372.length co18) t372) ∧ Aside0 (Below w.heap.size w wc))
              case first =>
               have H := HC30.out
               clear HC30
               by_cases c31 : x17_3 < t380
               ·
                rw [if_pos c31] at H
                have c31b0 : decide (x17_3 < t380) = true := decide_eq_true c31
                clear c31
                (first | rw [c31b0] | (simp only [i64_w, i32_w]; rw [c31b0]) | skip)
                have H' := Aside0.mk H
                clear H
                go_wp2
                go_meet
                case rel => exact ⟨_, (decide (x17_3 < 400)), (by first | rfl | (simp; done) | (simp [*]; done)), H', ⟨by have := HJ4.out; have := HJ15.out; have := HK3.out; first | omega | exact Nat.le_refl _⟩, ⟨by (with_reducible repeat (first | apply Kd.R_alloc | apply Kd.R_drewN | apply Kd.R_drew)); exact HO_9.out⟩, ⟨by repeat (first | (with_reducible first | exact HB.out | apply below_alloc | apply pw_below_drewN | apply below_drew1) | exact HB.out)⟩⟩
               ·
                rw [if_neg c31] at H
                have c31b0 : decide (x17_3 < t380) = false := decide_eq_false c31
                clear c31
                (first | rw [c31b0] | (simp only [i64_w, i32_w]; rw [c31b0]) | skip)
                have H' := Aside0.mk H
                clear H
                go_wp2
                go_meet
                case rel => exact ⟨_, (false), (by first | rfl | (simp; done) | (simp [*]; done)), H', ⟨by have := HJ4.out; have := HJ15.out; have := HK3.out; first | omega | exact Nat.le_refl _⟩, ⟨by (with_reducible repeat (first | apply Kd.R_alloc | apply Kd.R_drewN | apply Kd.R_drew)); exact HO_9.out⟩, ⟨by repeat (first | (with_reducible first | exact HB.out | apply below_alloc | apply pw_below_drewN | apply below_drew1) | exact HB.out)⟩⟩
              case rest =>
               as_aux_lemma =>
                clear HC30
                try clear c1
                try clear c2
                try clear p2
                try clear c3
                try clear c6
                try clear c6b0
                try clear c6b1
                try clear p6
                try clear c7
                try clear c7b0
                try clear c8
                try clear c9
                try clear c10
                try clear c12
                try clear c12b0
                try clear c12b1
                try clear c13
                try clear c13b0
                try clear c13b1
                try clear c21
                try clear c21b0
                try clear c21b1
                try clear c22
                try clear c22b0
                try clear c22b1
                try clear c24
                try clear c25
                try clear c29
                try clear c31
                try clear c31b0
                try clear p2
                try clear p6
                obtain ⟨kq, x99_29, rfl, HA, HJ29, HO_9, HB⟩ := hcut
                cases kq with
                | zero => exact absurd HA.out (by simp [redpencillaw41_LinesHolds.j3])
                | succ kj29 =>
                 have H := HA.out
                 clear HA
                 simp only [redpencillaw41_LinesHolds.j3] at H
                 by_cases c32 : x99_29 = true
                 ·
                  subst c32
                  have H1 : ((lines_Line.f kj29 a0 x17_3).bind fun bt384 => (if bt384.2 = 0 then (if x17_3 > 0 then (if x16_3.size + 1 ≤ 9223372036854775807 then (if (x16_3 ++ (⟨#[10]⟩ : ByteArray)).size + bt384.1.size ≤ 9223372036854775807 then (redpencillaw41_LinesHolds.l0 kj29 a0 a2 a3 t372 (Int.tmod (wrap64 (a1)) (wrap64 ((t372.length : Int) + 1))) t377 t380 ((x16_3 ++ (⟨#[10]⟩ : ByteArray)) ++ bt384.1) (wrap64 (x17_3 + 1))) else (none)) else (none)) else (if x16_3.size + bt384.1.size ≤ 9223372036854775807 then (redpencillaw41_LinesHolds.l0 kj29 a0 a2 a3 t372 (Int.tmod (wrap64 (a1)) (wrap64 ((t372.length : Int) + 1))) t377 t380 (x16_3 ++ bt384.1) (wrap64 (x17_3 + 1))) else (none))) else (some false))) = some true := by rw [if_pos rfl] at H; exact H
                  clear H
                  have H := H1
                  clear H1
                  replace H := Option.bind_eq_some_iff.mp H
                  obtain ⟨⟨t384, t385⟩, A330, H⟩ := H
                  replace H : (if t385 = 0 then (if x17_3 > 0 then (if x16_3.size + 1 ≤ 9223372036854775807 then (if (x16_3 ++ (⟨#[10]⟩ : ByteArray)).size + t384.size ≤ 9223372036854775807 then (redpencillaw41_LinesHolds.l0 kj29 a0 a2 a3 t372 (Int.tmod (wrap64 (a1)) (wrap64 ((t372.length : Int) + 1))) t377 t380 ((x16_3 ++ (⟨#[10]⟩ : ByteArray)) ++ t384) (wrap64 (x17_3 + 1))) else (none)) else (none)) else (if x16_3.size + t384.size ≤ 9223372036854775807 then (redpencillaw41_LinesHolds.l0 kj29 a0 a2 a3 t372 (Int.tmod (wrap64 (a1)) (wrap64 ((t372.length : Int) + 1))) t377 t380 (x16_3 ++ t384) (wrap64 (x17_3 + 1))) else (none))) else (some false)) = some true := H
                  have A33 := Aside0.mk A330
                  clear A330
                  by_cases c34 : t385 = 0
                  ·
                   rw [if_pos c34] at H
                   have c34b0 : (t385 == 0) = true := beq_iff_eq.mpr c34
                   have c34b1 : (t385 != 0) = false := bne_eq_false_iff_eq.mpr c34
                   clear c34
                   by_cases c35 : x17_3 > 0
                   ·
                    rw [if_pos c35] at H
                    have c35b0 : decide (0 < x17_3) = true := decide_eq_true c35
                    clear c35
                    by_cases c36 : x16_3.size + 1 ≤ 9223372036854775807
                    ·
                     rw [if_pos c36] at H
                     have c36b0 := eq_true c36
                     have c36b1 : decide (x16_3.size + 1 ≤ 9223372036854775807) = true := decide_eq_true c36
                     try have c36b2 : (9223372036854775807 < x16_3.size + 1) = False := eq_false (Nat.not_lt.2 c36)
                     by_cases c37 : (x16_3 ++ (⟨#[10]⟩ : ByteArray)).size + t384.size ≤ 9223372036854775807
                     ·
                      rw [if_pos c37] at H
                      have c37b0 := eq_true c37
                      have c37b1 : decide ((x16_3 ++ (⟨#[10]⟩ : ByteArray)).size + t384.size ≤ 9223372036854775807) = true := decide_eq_true c37
                      try have c37b2 : (9223372036854775807 < (x16_3 ++ (⟨#[10]⟩ : ByteArray)).size + t384.size) = False := eq_false (Nat.not_lt.2 c37)
                      have H' := Aside0.mk H
                      clear H
                      go_wp2_with (first | ((with_reducible refine gate_callee (f := 26) rfl ?_); refine goesL_ (some 105) rfl rfl Tryd.func26 (by kernel_rfl) rfl #[.string a0, .int .i64 x17_3] rfl (by (try simp only [List.map_toArray, List.map_cons, List.map_nil]); first | done | rfl | (simp only [List.length_drop, List.length_take]; rfl)) ?_; (with_reducible refine (lines_Line.calls kj29 a0 x17_3 t384 t385 _ ?side1 A33.out).mono ?_); (case side1 => exact GOK_below HG.out (by repeat (first | (with_reducible first | exact HB.out | apply below_alloc | apply pw_below_drewN | apply below_drew1) | exact HB.out))); rintro e w38 ⟨rfl, hb⟩; refine ⟨_, rfl, ?_⟩; have n0_ := Aside0.mk (Kd.R_below (by (with_reducible repeat (first | apply Kd.R_alloc | apply Kd.R_drewN | apply Kd.R_drew)); exact HO_9.out) hb); have n1_ := Aside0.mk (below_step (by repeat (first | (with_reducible first | exact HB.out | apply below_alloc | apply pw_below_drewN | apply below_drew1) | exact HB.out)) hb); clear HO_9; clear HB; have HO_9 := n0_; have HB := n1_; clear n0_ n1_; (try clear hb); (try clear hb2); (try clear hk); (try clear hi)))
                      go_roundg kj29
                      case measure => have := HJ4.out; have := HJ15.out; have := HK3.out; have := HJ29.out; omega
                      case rel => exact ⟨((x16_3 ++ (⟨#[10]⟩ : ByteArray)) ++ t384), (wrap64 (x17_3 + 1)), (by first | rfl | (simp; done) | (simp [*]; done)), (by first | rfl | (simp; done) | (simp [*]; done)), H', ⟨by have := HJ4.out; have := HJ15.out; have := HK3.out; have := HJ29.out; omega⟩, ⟨by (with_reducible repeat (first | apply Kd.R_alloc | apply Kd.R_drewN | apply Kd.R_drew)); exact HO_9.out⟩, ⟨by repeat (first | (with_reducible first | exact HB.out | apply below_alloc | apply pw_below_drewN | apply below_drew1) | exact HB.out)⟩⟩
                     ·
                      rw [if_neg c37] at H
                      exact absurd H (by simp)
                    ·
                     rw [if_neg c36] at H
                     exact absurd H (by simp)
                   ·
                    rw [if_neg c35] at H
                    have c35b0 : decide (0 < x17_3) = false := decide_eq_false c35
                    clear c35
                    by_cases c39 : x16_3.size + t384.size ≤ 9223372036854775807
                    ·
                     rw [if_pos c39] at H
                     have c39b0 := eq_true c39
                     have c39b1 : decide (x16_3.size + t384.size ≤ 9223372036854775807) = true := decide_eq_true c39
                     try have c39b2 : (9223372036854775807 < x16_3.size + t384.size) = False := eq_false (Nat.not_lt.2 c39)
                     have H' := Aside0.mk H
                     clear H
                     go_wp2_with (first | ((with_reducible refine gate_callee (f := 26) rfl ?_); refine goesL_ (some 105) rfl rfl Tryd.func26 (by kernel_rfl) rfl #[.string a0, .int .i64 x17_3] rfl (by (try simp only [List.map_toArray, List.map_cons, List.map_nil]); first | done | rfl | (simp only [List.length_drop, List.length_take]; rfl)) ?_; (with_reducible refine (lines_Line.calls kj29 a0 x17_3 t384 t385 _ ?side1 A33.out).mono ?_); (case side1 => exact GOK_below HG.out (by repeat (first | (with_reducible first | exact HB.out | apply below_alloc | apply pw_below_drewN | apply below_drew1) | exact HB.out))); rintro e w40 ⟨rfl, hb⟩; refine ⟨_, rfl, ?_⟩; have n0_ := Aside0.mk (Kd.R_below (by (with_reducible repeat (first | apply Kd.R_alloc | apply Kd.R_drewN | apply Kd.R_drew)); exact HO_9.out) hb); have n1_ := Aside0.mk (below_step (by repeat (first | (with_reducible first | exact HB.out | apply below_alloc | apply pw_below_drewN | apply below_drew1) | exact HB.out)) hb); clear HO_9; clear HB; have HO_9 := n0_; have HB := n1_; clear n0_ n1_; (try clear hb); (try clear hb2); (try clear hk); (try clear hi)))
                     go_roundg kj29
                     case measure => have := HJ4.out; have := HJ15.out; have := HK3.out; have := HJ29.out; omega
                     case rel => exact ⟨(x16_3 ++ t384), (wrap64 (x17_3 + 1)), (by first | rfl | (simp; done) | (simp [*]; done)), (by first | rfl | (simp; done) | (simp [*]; done)), H', ⟨by have := HJ4.out; have := HJ15.out; have := HK3.out; have := HJ29.out; omega⟩, ⟨by (with_reducible repeat (first | apply Kd.R_alloc | apply Kd.R_drewN | apply Kd.R_drew)); exact HO_9.out⟩, ⟨by repeat (first | (with_reducible first | exact HB.out | apply below_alloc | apply pw_below_drewN | apply below_drew1) | exact HB.out)⟩⟩
                    ·
                     rw [if_neg c39] at H
                     exact absurd H (by simp)
                  ·
                   rw [if_neg c34] at H
                   exact absurd H (by simp)
                 ·
                  replace c32 := Bool.eq_false_iff.mpr c32
                  subst c32
                  have H1 : (if x16_3.toList = a0.toList then (if (wrap64 (t377 + (wrap64 (a2)))) < t380 then ((lines_Move.f kj29 a0 (Int.tmod (wrap64 (a1)) (wrap64 ((t372.length : Int) + 1))) (wrap64 (a2)) (wrap64 (a3))).bind fun bt386 => ((lines_Move.f kj29 a0 bt386.1 (wrap64 (-(wrap64 (a2)))) (wrap64 (a3))).bind fun bt388 => ((lines_Place.f kj29 a0 bt388.1).bind fun bt390 => (if bt386.2 = 0 then (if bt388.2 = 0 then (if bt390.2.2 = 0 then (if bt390.1 = t377 then (redpencillaw41_LinesHolds.j4 kj29 a0 t372 (Int.tmod (wrap64 (a1)) (wrap64 ((t372.length : Int) + 1)))) else (some false)) else (some false)) else (some false)) else (some false))))) else (redpencillaw41_LinesHolds.j4 kj29 a0 t372 (Int.tmod (wrap64 (a1)) (wrap64 ((t372.length : Int) + 1))))) else (some false)) = some true := by rw [if_neg (show ¬ (false = true) by decide)] at H; exact H
                  clear H
                  have H := H1
                  clear H1
                  by_cases c42 : x16_3.toList = a0.toList
                  ·
                   rw [if_pos c42] at H
                   have c42b0 : (x16_3.toList == a0.toList) = true := beq_iff_eq.mpr c42
                   have c42b1 : (x16_3.toList != a0.toList) = false := bne_eq_false_iff_eq.mpr c42
                   clear c42
                   have HC43 := Aside0.mk H
                   clear H
                   go_upto_if 125 with (fail)
                   go_cut [] (fun wc => ∃ (kq : Nat), Aside0 (redpencillaw41_LinesHolds.j4 kq a0 t372 (Int.tmod (wrap64 (a1)) (wrap64 ((t372.length : Int) + 1))) = some true) ∧ Aside0 (kq ≤ kj29) ∧ Aside0 (Kd.R (Kd.int .i32) 21 wc w.heap.size (fun _ => True) (.slice Ao18 t372.length co18) t372) ∧ Aside0 (Below w.heap.size w wc))
                   case first =>
                    have H := HC43.out
                    clear HC43
                    by_cases c44 : (wrap64 (t377 + (wrap64 (a2)))) < t380
                    ·
                     rw [if_pos c44] at H
                     have c44b0 : decide ((wrap64 (t377 + (wrap64 (a2)))) < t380) = true := decide_eq_true c44
                     clear c44
                     (first | rw [c44b0] | (simp only [i64_w, i32_w]; rw [c44b0]) | skip)
                     replace H := Option.bind_eq_some_iff.mp H
                     obtain ⟨⟨t386, t387⟩, A450, H⟩ := H
                     replace H : ((lines_Move.f kj29 a0 t386 (wrap64 (-(wrap64 (a2)))) (wrap64 (a3))).bind fun bt388 => ((lines_Place.f kj29 a0 bt388.1).bind fun bt390 => (if t387 = 0 then (if bt388.2 = 0 then (if bt390.2.2 = 0 then (if bt390.1 = t377 then (redpencillaw41_LinesHolds.j4 kj29 a0 t372 (Int.tmod (wrap64 (a1)) (wrap64 ((t372.length : Int) + 1)))) else (some false)) else (some false)) else (some false)) else (some false)))) = some true := H
                     have A45 := Aside0.mk A450
                     clear A450
                     replace H := Option.bind_eq_some_iff.mp H
                     obtain ⟨⟨t388, t389⟩, A460, H⟩ := H
                     replace H : ((lines_Place.f kj29 a0 t388).bind fun bt390 => (if t387 = 0 then (if t389 = 0 then (if bt390.2.2 = 0 then (if bt390.1 = t377 then (redpencillaw41_LinesHolds.j4 kj29 a0 t372 (Int.tmod (wrap64 (a1)) (wrap64 ((t372.length : Int) + 1)))) else (some false)) else (some false)) else (some false)) else (some false))) = some true := H
                     have A46 := Aside0.mk A460
                     clear A460
                     replace H := Option.bind_eq_some_iff.mp H
                     obtain ⟨⟨t390, t391, t392⟩, A470, H⟩ := H
                     replace H : (if t387 = 0 then (if t389 = 0 then (if t392 = 0 then (if t390 = t377 then (redpencillaw41_LinesHolds.j4 kj29 a0 t372 (Int.tmod (wrap64 (a1)) (wrap64 ((t372.length : Int) + 1)))) else (some false)) else (some false)) else (some false)) else (some false)) = some true := H
                     have A47 := Aside0.mk A470
                     clear A470
                     by_cases c48 : t387 = 0
                     ·
                      rw [if_pos c48] at H
                      have c48b0 : (t387 == 0) = true := beq_iff_eq.mpr c48
                      have c48b1 : (t387 != 0) = false := bne_eq_false_iff_eq.mpr c48
                      clear c48
                      by_cases c49 : t389 = 0
                      ·
                       rw [if_pos c49] at H
                       have c49b0 : (t389 == 0) = true := beq_iff_eq.mpr c49
                       have c49b1 : (t389 != 0) = false := bne_eq_false_iff_eq.mpr c49
                       clear c49
                       by_cases c50 : t392 = 0
                       ·
                        rw [if_pos c50] at H
                        have c50b0 : (t392 == 0) = true := beq_iff_eq.mpr c50
                        have c50b1 : (t392 != 0) = false := bne_eq_false_iff_eq.mpr c50
                        clear c50
                        by_cases c51 : t390 = t377
                        ·
                         rw [if_pos c51] at H
                         have c51b0 : (t390 == t377) = true := beq_iff_eq.mpr c51
                         have c51b1 : (t390 != t377) = false := bne_eq_false_iff_eq.mpr c51
                         clear c51
                         have H' := Aside0.mk H
                         clear H
                         go_wp2_with (first | ((with_reducible refine gate_callee (f := 27) rfl ?_); refine goesL_ (some 133) rfl rfl Tryd.func27 (by kernel_rfl) rfl #[.string a0, .int .i64 (Int.tmod (wrap64 (a1)) (wrap64 ((t372.length : Int) + 1))), .int .i64 (wrap64 (a2)), .int .i64 (wrap64 (a3))] rfl (by (try simp only [List.map_toArray, List.map_cons, List.map_nil]); first | done | rfl | (simp only [List.length_drop, List.length_take]; rfl)) ?_; (with_reducible refine (lines_Move.calls kj29 a0 (Int.tmod (wrap64 (a1)) (wrap64 ((t372.length : Int) + 1))) (wrap64 (a2)) (wrap64 (a3)) t386 t387 _ ?side1 A45.out).mono ?_); (case side1 => exact GOK_below HG.out (by repeat (first | (with_reducible first | exact HB.out | apply below_alloc | apply pw_below_drewN | apply below_drew1) | exact HB.out))); rintro e w52 ⟨rfl, hb⟩; refine ⟨_, rfl, ?_⟩; have n0_ := Aside0.mk (Kd.R_below (by (with_reducible repeat (first | apply Kd.R_alloc | apply Kd.R_drewN | apply Kd.R_drew)); exact HO_9.out) hb); have n1_ := Aside0.mk (below_step (by repeat (first | (with_reducible first | exact HB.out | apply below_alloc | apply pw_below_drewN | apply below_drew1) | exact HB.out)) hb); clear HO_9; clear HB; have HO_9 := n0_; have HB := n1_; clear n0_ n1_; (try clear hb); (try clear hb2); (try clear hk); (try clear hi)) | ((with_reducible refine gate_callee (f := 27) rfl ?_); refine goesL_ (some 144) rfl rfl Tryd.func27 (by kernel_rfl) rfl #[.string a0, .int .i64 t386, .int .i64 (wrap64 (-(wrap64 (a2)))), .int .i64 (wrap64 (a3))] rfl (by (try simp only [List.map_toArray, List.map_cons, List.map_nil]); first | done | rfl | (simp only [List.length_drop, List.length_take]; rfl)) ?_; (with_reducible refine (lines_Move.calls kj29 a0 t386 (wrap64 (-(wrap64 (a2)))) (wrap64 (a3)) t388 t389 _ ?side1 A46.out).mono ?_); (case side1 => exact GOK_below HG.out (by repeat (first | (with_reducible first | exact HB.out | apply below_alloc | apply pw_below_drewN | apply below_drew1) | exact HB.out))); rintro e w53 ⟨rfl, hb⟩; refine ⟨_, rfl, ?_⟩; have n0_ := Aside0.mk (Kd.R_below (by (with_reducible repeat (first | apply Kd.R_alloc | apply Kd.R_drewN | apply Kd.R_drew)); exact HO_9.out) hb); have n1_ := Aside0.mk (below_step (by repeat (first | (with_reducible first | exact HB.out | apply below_alloc | apply pw_below_drewN | apply below_drew1) | exact HB.out)) hb); clear HO_9; clear HB; have HO_9 := n0_; have HB := n1_; clear n0_ n1_; (try clear hb); (try clear hb2); (try clear hk); (try clear hi)) | ((with_reducible refine gate_callee (f := 24) rfl ?_); refine goesL_ (some 150) rfl rfl Tryd.func24 (by kernel_rfl) rfl #[.string a0, .int .i64 t388] rfl (by (try simp only [List.map_toArray, List.map_cons, List.map_nil]); first | done | rfl | (simp only [List.length_drop, List.length_take]; rfl)) ?_; (with_reducible refine (lines_Place.calls kj29 a0 t388 t390 t391 t392 _ ?side1 A47.out).mono ?_); (case side1 => exact GOK_below HG.out (by repeat (first | (with_reducible first | exact HB.out | apply below_alloc | apply pw_below_drewN | apply below_drew1) | exact HB.out))); rintro e w54 ⟨rfl, hb⟩; refine ⟨_, rfl, ?_⟩; have n0_ := Aside0.mk (Kd.R_below (by (with_reducible repeat (first | apply Kd.R_alloc | apply Kd.R_drewN | apply Kd.R_drew)); exact HO_9.out) hb); have n1_ := Aside0.mk (below_step (by repeat (first | (with_reducible first | exact HB.out | apply below_alloc | apply pw_below_drewN | apply below_drew1) | exact HB.out)) hb); clear HO_9; clear HB; have HO_9 := n0_; have HB := n1_; clear n0_ n1_; (try clear hb); (try clear hb2); (try clear hk); (try clear hi)))
                         go_meet
                         case rel => exact ⟨_, H', ⟨by have := HJ4.out; have := HJ15.out; have := HK3.out; have := HJ29.out; first | omega | exact Nat.le_refl _⟩, ⟨by (with_reducible repeat (first | apply Kd.R_alloc | apply Kd.R_drewN | apply Kd.R_drew)); exact HO_9.out⟩, ⟨by repeat (first | (with_reducible first | exact HB.out | apply below_alloc | apply pw_below_drewN | apply below_drew1) | exact HB.out)⟩⟩
                        ·
                         rw [if_neg c51] at H
                         exact absurd H (by simp)
                       ·
                        rw [if_neg c50] at H
                        exact absurd H (by simp)
                      ·
                       rw [if_neg c49] at H
                       exact absurd H (by simp)
                     ·
                      rw [if_neg c48] at H
                      exact absurd H (by simp)
                    ·
                     rw [if_neg c44] at H
                     have c44b0 : decide ((wrap64 (t377 + (wrap64 (a2)))) < t380) = false := decide_eq_false c44
                     clear c44
                     (first | rw [c44b0] | (simp only [i64_w, i32_w]; rw [c44b0]) | skip)
                     have H' := Aside0.mk H
                     clear H
                     go_wp2
                     go_meet
                     case rel => exact ⟨_, H', ⟨by have := HJ4.out; have := HJ15.out; have := HK3.out; have := HJ29.out; first | omega | exact Nat.le_refl _⟩, ⟨by (with_reducible repeat (first | apply Kd.R_alloc | apply Kd.R_drewN | apply Kd.R_drew)); exact HO_9.out⟩, ⟨by repeat (first | (with_reducible first | exact HB.out | apply below_alloc | apply pw_below_drewN | apply below_drew1) | exact HB.out)⟩⟩
                   case rest =>
                    as_aux_lemma =>
                     clear HC43
                     try clear c1
                     try clear c2
                     try clear p2
                     try clear c3
                     try clear c4
                     try clear c5
                     try clear c6
                     try clear c6b0
                     try clear c6b1
                     try clear p6
                     try clear c7
                     try clear c7b0
                     try clear c8
                     try clear c9
                     try clear c10
                     try clear c12
                     try clear c12b0
                     try clear c12b1
                     try clear c13
                     try clear c13b0
                     try clear c13b1
                     try clear c21
                     try clear c21b0
                     try clear c21b1
                     try clear c22
                     try clear c22b0
                     try clear c22b1
                     try clear c24
                     try clear c25
                     try clear c26
                     try clear c27
                     try clear c29
                     try clear c31
                     try clear c31b0
                     try clear c32
                     try clear c34
                     try clear c34b0
                     try clear c34b1
                     try clear c35
                     try clear c35b0
                     try clear c36
                     try clear c36b0
                     try clear c36b1
                     try clear c36b2
                     try clear c37
                     try clear c37b0
                     try clear c37b1
                     try clear c37b2
                     try clear c39
                     try clear c39b0
                     try clear c39b1
                     try clear c39b2
                     try clear c42
                     try clear c42b0
                     try clear c42b1
                     try clear c44
                     try clear c44b0
                     try clear c48
                     try clear c48b0
                     try clear c48b1
                     try clear c49
                     try clear c49b0
                     try clear c49b1
                     try clear c50
                     try clear c50b0
                     try clear c50b1
                     try clear c51
                     try clear c51b0
                     try clear c51b1
                     try clear p64
                     try clear p2
                     try clear p6
                     obtain ⟨kq, HA, HJ42, HO_9, HB⟩ := hcut
                     cases kq with
                     | zero => exact absurd HA.out (by simp [redpencillaw41_LinesHolds.j4])
                     | succ kj42 =>
                      have H := HA.out
                      clear HA
                      simp only [redpencillaw41_LinesHolds.j4] at H
                      replace H := Option.bind_eq_some_iff.mp H
                      obtain ⟨⟨t393, t394⟩, A670, H⟩ := H
                      replace H : ((lines_Back.f kj42 a0 t393).bind fun bt395 => ((lines_Word.f kj42 a0 (Int.tmod (wrap64 (a1)) (wrap64 ((t372.length : Int) + 1)))).bind fun bt397 => (if t394 = 0 then (if bt395.2 = 0 then (if bt397.2.2 = 0 then (if t393 < (Int.tmod (wrap64 (a1)) (wrap64 ((t372.length : Int) + 1))) then (redpencillaw41_LinesHolds.j5 kj42 t372 bt397.1 bt397.2.1 true) else (if bt397.1 > (Int.tmod (wrap64 (a1)) (wrap64 ((t372.length : Int) + 1))) then (redpencillaw41_LinesHolds.j5 kj42 t372 bt397.1 bt397.2.1 true) else (if bt397.2.1 < (Int.tmod (wrap64 (a1)) (wrap64 ((t372.length : Int) + 1))) then (redpencillaw41_LinesHolds.j5 kj42 t372 bt397.1 bt397.2.1 true) else (if bt397.1 < 0 then (redpencillaw41_LinesHolds.j5 kj42 t372 bt397.1 bt397.2.1 true) else (if bt397.2.1 > (t372.length : Int) then (redpencillaw41_LinesHolds.j5 kj42 t372 bt397.1 bt397.2.1 true) else (if (Int.tmod (wrap64 (a1)) (wrap64 ((t372.length : Int) + 1))) < (t372.length : Int) then (if 0 ≤ (Int.tmod (wrap64 (a1)) (wrap64 ((t372.length : Int) + 1))) then ((redpencillaw41_lettered.f (rd t372 (Int.tmod (wrap64 (a1)) (wrap64 ((t372.length : Int) + 1))))).bind fun t401 => (if t401 = true then (redpencillaw41_LinesHolds.j5 kj42 t372 bt397.1 bt397.2.1 (decide (bt395.1 > (Int.tmod (wrap64 (a1)) (wrap64 ((t372.length : Int) + 1)))))) else (redpencillaw41_LinesHolds.j5 kj42 t372 bt397.1 bt397.2.1 false))) else (none)) else (redpencillaw41_LinesHolds.j5 kj42 t372 bt397.1 bt397.2.1 false))))))) else (redpencillaw41_LinesHolds.j5 kj42 t372 bt397.1 bt397.2.1 true)) else (redpencillaw41_LinesHolds.j5 kj42 t372 bt397.1 bt397.2.1 true)) else (redpencillaw41_LinesHolds.j5 kj42 t372 bt397.1 bt397.2.1 true)))) = some true := H
                      have A67 := Aside0.mk A670
                      clear A670
                      replace H := Option.bind_eq_some_iff.mp H
                      obtain ⟨⟨t395, t396⟩, A680, H⟩ := H
                      replace H : ((lines_Word.f kj42 a0 (Int.tmod (wrap64 (a1)) (wrap64 ((t372.length : Int) + 1)))).bind fun bt397 => (if t394 = 0 then (if t396 = 0 then (if bt397.2.2 = 0 then (if t393 < (Int.tmod (wrap64 (a1)) (wrap64 ((t372.length : Int) + 1))) then (redpencillaw41_LinesHolds.j5 kj42 t372 bt397.1 bt397.2.1 true) else (if bt397.1 > (Int.tmod (wrap64 (a1)) (wrap64 ((t372.length : Int) + 1))) then (redpencillaw41_LinesHolds.j5 kj42 t372 bt397.1 bt397.2.1 true) else (if bt397.2.1 < (Int.tmod (wrap64 (a1)) (wrap64 ((t372.length : Int) + 1))) then (redpencillaw41_LinesHolds.j5 kj42 t372 bt397.1 bt397.2.1 true) else (if bt397.1 < 0 then (redpencillaw41_LinesHolds.j5 kj42 t372 bt397.1 bt397.2.1 true) else (if bt397.2.1 > (t372.length : Int) then (redpencillaw41_LinesHolds.j5 kj42 t372 bt397.1 bt397.2.1 true) else (if (Int.tmod (wrap64 (a1)) (wrap64 ((t372.length : Int) + 1))) < (t372.length : Int) then (if 0 ≤ (Int.tmod (wrap64 (a1)) (wrap64 ((t372.length : Int) + 1))) then ((redpencillaw41_lettered.f (rd t372 (Int.tmod (wrap64 (a1)) (wrap64 ((t372.length : Int) + 1))))).bind fun t401 => (if t401 = true then (redpencillaw41_LinesHolds.j5 kj42 t372 bt397.1 bt397.2.1 (decide (t395 > (Int.tmod (wrap64 (a1)) (wrap64 ((t372.length : Int) + 1)))))) else (redpencillaw41_LinesHolds.j5 kj42 t372 bt397.1 bt397.2.1 false))) else (none)) else (redpencillaw41_LinesHolds.j5 kj42 t372 bt397.1 bt397.2.1 false))))))) else (redpencillaw41_LinesHolds.j5 kj42 t372 bt397.1 bt397.2.1 true)) else (redpencillaw41_LinesHolds.j5 kj42 t372 bt397.1 bt397.2.1 true)) else (redpencillaw41_LinesHolds.j5 kj42 t372 bt397.1 bt397.2.1 true))) = some true := H
                      have A68 := Aside0.mk A680
                      clear A680
                      replace H := Option.bind_eq_some_iff.mp H
                      obtain ⟨⟨t397, t398, t399⟩, A690, H⟩ := H
                      replace H : (if t394 = 0 then (if t396 = 0 then (if t399 = 0 then (if t393 < (Int.tmod (wrap64 (a1)) (wrap64 ((t372.length : Int) + 1))) then (redpencillaw41_LinesHolds.j5 kj42 t372 t397 t398 true) else (if t397 > (Int.tmod (wrap64 (a1)) (wrap64 ((t372.length : Int) + 1))) then (redpencillaw41_LinesHolds.j5 kj42 t372 t397 t398 true) else (if t398 < (Int.tmod (wrap64 (a1)) (wrap64 ((t372.length : Int) + 1))) then (redpencillaw41_LinesHolds.j5 kj42 t372 t397 t398 true) else (if t397 < 0 then (redpencillaw41_LinesHolds.j5 kj42 t372 t397 t398 true) else (if t398 > (t372.length : Int) then (redpencillaw41_LinesHolds.j5 kj42 t372 t397 t398 true) else (if (Int.tmod (wrap64 (a1)) (wrap64 ((t372.length : Int) + 1))) < (t372.length : Int) then (if 0 ≤ (Int.tmod (wrap64 (a1)) (wrap64 ((t372.length : Int) + 1))) then ((redpencillaw41_lettered.f (rd t372 (Int.tmod (wrap64 (a1)) (wrap64 ((t372.length : Int) + 1))))).bind fun t401 => (if t401 = true then (redpencillaw41_LinesHolds.j5 kj42 t372 t397 t398 (decide (t395 > (Int.tmod (wrap64 (a1)) (wrap64 ((t372.length : Int) + 1)))))) else (redpencillaw41_LinesHolds.j5 kj42 t372 t397 t398 false))) else (none)) else (redpencillaw41_LinesHolds.j5 kj42 t372 t397 t398 false))))))) else (redpencillaw41_LinesHolds.j5 kj42 t372 t397 t398 true)) else (redpencillaw41_LinesHolds.j5 kj42 t372 t397 t398 true)) else (redpencillaw41_LinesHolds.j5 kj42 t372 t397 t398 true)) = some true := H
                      have A69 := Aside0.mk A690
                      clear A690
                      have HC70 := Aside0.mk H
                      clear H
                      go_upto_region 32 with (first | ((with_reducible refine gate_callee (f := 28) rfl ?_); refine goesL_ (some 172) rfl rfl Tryd.func28 (by kernel_rfl) rfl #[.string a0, .int .i64 (Int.tmod (wrap64 (a1)) (wrap64 ((t372.length : Int) + 1)))] rfl (by (try simp only [List.map_toArray, List.map_cons, List.map_nil]); first | done | rfl | (simp only [List.length_drop, List.length_take]; rfl)) ?_; (with_reducible refine (lines_Next.calls kj42 a0 (Int.tmod (wrap64 (a1)) (wrap64 ((t372.length : Int) + 1))) t393 t394 _ ?side1 A67.out).mono ?_); (case side1 => exact GOK_below HG.out (by repeat (first | (with_reducible first | exact HB.out | apply below_alloc | apply pw_below_drewN | apply below_drew1) | exact HB.out))); rintro e w71 ⟨rfl, hb⟩; refine ⟨_, rfl, ?_⟩; have n0_ := Aside0.mk (Kd.R_below (by (with_reducible repeat (first | apply Kd.R_alloc | apply Kd.R_drewN | apply Kd.R_drew)); exact HO_9.out) hb); have n1_ := Aside0.mk (below_step (by repeat (first | (with_reducible first | exact HB.out | apply below_alloc | apply pw_below_drewN | apply below_drew1) | exact HB.out)) hb); clear HO_9; clear HB; have HO_9 := n0_; have HB := n1_; clear n0_ n1_; (try clear hb); (try clear hb2); (try clear hk); (try clear hi)) | ((with_reducible refine gate_callee (f := 29) rfl ?_); refine goesL_ (some 178) rfl rfl Tryd.func29 (by kernel_rfl) rfl #[.string a0, .int .i64 t393] rfl (by (try simp only [List.map_toArray, List.map_cons, List.map_nil]); first | done | rfl | (simp only [List.length_drop, List.length_take]; rfl)) ?_; (with_reducible refine (lines_Back.calls kj42 a0 t393 t395 t396 _ ?side1 A68.out).mono ?_); (case side1 => exact GOK_below HG.out (by repeat (first | (with_reducible first | exact HB.out | apply below_alloc | apply pw_below_drewN | apply below_drew1) | exact HB.out))); rintro e w72 ⟨rfl, hb⟩; refine ⟨_, rfl, ?_⟩; have n0_ := Aside0.mk (Kd.R_below (by (with_reducible repeat (first | apply Kd.R_alloc | apply Kd.R_drewN | apply Kd.R_drew)); exact HO_9.out) hb); have n1_ := Aside0.mk (below_step (by repeat (first | (with_reducible first | exact HB.out | apply below_alloc | apply pw_below_drewN | apply below_drew1) | exact HB.out)) hb); clear HO_9; clear HB; have HO_9 := n0_; have HB := n1_; clear n0_ n1_; (try clear hb); (try clear hb2); (try clear hk); (try clear hi)) | ((with_reducible refine gate_callee (f := 30) rfl ?_); refine goesL_ (some 184) rfl rfl Tryd.func30 (by kernel_rfl) rfl #[.string a0, .int .i64 (Int.tmod (wrap64 (a1)) (wrap64 ((t372.length : Int) + 1)))] rfl (by (try simp only [List.map_toArray, List.map_cons, List.map_nil]); first | done | rfl | (simp only [List.length_drop, List.length_take]; rfl)) ?_; (with_reducible refine (lines_Word.calls kj42 a0 (Int.tmod (wrap64 (a1)) (wrap64 ((t372.length : Int) + 1))) t397 t398 t399 _ ?side1 A69.out).mono ?_); (case side1 => exact GOK_below HG.out (by repeat (first | (with_reducible first | exact HB.out | apply below_alloc | apply pw_below_drewN | apply below_drew1) | exact HB.out))); rintro e w73 ⟨rfl, hb⟩; refine ⟨_, rfl, ?_⟩; have n0_ := Aside0.mk (Kd.R_below (by (with_reducible repeat (first | apply Kd.R_alloc | apply Kd.R_drewN | apply Kd.R_drew)); exact HO_9.out) hb); have n1_ := Aside0.mk (below_step (by repeat (first | (with_reducible first | exact HB.out | apply below_alloc | apply pw_below_drewN | apply below_drew1) | exact HB.out)) hb); clear HO_9; clear HB; have HO_9 := n0_; have HB := n1_; clear n0_ n1_; (try clear hb); (try clear hb2); (try clear hk); (try clear hi)))
                      (try simp only [Act.put, List.setIfInBounds_toArray, List.set_cons_zero, List.set_cons_succ])
                      go_cut [240] (fun v240 wc => ∃ (kq : Nat) (x240_69 : Bool), v240 = .bool x240_69 ∧ Aside0 (redpencillaw41_LinesHolds.j5 kq t372 t397 t398 x240_69 = some true) ∧ Aside0 (kq ≤ kj42) ∧ Aside0 (Kd.R (Kd.int .i32) 21 wc w.heap.size (fun _ => True) (.slice Ao18 t372.length co18) t372) ∧ Aside0 (Below w.heap.size w wc))
                      case first =>
                       have H := HC70.out
                       clear HC70
                       by_cases c74 : t394 = 0
                       ·
                        rw [if_pos c74] at H
                        have c74b0 : (t394 == 0) = true := beq_iff_eq.mpr c74
                        have c74b1 : (t394 != 0) = false := bne_eq_false_iff_eq.mpr c74
                        clear c74
                        (first | rw [c74b0] | (simp only [i64_w, i32_w]; rw [c74b0]) | skip)
                        by_cases c75 : t396 = 0
                        ·
                         rw [if_pos c75] at H
                         have c75b0 : (t396 == 0) = true := beq_iff_eq.mpr c75
                         have c75b1 : (t396 != 0) = false := bne_eq_false_iff_eq.mpr c75
                         clear c75
                         by_cases c76 : t399 = 0
                         ·
                          rw [if_pos c76] at H
                          have c76b0 : (t399 == 0) = true := beq_iff_eq.mpr c76
                          have c76b1 : (t399 != 0) = false := bne_eq_false_iff_eq.mpr c76
                          clear c76
                          by_cases c77 : t393 < (Int.tmod (wrap64 (a1)) (wrap64 ((t372.length : Int) + 1)))
                          ·
                           rw [if_pos c77] at H
                           have c77b0 : decide (t393 < (Int.tmod (wrap64 (a1)) (wrap64 ((t372.length : Int) + 1)))) = true := decide_eq_true c77
                           clear c77
                           have H' := Aside0.mk H
                           clear H
                           go_wp2
                           go_meet
                           case rel => exact ⟨_, (true), (by first | rfl | (simp; done) | (simp [*]; done)), H', ⟨by have := HJ4.out; have := HJ15.out; have := HK3.out; have := HJ29.out; have := HJ42.out; first | omega | exact Nat.le_refl _⟩, ⟨by (with_reducible repeat (first | apply Kd.R_alloc | apply Kd.R_drewN | apply Kd.R_drew)); exact HO_9.out⟩, ⟨by repeat (first | (with_reducible first | exact HB.out | apply below_alloc | apply pw_below_drewN | apply below_drew1) | exact HB.out)⟩⟩
                          ·
                           rw [if_neg c77] at H
                           have c77b0 : decide (t393 < (Int.tmod (wrap64 (a1)) (wrap64 ((t372.length : Int) + 1)))) = false := decide_eq_false c77
                           clear c77
                           by_cases c78 : t397 > (Int.tmod (wrap64 (a1)) (wrap64 ((t372.length : Int) + 1)))
                           ·
                            rw [if_pos c78] at H
                            have c78b0 : decide ((Int.tmod (wrap64 (a1)) (wrap64 ((t372.length : Int) + 1))) < t397) = true := decide_eq_true c78
                            clear c78
                            have H' := Aside0.mk H
                            clear H
                            go_wp2
                            go_meet
                            case rel => exact ⟨_, (true), (by first | rfl | (simp; done) | (simp [*]; done)), H', ⟨by have := HJ4.out; have := HJ15.out; have := HK3.out; have := HJ29.out; have := HJ42.out; first | omega | exact Nat.le_refl _⟩, ⟨by (with_reducible repeat (first | apply Kd.R_alloc | apply Kd.R_drewN | apply Kd.R_drew)); exact HO_9.out⟩, ⟨by repeat (first | (with_reducible first | exact HB.out | apply below_alloc | apply pw_below_drewN | apply below_drew1) | exact HB.out)⟩⟩
                           ·
                            rw [if_neg c78] at H
                            have c78b0 : decide ((Int.tmod (wrap64 (a1)) (wrap64 ((t372.length : Int) + 1))) < t397) = false := decide_eq_false c78
                            clear c78
                            by_cases c79 : t398 < (Int.tmod (wrap64 (a1)) (wrap64 ((t372.length : Int) + 1)))
                            ·
                             rw [if_pos c79] at H
                             have c79b0 : decide (t398 < (Int.tmod (wrap64 (a1)) (wrap64 ((t372.length : Int) + 1)))) = true := decide_eq_true c79
                             clear c79
                             have H' := Aside0.mk H
                             clear H
                             go_wp2
                             go_meet
                             case rel => exact ⟨_, (true), (by first | rfl | (simp; done) | (simp [*]; done)), H', ⟨by have := HJ4.out; have := HJ15.out; have := HK3.out; have := HJ29.out; have := HJ42.out; first | omega | exact Nat.le_refl _⟩, ⟨by (with_reducible repeat (first | apply Kd.R_alloc | apply Kd.R_drewN | apply Kd.R_drew)); exact HO_9.out⟩, ⟨by repeat (first | (with_reducible first | exact HB.out | apply below_alloc | apply pw_below_drewN | apply below_drew1) | exact HB.out)⟩⟩
                            ·
                             rw [if_neg c79] at H
                             have c79b0 : decide (t398 < (Int.tmod (wrap64 (a1)) (wrap64 ((t372.length : Int) + 1)))) = false := decide_eq_false c79
                             clear c79
                             by_cases c80 : t397 < 0
                             ·
                              rw [if_pos c80] at H
                              have c80b0 : decide (t397 < 0) = true := decide_eq_true c80
                              clear c80
                              have H' := Aside0.mk H
                              clear H
                              go_wp2
                              go_meet
                              case rel => exact ⟨_, (true), (by first | rfl | (simp; done) | (simp [*]; done)), H', ⟨by have := HJ4.out; have := HJ15.out; have := HK3.out; have := HJ29.out; have := HJ42.out; first | omega | exact Nat.le_refl _⟩, ⟨by (with_reducible repeat (first | apply Kd.R_alloc | apply Kd.R_drewN | apply Kd.R_drew)); exact HO_9.out⟩, ⟨by repeat (first | (with_reducible first | exact HB.out | apply below_alloc | apply pw_below_drewN | apply below_drew1) | exact HB.out)⟩⟩
                             ·
                              rw [if_neg c80] at H
                              have c80b0 : decide (t397 < 0) = false := decide_eq_false c80
                              clear c80
                              by_cases c81 : t398 > (t372.length : Int)
                              ·
                               rw [if_pos c81] at H
                               have c81b0 : decide ((t372.length : Int) < t398) = true := decide_eq_true c81
                               clear c81
                               have H' := Aside0.mk H
                               clear H
                               go_wp2
                               go_meet
                               case rel => exact ⟨_, (true), (by first | rfl | (simp; done) | (simp [*]; done)), H', ⟨by have := HJ4.out; have := HJ15.out; have := HK3.out; have := HJ29.out; have := HJ42.out; first | omega | exact Nat.le_refl _⟩, ⟨by (with_reducible repeat (first | apply Kd.R_alloc | apply Kd.R_drewN | apply Kd.R_drew)); exact HO_9.out⟩, ⟨by repeat (first | (with_reducible first | exact HB.out | apply below_alloc | apply pw_below_drewN | apply below_drew1) | exact HB.out)⟩⟩
                              ·
                               rw [if_neg c81] at H
                               have c81b0 : decide ((t372.length : Int) < t398) = false := decide_eq_false c81
                               clear c81
                               by_cases c82 : (Int.tmod (wrap64 (a1)) (wrap64 ((t372.length : Int) + 1))) < (t372.length : Int)
                               ·
                                rw [if_pos c82] at H
                                have c82b0 : decide ((Int.tmod (wrap64 (a1)) (wrap64 ((t372.length : Int) + 1))) < (t372.length : Int)) = true := decide_eq_true c82
                                clear c82
                                obtain ⟨ji83, hji83⟩ : ∃ j_ : Int, (Int.tmod (wrap64 (a1)) (wrap64 ((t372.length : Int) + 1))) = j_ := ⟨_, rfl⟩
                                replace H : (if 0 ≤ (ji83) then ((redpencillaw41_lettered.f (rd t372 (ji83))).bind fun t401 => (if t401 = true then (redpencillaw41_LinesHolds.j5 kj42 t372 t397 t398 (decide (t395 > (ji83)))) else (redpencillaw41_LinesHolds.j5 kj42 t372 t397 t398 false))) else (none)) = some true := by first | (rw [hji83] at H; exact H) | (simp only [hji83] at H ⊢; exact H)
                                (try rw [hji83] at c77b0)
                                (try rw [hji83] at c78b0)
                                (try rw [hji83] at c79b0)
                                (try rw [hji83] at c82b0)
                                by_cases c84 : 0 ≤ (ji83)
                                ·
                                 rw [if_pos c84] at H
                                 have c84b0 : decide (0 ≤ (ji83)) = true := decide_eq_true c84
                                 clear c84
                                 replace H := Option.bind_eq_some_iff.mp H
                                 obtain ⟨t401, A850, H⟩ := H
                                 replace H : (if t401 = true then (redpencillaw41_LinesHolds.j5 kj42 t372 t397 t398 (decide (t395 > (ji83)))) else (redpencillaw41_LinesHolds.j5 kj42 t372 t397 t398 false)) = some true := H
                                 have A85 := Aside0.mk A850
                                 clear A850
                                 by_cases c86 : t401 = true
                                 ·
                                  subst c86
                                  have H1 : (redpencillaw41_LinesHolds.j5 kj42 t372 t397 t398 (decide (t395 > (ji83)))) = some true := by rw [if_pos rfl] at H; exact H
                                  clear H
                                  have H := H1
                                  clear H1
                                  have H' := Aside0.mk H
                                  clear H
                                  have p400 : 0 ≤ ((ji83) : Int) := of_decide_eq_true (by first | (with_reducible assumption) | assumption)
                                  have q400 : (ji83) < (t372.length : Int) := of_decide_eq_true (by first | (with_reducible assumption) | assumption)
                                  obtain ⟨ad400, e400, hx400_0⟩ := Kd.at_int (Kd.R_reads' HO_9.out).2.2 (ji83) p400 q400
                                  cases e400
                                  replace p400 := eq_true p400
                                  replace q400 := eq_true q400
                                  go_wp2_with (first | (go_at_call 23; (with_reducible refine (redpencillaw41_lettered.calls (rd t372 (ji83)) true _ A85.out).mono ?_); rintro e w' ⟨rfl, ⟨nd, rfl⟩⟩))
                                  subst hji83
                                  go_meet
                                  case rel => exact ⟨_, (decide (t395 > ((Int.tmod (wrap64 (a1)) (wrap64 ((t372.length : Int) + 1)))))), (by first | rfl | (simp; done) | (simp only [← hji83] <;> (first | rfl | simp)) | (simp [*]; done)), H', ⟨by have := HJ4.out; have := HJ15.out; have := HK3.out; have := HJ29.out; have := HJ42.out; first | omega | exact Nat.le_refl _⟩, ⟨by (with_reducible repeat (first | apply Kd.R_alloc | apply Kd.R_drewN | apply Kd.R_drew)); exact HO_9.out⟩, ⟨by repeat (first | (with_reducible first | exact HB.out | apply below_alloc | apply pw_below_drewN | apply below_drew1) | exact HB.out)⟩⟩
                                 ·
                                  replace c86 := Bool.eq_false_iff.mpr c86
                                  subst c86
                                  have H1 : (redpencillaw41_LinesHolds.j5 kj42 t372 t397 t398 false) = some true := by rw [if_neg (show ¬ (false = true) by decide)] at H; exact H
                                  clear H
                                  have H := H1
                                  clear H1
                                  have H' := Aside0.mk H
                                  clear H
                                  have p400 : 0 ≤ ((ji83) : Int) := of_decide_eq_true (by first | (with_reducible assumption) | assumption)
                                  have q400 : (ji83) < (t372.length : Int) := of_decide_eq_true (by first | (with_reducible assumption) | assumption)
                                  obtain ⟨ad400, e400, hx400_0⟩ := Kd.at_int (Kd.R_reads' HO_9.out).2.2 (ji83) p400 q400
                                  cases e400
                                  replace p400 := eq_true p400
                                  replace q400 := eq_true q400
                                  go_wp2_with (first | (go_at_call 23; (with_reducible refine (redpencillaw41_lettered.calls (rd t372 (ji83)) false _ A85.out).mono ?_); rintro e w' ⟨rfl, ⟨nd, rfl⟩⟩))
                                  subst hji83
                                  go_meet
                                  case rel => exact ⟨_, (false), (by first | rfl | (simp; done) | (simp [*]; done)), H', ⟨by have := HJ4.out; have := HJ15.out; have := HK3.out; have := HJ29.out; have := HJ42.out; first | omega | exact Nat.le_refl _⟩, ⟨by (with_reducible repeat (first | apply Kd.R_alloc | apply Kd.R_drewN | apply Kd.R_drew)); exact HO_9.out⟩, ⟨by repeat (first | (with_reducible first | exact HB.out | apply below_alloc | apply pw_below_drewN | apply below_drew1) | exact HB.out)⟩⟩
                                ·
                                 rw [if_neg c84] at H
                                 exact absurd H (by simp)
                               ·
                                rw [if_neg c82] at H
                                have c82b0 : decide ((Int.tmod (wrap64 (a1)) (wrap64 ((t372.length : Int) + 1))) < (t372.length : Int)) = false := decide_eq_false c82
                                clear c82
                                have H' := Aside0.mk H
                                clear H
                                go_wp2
                                go_meet
                                case rel => exact ⟨_, (false), (by first | rfl | (simp; done) | (simp [*]; done)), H', ⟨by have := HJ4.out; have := HJ15.out; have := HK3.out; have := HJ29.out; have := HJ42.out; first | omega | exact Nat.le_refl _⟩, ⟨by (with_reducible repeat (first | apply Kd.R_alloc | apply Kd.R_drewN | apply Kd.R_drew)); exact HO_9.out⟩, ⟨by repeat (first | (with_reducible first | exact HB.out | apply below_alloc | apply pw_below_drewN | apply below_drew1) | exact HB.out)⟩⟩
                         ·
                          rw [if_neg c76] at H
                          have c76b0 : (t399 == 0) = false := beq_eq_false_iff_ne.mpr c76
                          have c76b1 : (t399 != 0) = true := bne_iff_ne.mpr c76
                          have H' := Aside0.mk H
                          clear H
                          go_wp2
                          go_meet
                          case rel => exact ⟨_, (true), (by first | rfl | (simp; done) | (simp [*]; done)), H', ⟨by have := HJ4.out; have := HJ15.out; have := HK3.out; have := HJ29.out; have := HJ42.out; first | omega | exact Nat.le_refl _⟩, ⟨by (with_reducible repeat (first | apply Kd.R_alloc | apply Kd.R_drewN | apply Kd.R_drew)); exact HO_9.out⟩, ⟨by repeat (first | (with_reducible first | exact HB.out | apply below_alloc | apply pw_below_drewN | apply below_drew1) | exact HB.out)⟩⟩
                        ·
                         rw [if_neg c75] at H
                         have c75b0 : (t396 == 0) = false := beq_eq_false_iff_ne.mpr c75
                         have c75b1 : (t396 != 0) = true := bne_iff_ne.mpr c75
                         have H' := Aside0.mk H
                         clear H
                         go_wp2
                         go_meet
                         case rel => exact ⟨_, (true), (by first | rfl | (simp; done) | (simp [*]; done)), H', ⟨by have := HJ4.out; have := HJ15.out; have := HK3.out; have := HJ29.out; have := HJ42.out; first | omega | exact Nat.le_refl _⟩, ⟨by (with_reducible repeat (first | apply Kd.R_alloc | apply Kd.R_drewN | apply Kd.R_drew)); exact HO_9.out⟩, ⟨by repeat (first | (with_reducible first | exact HB.out | apply below_alloc | apply pw_below_drewN | apply below_drew1) | exact HB.out)⟩⟩
                       ·
                        rw [if_neg c74] at H
                        have c74b0 : (t394 == 0) = false := beq_eq_false_iff_ne.mpr c74
                        have c74b1 : (t394 != 0) = true := bne_iff_ne.mpr c74
                        (first | rw [c74b0] | (simp only [i64_w, i32_w]; rw [c74b0]) | skip)
                        have H' := Aside0.mk H
                        clear H
                        go_wp2
                        go_meet
                        case rel => exact ⟨_, (true), (by first | rfl | (simp; done) | (simp [*]; done)), H', ⟨by have := HJ4.out; have := HJ15.out; have := HK3.out; have := HJ29.out; have := HJ42.out; first | omega | exact Nat.le_refl _⟩, ⟨by (with_reducible repeat (first | apply Kd.R_alloc | apply Kd.R_drewN | apply Kd.R_drew)); exact HO_9.out⟩, ⟨by repeat (first | (with_reducible first | exact HB.out | apply below_alloc | apply pw_below_drewN | apply below_drew1) | exact HB.out)⟩⟩
                      case rest =>
                       as_aux_lemma =>
                        clear HC70
                        try clear c1
                        try clear c2
                        try clear p2
                        try clear c3
                        try clear c4
                        try clear p4
                        try clear q4
                        try clear hx4
                        try clear c5
                        try clear c6
                        try clear c6b0
                        try clear c6b1
                        try clear p6
                        try clear c7
                        try clear c7b0
                        try clear c8
                        try clear c9
                        try clear c10
                        try clear c12
                        try clear c12b0
                        try clear c12b1
                        try clear c13
                        try clear c13b0
                        try clear c13b1
                        try clear c21
                        try clear c21b0
                        try clear c21b1
                        try clear c22
                        try clear c22b0
                        try clear c22b1
                        try clear c24
                        try clear c25
                        try clear c26
                        try clear c27
                        try clear c28
                        try clear c29
                        try clear c30
                        try clear c31
                        try clear c31b0
                        try clear c32
                        try clear c34
                        try clear c34b0
                        try clear c34b1
                        try clear c35
                        try clear c35b0
                        try clear c36
                        try clear c36b0
                        try clear c36b1
                        try clear c36b2
                        try clear c37
                        try clear c37b0
                        try clear c37b1
                        try clear c37b2
                        try clear c39
                        try clear c39b0
                        try clear c39b1
                        try clear c39b2
                        try clear p40
                        try clear q40
                        try clear hx40
                        try clear c42
                        try clear c42b0
                        try clear c42b1
                        try clear c44
                        try clear c44b0
                        try clear c48
                        try clear c48b0
                        try clear c48b1
                        try clear c49
                        try clear c49b0
                        try clear c49b1
                        try clear c50
                        try clear c50b0
                        try clear c50b1
                        try clear c51
                        try clear c51b0
                        try clear c51b1
                        try clear p64
                        try clear c74
                        try clear c74b0
                        try clear c74b1
                        try clear c75
                        try clear c75b0
                        try clear c75b1
                        try clear c76
                        try clear c76b0
                        try clear c76b1
                        try clear c77
                        try clear c77b0
                        try clear c78
                        try clear c78b0
                        try clear c79
                        try clear c79b0
                        try clear c80
                        try clear c80b0
                        try clear c81
                        try clear c81b0
                        try clear c82
                        try clear c82b0
                        try clear c84
                        try clear c84b0
                        try clear c86
                        try clear hx400_0
                        try clear p2
                        try clear p400
                        try clear p6
                        try clear p64
                        try clear q400
                        obtain ⟨kq, x240_69, rfl, HA, HJ69, HO_9, HB⟩ := hcut
                        cases kq with
                        | zero => exact absurd HA.out (by simp [redpencillaw41_LinesHolds.j5])
                        | succ kj69 =>
                         have H := HA.out
                         clear HA
                         simp only [redpencillaw41_LinesHolds.j5] at H
                         by_cases c87 : x240_69 = true
                         ·
                          subst c87
                          have H1 : (some false) = some true := by rw [if_pos rfl] at H; exact H
                          exact absurd H1 (by simp)
                         ·
                          replace c87 := Bool.eq_false_iff.mpr c87
                          subst c87
                          have H1 : (redpencillaw41_LinesHolds.l1 kj69 t372 t398 t397) = some true := by rw [if_neg (show ¬ (false = true) by decide)] at H; exact H
                          clear H
                          have H := H1
                          clear H1
                          have H' := Aside0.mk H
                          clear H
                          go_wp2
                          go_loopg [32] kj69 (fun kq v32 w' => ∃ (x32_7 : Int), v32 = .int .i64 x32_7 ∧ Aside0 (redpencillaw41_LinesHolds.l1 kq t372 t398 x32_7 = some true) ∧ Aside0 (kq ≤ kj69) ∧ Aside0 (Kd.R (Kd.int .i32) 21 w' w.heap.size (fun _ => True) (.slice Ao18 t372.length co18) t372) ∧ Aside0 (Below w.heap.size w w'))
                          case atStart => exact ⟨(t397), (by first | rfl | (simp; done) | (simp [*]; done)), H', ⟨Nat.le_refl _⟩, ⟨by (with_reducible repeat (first | apply Kd.R_alloc | apply Kd.R_drewN | apply Kd.R_drew)); exact HO_9.out⟩, ⟨by repeat (first | (with_reducible first | exact HB.out | apply below_alloc | apply pw_below_drewN | apply below_drew1) | exact HB.out)⟩⟩
                          case round =>
                           as_aux_lemma =>
                            clear H'
                            try clear c1
                            try clear c2
                            try clear p2
                            try clear c3
                            try clear c4
                            try clear p4
                            try clear q4
                            try clear hx4
                            try clear c5
                            try clear c6
                            try clear c6b0
                            try clear c6b1
                            try clear p6
                            try clear c7
                            try clear c7b0
                            try clear c8
                            try clear c9
                            try clear c10
                            try clear c12
                            try clear c12b0
                            try clear c12b1
                            try clear c13
                            try clear c13b0
                            try clear c13b1
                            try clear c21
                            try clear c21b0
                            try clear c21b1
                            try clear c22
                            try clear c22b0
                            try clear c22b1
                            try clear c24
                            try clear c25
                            try clear c26
                            try clear c27
                            try clear c28
                            try clear c29
                            try clear c30
                            try clear c31
                            try clear c31b0
                            try clear c32
                            try clear c34
                            try clear c34b0
                            try clear c34b1
                            try clear c35
                            try clear c35b0
                            try clear c36
                            try clear c36b0
                            try clear c36b1
                            try clear c36b2
                            try clear c37
                            try clear c37b0
                            try clear c37b1
                            try clear c37b2
                            try clear c39
                            try clear c39b0
                            try clear c39b1
                            try clear c39b2
                            try clear p40
                            try clear q40
                            try clear hx40
                            try clear c42
                            try clear c42b0
                            try clear c42b1
                            try clear c44
                            try clear c44b0
                            try clear c48
                            try clear c48b0
                            try clear c48b1
                            try clear c49
                            try clear c49b0
                            try clear c49b1
                            try clear c50
                            try clear c50b0
                            try clear c50b1
                            try clear c51
                            try clear c51b0
                            try clear c51b1
                            try clear p64
                            try clear c74
                            try clear c74b0
                            try clear c74b1
                            try clear c75
                            try clear c75b0
                            try clear c75b1
                            try clear c76
                            try clear c76b0
                            try clear c76b1
                            try clear c77
                            try clear c77b0
                            try clear c78
                            try clear c78b0
                            try clear c79
                            try clear c79b0
                            try clear c80
                            try clear c80b0
                            try clear c81
                            try clear c81b0
                            try clear c82
                            try clear c82b0
                            try clear c84
                            try clear c84b0
                            try clear c86
                            try clear c87
                            try clear hx400_0
                            try clear p2
                            try clear p4
                            try clear p40
                            try clear p400
                            try clear p6
                            try clear p64
                            try clear q4
                            try clear q40
                            try clear q400
                            obtain ⟨x32_7, rfl, HA, HK7, HO_9, HB⟩ := hrel
                            cases gk with
                            | zero => exact absurd HA.out (by simp [redpencillaw41_LinesHolds.l1])
                            | succ k7 =>
                             have H := HA.out
                             clear HA
                             simp only [redpencillaw41_LinesHolds.l1] at H
                             by_cases c88 : x32_7 < t398
                             ·
                              rw [if_pos c88] at H
                              have c88b0 : decide (x32_7 < t398) = true := decide_eq_true c88
                              clear c88
                              by_cases c89 : 0 ≤ x32_7
                              ·
                               rw [if_pos c89] at H
                               have c89b0 : decide (0 ≤ x32_7) = true := decide_eq_true c89
                               clear c89
                               by_cases c90 : x32_7 < (t372.length : Int)
                               ·
                                rw [if_pos c90] at H
                                have c90b0 : decide (x32_7 < (t372.length : Int)) = true := decide_eq_true c90
                                clear c90
                                replace H := Option.bind_eq_some_iff.mp H
                                obtain ⟨t403, A910, H⟩ := H
                                replace H : (if t403 = true then (redpencillaw41_LinesHolds.l1 k7 t372 t398 (wrap64 (x32_7 + 1))) else (some false)) = some true := H
                                have A91 := Aside0.mk A910
                                clear A910
                                by_cases c92 : t403 = true
                                ·
                                 subst c92
                                 have H1 : (redpencillaw41_LinesHolds.l1 k7 t372 t398 (wrap64 (x32_7 + 1))) = some true := by rw [if_pos rfl] at H; exact H
                                 clear H
                                 have H := H1
                                 clear H1
                                 have H' := Aside0.mk H
                                 clear H
                                 have p402 : 0 ≤ (x32_7 : Int) := of_decide_eq_true (by first | (with_reducible assumption) | assumption)
                                 have q402 : x32_7 < (t372.length : Int) := of_decide_eq_true (by first | (with_reducible assumption) | assumption)
                                 obtain ⟨ad402, e402, hx402_0⟩ := Kd.at_int (Kd.R_reads' HO_9.out).2.2 x32_7 p402 q402
                                 cases e402
                                 replace p402 := eq_true p402
                                 replace q402 := eq_true q402
                                 go_wp2_with (first | ((with_reducible refine gate_callee (f := 23) rfl ?_); refine goesL_ (some 251) rfl rfl Tryd.func23 (by kernel_rfl) rfl #[.int .i32 (rd t372 x32_7)] rfl (by (try simp only [List.map_toArray, List.map_cons, List.map_nil]); first | done | rfl | (simp only [List.length_drop, List.length_take]; rfl)) ?_; (with_reducible refine (redpencillaw41_lettered.calls (rd t372 x32_7) true _ A91.out).mono ?_); rintro e w' ⟨rfl, ⟨nd, rfl⟩⟩; refine ⟨_, rfl, ?_⟩))
                                 go_roundg k7
                                 case measure => have := HJ4.out; have := HJ15.out; have := HK3.out; have := HJ29.out; have := HJ42.out; have := HJ69.out; have := HK7.out; omega
                                 case rel => exact ⟨(wrap64 (x32_7 + 1)), (by first | rfl | (simp; done) | (simp [*]; done)), H', ⟨by have := HJ4.out; have := HJ15.out; have := HK3.out; have := HJ29.out; have := HJ42.out; have := HJ69.out; have := HK7.out; omega⟩, ⟨by (with_reducible repeat (first | apply Kd.R_alloc | apply Kd.R_drewN | apply Kd.R_drew)); exact HO_9.out⟩, ⟨by repeat (first | (with_reducible first | exact HB.out | apply below_alloc | apply pw_below_drewN | apply below_drew1) | exact HB.out)⟩⟩
                                ·
                                 replace c92 := Bool.eq_false_iff.mpr c92
                                 subst c92
                                 have H1 : (some false) = some true := by rw [if_neg (show ¬ (false = true) by decide)] at H; exact H
                                 exact absurd H1 (by simp)
                               ·
                                rw [if_neg c90] at H
                                exact absurd H (by simp)
                              ·
                               rw [if_neg c89] at H
                               exact absurd H (by simp)
                             ·
                              rw [if_neg c88] at H
                              have c88b0 : decide (x32_7 < t398) = false := decide_eq_false c88
                              clear c88
                              replace H := Option.bind_eq_some_iff.mp H
                              obtain ⟨t404, A930, H⟩ := H
                              replace H : (some t404) = some true := H
                              have A93 := Aside0.mk A930
                              clear A930
                              obtain rfl := Option.some.inj H
                              go_wp2_with (first | ((with_reducible refine gate_callee (f := 9) rfl ?_); refine goesL_ (some 253) rfl rfl Tryd.func9 (by kernel_rfl) rfl #[] rfl (by (try simp only [List.map_toArray, List.map_cons, List.map_nil]); first | done | rfl | (simp only [List.length_drop, List.length_take]; rfl)) ?_; (with_reducible refine (redpencillaw41_known.calls k7  true _ ?side1 A93.out).mono ?_); (case side1 => exact GOK_below HG.out (by repeat (first | (with_reducible first | exact HB.out | apply below_alloc | apply pw_below_drewN | apply below_drew1) | exact HB.out))); rintro e w94 ⟨rfl, hb⟩; refine ⟨_, rfl, ?_⟩; have n0_ := Aside0.mk (Kd.R_below (by (with_reducible repeat (first | apply Kd.R_alloc | apply Kd.R_drewN | apply Kd.R_drew)); exact HO_9.out) hb); have n1_ := Aside0.mk (below_step (by repeat (first | (with_reducible first | exact HB.out | apply below_alloc | apply pw_below_drewN | apply below_drew1) | exact HB.out)) hb); clear HO_9; clear HB; have HO_9 := n0_; have HB := n1_; clear n0_ n1_; (try clear hb); (try clear hb2); (try clear hk); (try clear hi)))
                              go_ret
                              exact ⟨by first | rfl | (simp [errW_none, errW_some] <;> rfl) | (simp [*, errW_none, errW_some] <;> rfl), by repeat (first | (with_reducible first | exact HB.out | apply below_alloc | apply pw_below_drewN | apply below_drew1) | exact HB.out)⟩
                  ·
                   rw [if_neg c42] at H
                   exact absurd H (by simp)
     ·
      rw [if_neg c12] at H
      have c12b0 : (t373 == 0) = false := beq_eq_false_iff_ne.mpr c12
      have c12b1 : (t373 != 0) = true := bne_iff_ne.mpr c12
      replace H := Option.bind_eq_some_iff.mp H
      obtain ⟨t376, A950, H⟩ := H
      replace H : (some t376) = some true := H
      have A95 := Aside0.mk A950
      clear A950
      obtain rfl := Option.some.inj H
      go_wp2_with (first | ((with_reducible refine gate_callee (f := 10) rfl ?_); refine goesL_ (some 47) rfl rfl Tryd.func10 (by kernel_rfl) rfl #[.string a0] rfl (by (try simp only [List.map_toArray, List.map_cons, List.map_nil]); first | done | rfl | (simp only [List.length_drop, List.length_take]; rfl)) ?_; (with_reducible refine (runes_Decode.calls a0 t372 t373 _ ?side1 A11.out).mono ?_); (case side1 => exact GOK_below HG.out (by repeat (first | (with_reducible first | exact HB.out | apply below_alloc | apply pw_below_drewN | apply below_drew1) | exact HB.out))); rintro e w96 ⟨v374, rfl, ho0, hb⟩; refine ⟨_, rfl, ?_⟩; have n0_ := Aside0.mk (Kd.R_lower ho0 (below_size (by repeat (first | (with_reducible first | exact HB.out | apply below_alloc | apply pw_below_drewN | apply below_drew1) | exact HB.out)))); have n1_ := Aside0.mk (below_step (by repeat (first | (with_reducible first | exact HB.out | apply below_alloc | apply pw_below_drewN | apply below_drew1) | exact HB.out)) hb); clear HB; have HO375 := n0_; have HB := n1_; clear n0_ n1_; (try clear hb); (try clear hb2); (try clear hk); (try clear hi); (try clear ho0)) | ((with_reducible refine gate_callee (f := 9) rfl ?_); refine goesL_ (some 52) rfl rfl Tryd.func9 (by kernel_rfl) rfl #[] rfl (by (try simp only [List.map_toArray, List.map_cons, List.map_nil]); first | done | rfl | (simp only [List.length_drop, List.length_take]; rfl)) ?_; (with_reducible refine (redpencillaw41_known.calls kj4  true _ ?side1 A95.out).mono ?_); (case side1 => exact GOK_below HG.out (by repeat (first | (with_reducible first | exact HB.out | apply below_alloc | apply pw_below_drewN | apply below_drew1) | exact HB.out))); rintro e w97 ⟨rfl, hb⟩; refine ⟨_, rfl, ?_⟩; have n0_ := Aside0.mk (Kd.R_below (by (with_reducible repeat (first | apply Kd.R_alloc | apply Kd.R_drewN | apply Kd.R_drew)); exact HO375.out) hb); have n1_ := Aside0.mk (below_step (by repeat (first | (with_reducible first | exact HB.out | apply below_alloc | apply pw_below_drewN | apply below_drew1) | exact HB.out)) hb); clear HO375; clear HB; have HO375 := n0_; have HB := n1_; clear n0_ n1_; (try clear hb); (try clear hb2); (try clear hk); (try clear hi)))
      go_ret
      exact ⟨by first | rfl | (simp [errW_none, errW_some] <;> rfl) | (simp [*, errW_none, errW_some] <;> rfl), by repeat (first | (with_reducible first | exact HB.out | apply below_alloc | apply pw_below_drewN | apply below_drew1) | exact HB.out)⟩

end Go.Proofs.YtbjahfbagbghnaaDoor.PAll
