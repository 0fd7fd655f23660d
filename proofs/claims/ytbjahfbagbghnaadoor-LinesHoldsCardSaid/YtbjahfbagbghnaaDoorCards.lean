/-
  DERIVED. GIVEN WITH THE SEED: THE CARDS: each row of YtbjahfbagbghnaaDoorRows.lean that lists a variable, with what it lists TIED to the program's text (the seventh form; the later family's looks); each row that meets fmt, with fmt's text TOLD by the authors' own Lean function (tested against real Go, not proved from fmt's source: count such statements apart). THE CARD IS WHAT COUNTS. Prove the row's statement (the work); the ties are given (YtbjahfbagbghnaaDoorTie.lean); close each card by the builder's one call (the guide's Derived/Test/ToyasCard.lean, 'card_holds'). Laid BY PROGRAM, IN A SANDBOX (cutbox-door.mjs). By AI agents, Wed Nov 11 2026. No macro, syntax, notation, axiom, sorry.
-/
import Derived.Test.YtbjahfbagbghnaaDoorRows
import GoSem.ClaimSeven
namespace Go.Proofs.YtbjahfbagbghnaaDoor
namespace Rows

/-- THE TIED CARD OF 'redpencillaw41.LinesCounts'. -/
def linesCountsCard : Claim7 := { stood := { row := linesCountsRow, standIns := [], harness := (true, "26913d65bff776b2d3257d5ae357d5ab936c971d0528705e69689e0dfc961fa9"), looks := false }, kinds := [], alts := [], laidByText := true, laidKinds := [.data, .pinned], laidTests := true, laidLooks := .later }
def LinesCountsCardSaid : Prop := Claim7.holds Tryd.pinned (.plain (OpenSpec.ofChange linesCountsSpec)) linesCountsCard

/-- THE TIED CARD OF 'redpencillaw41.LinesPlaces'. -/
def linesPlacesCard : Claim7 := { stood := { row := linesPlacesRow, standIns := [], harness := (true, "26913d65bff776b2d3257d5ae357d5ab936c971d0528705e69689e0dfc961fa9"), looks := false }, kinds := [], alts := [], laidByText := true, laidKinds := [.data, .pinned], laidTests := true, laidLooks := .later }
def LinesPlacesCardSaid : Prop := Claim7.holds Tryd.pinned (.plain (OpenSpec.ofChange linesPlacesSpec)) linesPlacesCard

/-- THE TIED CARD OF 'redpencillaw41.LinesMoves'. -/
def linesMovesCard : Claim7 := { stood := { row := linesMovesRow, standIns := [], harness := (true, "26913d65bff776b2d3257d5ae357d5ab936c971d0528705e69689e0dfc961fa9"), looks := false }, kinds := [], alts := [], laidByText := true, laidKinds := [.data, .pinned], laidTests := true, laidLooks := .later }
def LinesMovesCardSaid : Prop := Claim7.holds Tryd.pinned (.plain (OpenSpec.ofChange linesMovesSpec)) linesMovesCard

/-- THE TIED CARD OF 'redpencillaw41.LinesWords'. -/
def linesWordsCard : Claim7 := { stood := { row := linesWordsRow, standIns := [], harness := (true, "26913d65bff776b2d3257d5ae357d5ab936c971d0528705e69689e0dfc961fa9"), looks := false }, kinds := [], alts := [], laidByText := true, laidKinds := [.data, .pinned], laidTests := true, laidLooks := .later }
def LinesWordsCardSaid : Prop := Claim7.holds Tryd.pinned (.plain (OpenSpec.ofChange linesWordsSpec)) linesWordsCard

/-- THE TIED CARD OF 'redpencillaw41.LinesLongs'. -/
def linesLongsCard : Claim7 := { stood := { row := linesLongsRow, standIns := [], harness := (true, "26913d65bff776b2d3257d5ae357d5ab936c971d0528705e69689e0dfc961fa9"), looks := false }, kinds := [], alts := [], laidByText := true, laidKinds := [.data, .pinned], laidTests := true, laidLooks := .later }
def LinesLongsCardSaid : Prop := Claim7.holds Tryd.pinned (.plain (OpenSpec.ofChange linesLongsSpec)) linesLongsCard

/-- THE TIED CARD OF 'redpencillaw41.LinesHolds'. -/
def linesHoldsCard : Claim7 := { stood := { row := linesHoldsRow, standIns := [], harness := (true, "26913d65bff776b2d3257d5ae357d5ab936c971d0528705e69689e0dfc961fa9"), looks := false }, kinds := [], alts := [], laidByText := true, laidKinds := [.data, .pinned], laidTests := true, laidLooks := .later }
def LinesHoldsCardSaid : Prop := Claim7.holds Tryd.pinned (.plain (OpenSpec.ofChange linesHoldsSpec)) linesHoldsCard

/-- THE SECOND FORM's CARD OF 'redpencillaw41.LinesCounts'. -/
def linesCountsUptoCard : Claim7 := { stood := { row := linesCountsUptoRow, standIns := [], harness := (true, "26913d65bff776b2d3257d5ae357d5ab936c971d0528705e69689e0dfc961fa9"), looks := false }, kinds := [], alts := [], laidByText := true, laidKinds := [.data, .pinned], laidTests := true, laidLooks := .later }
def LinesCountsUptoCardSaid : Prop := Claim7.holds Tryd.pinned (.plain (OpenSpec.upto linesCountsSpec)) linesCountsUptoCard

/-- THE SECOND FORM's CARD OF 'redpencillaw41.LinesPlaces'. -/
def linesPlacesUptoCard : Claim7 := { stood := { row := linesPlacesUptoRow, standIns := [], harness := (true, "26913d65bff776b2d3257d5ae357d5ab936c971d0528705e69689e0dfc961fa9"), looks := false }, kinds := [], alts := [], laidByText := true, laidKinds := [.data, .pinned], laidTests := true, laidLooks := .later }
def LinesPlacesUptoCardSaid : Prop := Claim7.holds Tryd.pinned (.plain (OpenSpec.upto linesPlacesSpec)) linesPlacesUptoCard

/-- THE SECOND FORM's CARD OF 'redpencillaw41.LinesMoves'. -/
def linesMovesUptoCard : Claim7 := { stood := { row := linesMovesUptoRow, standIns := [], harness := (true, "26913d65bff776b2d3257d5ae357d5ab936c971d0528705e69689e0dfc961fa9"), looks := false }, kinds := [], alts := [], laidByText := true, laidKinds := [.data, .pinned], laidTests := true, laidLooks := .later }
def LinesMovesUptoCardSaid : Prop := Claim7.holds Tryd.pinned (.plain (OpenSpec.upto linesMovesSpec)) linesMovesUptoCard

/-- THE SECOND FORM's CARD OF 'redpencillaw41.LinesWords'. -/
def linesWordsUptoCard : Claim7 := { stood := { row := linesWordsUptoRow, standIns := [], harness := (true, "26913d65bff776b2d3257d5ae357d5ab936c971d0528705e69689e0dfc961fa9"), looks := false }, kinds := [], alts := [], laidByText := true, laidKinds := [.data, .pinned], laidTests := true, laidLooks := .later }
def LinesWordsUptoCardSaid : Prop := Claim7.holds Tryd.pinned (.plain (OpenSpec.upto linesWordsSpec)) linesWordsUptoCard

/-- THE SECOND FORM's CARD OF 'redpencillaw41.LinesLongs'. -/
def linesLongsUptoCard : Claim7 := { stood := { row := linesLongsUptoRow, standIns := [], harness := (true, "26913d65bff776b2d3257d5ae357d5ab936c971d0528705e69689e0dfc961fa9"), looks := false }, kinds := [], alts := [], laidByText := true, laidKinds := [.data, .pinned], laidTests := true, laidLooks := .later }
def LinesLongsUptoCardSaid : Prop := Claim7.holds Tryd.pinned (.plain (OpenSpec.upto linesLongsSpec)) linesLongsUptoCard

/-- THE SECOND FORM's CARD OF 'redpencillaw41.LinesHolds'. -/
def linesHoldsUptoCard : Claim7 := { stood := { row := linesHoldsUptoRow, standIns := [], harness := (true, "26913d65bff776b2d3257d5ae357d5ab936c971d0528705e69689e0dfc961fa9"), looks := false }, kinds := [], alts := [], laidByText := true, laidKinds := [.data, .pinned], laidTests := true, laidLooks := .later }
def LinesHoldsUptoCardSaid : Prop := Claim7.holds Tryd.pinned (.plain (OpenSpec.upto linesHoldsSpec)) linesHoldsUptoCard
end Rows
end Go.Proofs.YtbjahfbagbghnaaDoor
