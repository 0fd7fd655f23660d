/-
  DERIVED. GIVEN WITH THE SEED: THE CARDS: each row of YtphgoaacmkagmaaDoorRows.lean that lists a variable, with what it lists TIED to the program's text (the seventh form; the later family's looks); each row that meets fmt, with fmt's text TOLD by the authors' own Lean function (tested against real Go, not proved from fmt's source: count such statements apart). THE CARD IS WHAT COUNTS. Prove the row's statement (the work); the ties are given (YtphgoaacmkagmaaDoorTie.lean); close each card by the builder's one call (the guide's Derived/Test/ToyasCard.lean, 'card_holds'). Laid BY PROGRAM, IN A SANDBOX (cutbox-door.mjs). By AI agents, Wed Nov 11 2026. No macro, syntax, notation, axiom, sorry.
-/
import Derived.Test.YtphgoaacmkagmaaDoorRows
import GoSem.ClaimSeven
namespace Go.Proofs.YtphgoaacmkagmaaDoor
namespace Rows

/-- THE TIED CARD OF 'redpencillaw02.RunesOne'. -/
def runesOneCard : Claim7 := { stood := { row := runesOneRow, standIns := [], harness := (true, "6f10f9b1e66b292a570c36fa7ece925ba9f3e0d4ba60cbf504c17ad2db9a9a1a"), looks := true }, kinds := [], alts := [], laidByText := true, laidKinds := [.data, .data, .data, .data, .sentinel, .sentinel, .pinned, .pinned], laidTests := true, laidLooks := .later }
def RunesOneCardSaid : Prop := Claim7.holds Tryd.pinned (.plain (OpenSpec.ofChange runesOneSpec)) runesOneCard

/-- THE TIED CARD OF 'redpencillaw02.RunesDecodes'. -/
def runesDecodesCard : Claim7 := { stood := { row := runesDecodesRow, standIns := [], harness := (true, "6f10f9b1e66b292a570c36fa7ece925ba9f3e0d4ba60cbf504c17ad2db9a9a1a"), looks := true }, kinds := [], alts := [], laidByText := true, laidKinds := [.data, .data, .data, .data, .sentinel, .sentinel, .pinned, .pinned], laidTests := true, laidLooks := .later }
def RunesDecodesCardSaid : Prop := Claim7.holds Tryd.pinned (.plain (OpenSpec.ofChange runesDecodesSpec)) runesDecodesCard

/-- THE TIED CARD OF 'redpencillaw02.RunesEncodes'. -/
def runesEncodesCard : Claim7 := { stood := { row := runesEncodesRow, standIns := [], harness := (true, "6f10f9b1e66b292a570c36fa7ece925ba9f3e0d4ba60cbf504c17ad2db9a9a1a"), looks := true }, kinds := [], alts := [], laidByText := true, laidKinds := [.data, .data, .data, .data, .sentinel, .sentinel, .pinned, .pinned], laidTests := true, laidLooks := .later }
def RunesEncodesCardSaid : Prop := Claim7.holds Tryd.pinned (.plain (OpenSpec.ofChange runesEncodesSpec)) runesEncodesCard

/-- THE TIED CARD OF 'redpencillaw02.RunesCuts'. -/
def runesCutsCard : Claim7 := { stood := { row := runesCutsRow, standIns := [], harness := (true, "6f10f9b1e66b292a570c36fa7ece925ba9f3e0d4ba60cbf504c17ad2db9a9a1a"), looks := true }, kinds := [], alts := [], laidByText := true, laidKinds := [.data, .data, .data, .data, .sentinel, .sentinel, .pinned, .pinned], laidTests := true, laidLooks := .later }
def RunesCutsCardSaid : Prop := Claim7.holds Tryd.pinned (.plain (OpenSpec.ofChange runesCutsSpec)) runesCutsCard

/-- THE TIED CARD OF 'redpencillaw02.RunesNames'. -/
def runesNamesCard : Claim7 := { stood := { row := runesNamesRow, standIns := [], harness := (true, "6f10f9b1e66b292a570c36fa7ece925ba9f3e0d4ba60cbf504c17ad2db9a9a1a"), looks := true }, kinds := [], alts := [], laidByText := true, laidKinds := [.data, .data, .data, .data, .sentinel, .sentinel, .pinned, .pinned], laidTests := true, laidLooks := .later }
def RunesNamesCardSaid : Prop := Claim7.holds Tryd.pinned (.plain (OpenSpec.ofChange runesNamesSpec)) runesNamesCard

/-- THE TIED CARD OF 'redpencillaw02.RunesHolds'. -/
def runesHoldsCard : Claim7 := { stood := { row := runesHoldsRow, standIns := [], harness := (true, "6f10f9b1e66b292a570c36fa7ece925ba9f3e0d4ba60cbf504c17ad2db9a9a1a"), looks := true }, kinds := [], alts := [], laidByText := true, laidKinds := [.data, .data, .data, .data, .sentinel, .sentinel, .pinned, .pinned], laidTests := true, laidLooks := .later }
def RunesHoldsCardSaid : Prop := Claim7.holds Tryd.pinned (.plain (OpenSpec.ofChange runesHoldsSpec)) runesHoldsCard

/-- THE SECOND FORM's CARD OF 'redpencillaw02.RunesOne'. -/
def runesOneUptoCard : Claim7 := { stood := { row := runesOneUptoRow, standIns := [], harness := (true, "6f10f9b1e66b292a570c36fa7ece925ba9f3e0d4ba60cbf504c17ad2db9a9a1a"), looks := true }, kinds := [], alts := [], laidByText := true, laidKinds := [.data, .data, .data, .data, .sentinel, .sentinel, .pinned, .pinned], laidTests := true, laidLooks := .later }
def RunesOneUptoCardSaid : Prop := Claim7.holds Tryd.pinned (.plain (OpenSpec.upto runesOneSpec)) runesOneUptoCard

/-- THE SECOND FORM's CARD OF 'redpencillaw02.RunesDecodes'. -/
def runesDecodesUptoCard : Claim7 := { stood := { row := runesDecodesUptoRow, standIns := [], harness := (true, "6f10f9b1e66b292a570c36fa7ece925ba9f3e0d4ba60cbf504c17ad2db9a9a1a"), looks := true }, kinds := [], alts := [], laidByText := true, laidKinds := [.data, .data, .data, .data, .sentinel, .sentinel, .pinned, .pinned], laidTests := true, laidLooks := .later }
def RunesDecodesUptoCardSaid : Prop := Claim7.holds Tryd.pinned (.plain (OpenSpec.upto runesDecodesSpec)) runesDecodesUptoCard

/-- THE SECOND FORM's CARD OF 'redpencillaw02.RunesEncodes'. -/
def runesEncodesUptoCard : Claim7 := { stood := { row := runesEncodesUptoRow, standIns := [], harness := (true, "6f10f9b1e66b292a570c36fa7ece925ba9f3e0d4ba60cbf504c17ad2db9a9a1a"), looks := true }, kinds := [], alts := [], laidByText := true, laidKinds := [.data, .data, .data, .data, .sentinel, .sentinel, .pinned, .pinned], laidTests := true, laidLooks := .later }
def RunesEncodesUptoCardSaid : Prop := Claim7.holds Tryd.pinned (.plain (OpenSpec.upto runesEncodesSpec)) runesEncodesUptoCard

/-- THE SECOND FORM's CARD OF 'redpencillaw02.RunesCuts'. -/
def runesCutsUptoCard : Claim7 := { stood := { row := runesCutsUptoRow, standIns := [], harness := (true, "6f10f9b1e66b292a570c36fa7ece925ba9f3e0d4ba60cbf504c17ad2db9a9a1a"), looks := true }, kinds := [], alts := [], laidByText := true, laidKinds := [.data, .data, .data, .data, .sentinel, .sentinel, .pinned, .pinned], laidTests := true, laidLooks := .later }
def RunesCutsUptoCardSaid : Prop := Claim7.holds Tryd.pinned (.plain (OpenSpec.upto runesCutsSpec)) runesCutsUptoCard

/-- THE SECOND FORM's CARD OF 'redpencillaw02.RunesNames'. -/
def runesNamesUptoCard : Claim7 := { stood := { row := runesNamesUptoRow, standIns := [], harness := (true, "6f10f9b1e66b292a570c36fa7ece925ba9f3e0d4ba60cbf504c17ad2db9a9a1a"), looks := true }, kinds := [], alts := [], laidByText := true, laidKinds := [.data, .data, .data, .data, .sentinel, .sentinel, .pinned, .pinned], laidTests := true, laidLooks := .later }
def RunesNamesUptoCardSaid : Prop := Claim7.holds Tryd.pinned (.plain (OpenSpec.upto runesNamesSpec)) runesNamesUptoCard

/-- THE SECOND FORM's CARD OF 'redpencillaw02.RunesHolds'. -/
def runesHoldsUptoCard : Claim7 := { stood := { row := runesHoldsUptoRow, standIns := [], harness := (true, "6f10f9b1e66b292a570c36fa7ece925ba9f3e0d4ba60cbf504c17ad2db9a9a1a"), looks := true }, kinds := [], alts := [], laidByText := true, laidKinds := [.data, .data, .data, .data, .sentinel, .sentinel, .pinned, .pinned], laidTests := true, laidLooks := .later }
def RunesHoldsUptoCardSaid : Prop := Claim7.holds Tryd.pinned (.plain (OpenSpec.upto runesHoldsSpec)) runesHoldsUptoCard
end Rows
end Go.Proofs.YtphgoaacmkagmaaDoor
