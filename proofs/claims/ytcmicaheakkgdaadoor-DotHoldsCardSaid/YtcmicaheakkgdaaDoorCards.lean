/-
  DERIVED. GIVEN WITH THE SEED: THE CARDS: each row of YtcmicaheakkgdaaDoorRows.lean that lists a variable, with what it lists TIED to the program's text (the seventh form; the later family's looks); each row that meets fmt, with fmt's text TOLD by the authors' own Lean function (tested against real Go, not proved from fmt's source: count such statements apart). THE CARD IS WHAT COUNTS. Prove the row's statement (the work); the ties are given (YtcmicaheakkgdaaDoorTie.lean); close each card by the builder's one call (the guide's Derived/Test/ToyasCard.lean, 'card_holds'). Laid BY PROGRAM, IN A SANDBOX (cutbox-door.mjs). By AI agents, Wed Nov 11 2026. No macro, syntax, notation, axiom, sorry.
-/
import Derived.Test.YtcmicaheakkgdaaDoorRows
import GoSem.ClaimSeven
namespace Go.Proofs.YtcmicaheakkgdaaDoor
namespace Rows

/-- THE TIED CARD OF 'redpencillaw04.DotOrders'. -/
def dotOrdersCard : Claim7 := { stood := { row := dotOrdersRow, standIns := [], harness := (true, "488b6eb6efa45ae6be77f278dfb87e51dff216387bd3e619ed1128160eafbee3"), looks := true }, kinds := [], alts := [], laidByText := true, laidKinds := [.data, .data, .data, .sentinel, .sentinel], laidTests := true, laidLooks := .later }
def DotOrdersCardSaid : Prop := Claim7.holds Tryd.pinned (.plain (OpenSpec.ofChange dotOrdersSpec)) dotOrdersCard

/-- THE TIED CARD OF 'redpencillaw04.DotSets'. -/
def dotSetsCard : Claim7 := { stood := { row := dotSetsRow, standIns := [], harness := (true, "488b6eb6efa45ae6be77f278dfb87e51dff216387bd3e619ed1128160eafbee3"), looks := true }, kinds := [], alts := [], laidByText := true, laidKinds := [.data, .data, .data, .sentinel, .sentinel], laidTests := true, laidLooks := .later }
def DotSetsCardSaid : Prop := Claim7.holds Tryd.pinned (.plain (OpenSpec.ofChange dotSetsSpec)) dotSetsCard

/-- THE TIED CARD OF 'redpencillaw04.DotPairs'. -/
def dotPairsCard : Claim7 := { stood := { row := dotPairsRow, standIns := [], harness := (true, "488b6eb6efa45ae6be77f278dfb87e51dff216387bd3e619ed1128160eafbee3"), looks := true }, kinds := [], alts := [], laidByText := true, laidKinds := [.data, .data, .data, .sentinel, .sentinel], laidTests := true, laidLooks := .later }
def DotPairsCardSaid : Prop := Claim7.holds Tryd.pinned (.plain (OpenSpec.ofChange dotPairsSpec)) dotPairsCard

/-- THE TIED CARD OF 'redpencillaw04.DotTexts'. -/
def dotTextsCard : Claim7 := { stood := { row := dotTextsRow, standIns := [], harness := (true, "488b6eb6efa45ae6be77f278dfb87e51dff216387bd3e619ed1128160eafbee3"), looks := true }, kinds := [], alts := [], laidByText := true, laidKinds := [.data, .data, .data, .sentinel, .sentinel], laidTests := true, laidLooks := .later }
def DotTextsCardSaid : Prop := Claim7.holds Tryd.pinned (.plain (OpenSpec.ofChange dotTextsSpec)) dotTextsCard

/-- THE TIED CARD OF 'redpencillaw04.DotHolds'. -/
def dotHoldsCard : Claim7 := { stood := { row := dotHoldsRow, standIns := [], harness := (true, "488b6eb6efa45ae6be77f278dfb87e51dff216387bd3e619ed1128160eafbee3"), looks := true }, kinds := [], alts := [], laidByText := true, laidKinds := [.data, .data, .data, .sentinel, .sentinel], laidTests := true, laidLooks := .later }
def DotHoldsCardSaid : Prop := Claim7.holds Tryd.pinned (.plain (OpenSpec.ofChange dotHoldsSpec)) dotHoldsCard

/-- THE SECOND FORM's CARD OF 'redpencillaw04.DotOrders'. -/
def dotOrdersUptoCard : Claim7 := { stood := { row := dotOrdersUptoRow, standIns := [], harness := (true, "488b6eb6efa45ae6be77f278dfb87e51dff216387bd3e619ed1128160eafbee3"), looks := true }, kinds := [], alts := [], laidByText := true, laidKinds := [.data, .data, .data, .sentinel, .sentinel], laidTests := true, laidLooks := .later }
def DotOrdersUptoCardSaid : Prop := Claim7.holds Tryd.pinned (.plain (OpenSpec.upto dotOrdersSpec)) dotOrdersUptoCard

/-- THE SECOND FORM's CARD OF 'redpencillaw04.DotSets'. -/
def dotSetsUptoCard : Claim7 := { stood := { row := dotSetsUptoRow, standIns := [], harness := (true, "488b6eb6efa45ae6be77f278dfb87e51dff216387bd3e619ed1128160eafbee3"), looks := true }, kinds := [], alts := [], laidByText := true, laidKinds := [.data, .data, .data, .sentinel, .sentinel], laidTests := true, laidLooks := .later }
def DotSetsUptoCardSaid : Prop := Claim7.holds Tryd.pinned (.plain (OpenSpec.upto dotSetsSpec)) dotSetsUptoCard

/-- THE SECOND FORM's CARD OF 'redpencillaw04.DotPairs'. -/
def dotPairsUptoCard : Claim7 := { stood := { row := dotPairsUptoRow, standIns := [], harness := (true, "488b6eb6efa45ae6be77f278dfb87e51dff216387bd3e619ed1128160eafbee3"), looks := true }, kinds := [], alts := [], laidByText := true, laidKinds := [.data, .data, .data, .sentinel, .sentinel], laidTests := true, laidLooks := .later }
def DotPairsUptoCardSaid : Prop := Claim7.holds Tryd.pinned (.plain (OpenSpec.upto dotPairsSpec)) dotPairsUptoCard

/-- THE SECOND FORM's CARD OF 'redpencillaw04.DotTexts'. -/
def dotTextsUptoCard : Claim7 := { stood := { row := dotTextsUptoRow, standIns := [], harness := (true, "488b6eb6efa45ae6be77f278dfb87e51dff216387bd3e619ed1128160eafbee3"), looks := true }, kinds := [], alts := [], laidByText := true, laidKinds := [.data, .data, .data, .sentinel, .sentinel], laidTests := true, laidLooks := .later }
def DotTextsUptoCardSaid : Prop := Claim7.holds Tryd.pinned (.plain (OpenSpec.upto dotTextsSpec)) dotTextsUptoCard

/-- THE SECOND FORM's CARD OF 'redpencillaw04.DotHolds'. -/
def dotHoldsUptoCard : Claim7 := { stood := { row := dotHoldsUptoRow, standIns := [], harness := (true, "488b6eb6efa45ae6be77f278dfb87e51dff216387bd3e619ed1128160eafbee3"), looks := true }, kinds := [], alts := [], laidByText := true, laidKinds := [.data, .data, .data, .sentinel, .sentinel], laidTests := true, laidLooks := .later }
def DotHoldsUptoCardSaid : Prop := Claim7.holds Tryd.pinned (.plain (OpenSpec.upto dotHoldsSpec)) dotHoldsUptoCard
end Rows
end Go.Proofs.YtcmicaheakkgdaaDoor
