/-
  DERIVED. GIVEN WITH THE SEED: THE CARDS: each row of YtamggklblaigpaaGreatDoorRows.lean that lists a variable, with what it lists TIED to the program's text (the seventh form; the later family's looks); each row that meets fmt, with fmt's text TOLD by the authors' own Lean function (tested against real Go, not proved from fmt's source: count such statements apart). THE CARD IS WHAT COUNTS. Prove the row's statement (the work); the ties are given (YtamggklblaigpaaGreatDoorTie.lean); close each card by the builder's one call (the guide's Derived/Test/ToyasCard.lean, 'card_holds'). Laid BY PROGRAM, IN A SANDBOX (cutbox-door.mjs). By AI agents, Wed Nov 11 2026. No macro, syntax, notation, axiom, sorry.
-/
import Derived.Test.YtamggklblaigpaaGreatDoorRows
import GoSem.ClaimSeven
namespace Go.Proofs.YtamggklblaigpaaGreatDoor
namespace Rows

/-- THE TIED CARD OF 'redpencillaw09.NodeTexts'. -/
def nodeTextsCard : Claim7 := { stood := { row := nodeTextsRow, standIns := [], harness := (true, "0b609cb0b9aeec0674335823e5217eb902d76608c7d27d1d8414c0f5c90c8018"), looks := true }, kinds := [], alts := [], laidByText := true, laidKinds := [.data, .data, .data, .data, .sentinel, .sentinel, .pinned, .pinned], laidTests := true, laidLooks := .later }
def NodeTextsCardSaid : Prop := Claim7.holds Tryz.pinned (.plain (OpenSpec.ofChange nodeTextsSpec)) nodeTextsCard

/-- THE TIED CARD OF 'redpencillaw09.NodeHolds'. -/
def nodeHoldsCard : Claim7 := { stood := { row := nodeHoldsRow, standIns := [], harness := (true, "0b609cb0b9aeec0674335823e5217eb902d76608c7d27d1d8414c0f5c90c8018"), looks := true }, kinds := [], alts := [], laidByText := true, laidKinds := [.data, .data, .data, .data, .sentinel, .sentinel, .pinned, .pinned], laidTests := true, laidLooks := .later }
def NodeHoldsCardSaid : Prop := Claim7.holds Tryz.pinned (.plain (OpenSpec.ofChange nodeHoldsSpec)) nodeHoldsCard

/-- THE TIED CARD OF 'redpencillaw09.NodeValid'. -/
def nodeValidCard : Claim7 := { stood := { row := nodeValidRow, standIns := [], harness := (true, "0b609cb0b9aeec0674335823e5217eb902d76608c7d27d1d8414c0f5c90c8018"), looks := true }, kinds := [], alts := [], laidByText := true, laidKinds := [.data, .data, .data, .data, .sentinel, .sentinel, .pinned, .pinned], laidTests := true, laidLooks := .later }
def NodeValidCardSaid : Prop := Claim7.holds Tryz.pinned (.plain (OpenSpec.ofChange nodeValidSpec)) nodeValidCard

/-- THE TIED CARD OF 'redpencillaw09.NodeOrders'. -/
def nodeOrdersCard : Claim7 := { stood := { row := nodeOrdersRow, standIns := [], harness := (true, "0b609cb0b9aeec0674335823e5217eb902d76608c7d27d1d8414c0f5c90c8018"), looks := true }, kinds := [], alts := [], laidByText := true, laidKinds := [.data, .data, .data, .data, .sentinel, .sentinel, .pinned, .pinned], laidTests := true, laidLooks := .later }
def NodeOrdersCardSaid : Prop := Claim7.holds Tryz.pinned (.plain (OpenSpec.ofChange nodeOrdersSpec)) nodeOrdersCard

/-- THE TIED CARD OF 'redpencillaw09.NodeMerges'. -/
def nodeMergesCard : Claim7 := { stood := { row := nodeMergesRow, standIns := [], harness := (true, "0b609cb0b9aeec0674335823e5217eb902d76608c7d27d1d8414c0f5c90c8018"), looks := true }, kinds := [], alts := [], laidByText := true, laidKinds := [.data, .data, .data, .data, .sentinel, .sentinel, .pinned, .pinned], laidTests := true, laidLooks := .later }
def NodeMergesCardSaid : Prop := Claim7.holds Tryz.pinned (.plain (OpenSpec.ofChange nodeMergesSpec)) nodeMergesCard

/-- THE SECOND FORM's CARD OF 'redpencillaw09.NodeTexts'. -/
def nodeTextsUptoCard : Claim7 := { stood := { row := nodeTextsUptoRow, standIns := [], harness := (true, "0b609cb0b9aeec0674335823e5217eb902d76608c7d27d1d8414c0f5c90c8018"), looks := true }, kinds := [], alts := [], laidByText := true, laidKinds := [.data, .data, .data, .data, .sentinel, .sentinel, .pinned, .pinned], laidTests := true, laidLooks := .later }
def NodeTextsUptoCardSaid : Prop := Claim7.holds Tryz.pinned (.plain (OpenSpec.upto nodeTextsSpec)) nodeTextsUptoCard

/-- THE SECOND FORM's CARD OF 'redpencillaw09.NodeHolds'. -/
def nodeHoldsUptoCard : Claim7 := { stood := { row := nodeHoldsUptoRow, standIns := [], harness := (true, "0b609cb0b9aeec0674335823e5217eb902d76608c7d27d1d8414c0f5c90c8018"), looks := true }, kinds := [], alts := [], laidByText := true, laidKinds := [.data, .data, .data, .data, .sentinel, .sentinel, .pinned, .pinned], laidTests := true, laidLooks := .later }
def NodeHoldsUptoCardSaid : Prop := Claim7.holds Tryz.pinned (.plain (OpenSpec.upto nodeHoldsSpec)) nodeHoldsUptoCard

/-- THE SECOND FORM's CARD OF 'redpencillaw09.NodeValid'. -/
def nodeValidUptoCard : Claim7 := { stood := { row := nodeValidUptoRow, standIns := [], harness := (true, "0b609cb0b9aeec0674335823e5217eb902d76608c7d27d1d8414c0f5c90c8018"), looks := true }, kinds := [], alts := [], laidByText := true, laidKinds := [.data, .data, .data, .data, .sentinel, .sentinel, .pinned, .pinned], laidTests := true, laidLooks := .later }
def NodeValidUptoCardSaid : Prop := Claim7.holds Tryz.pinned (.plain (OpenSpec.upto nodeValidSpec)) nodeValidUptoCard

/-- THE SECOND FORM's CARD OF 'redpencillaw09.NodeOrders'. -/
def nodeOrdersUptoCard : Claim7 := { stood := { row := nodeOrdersUptoRow, standIns := [], harness := (true, "0b609cb0b9aeec0674335823e5217eb902d76608c7d27d1d8414c0f5c90c8018"), looks := true }, kinds := [], alts := [], laidByText := true, laidKinds := [.data, .data, .data, .data, .sentinel, .sentinel, .pinned, .pinned], laidTests := true, laidLooks := .later }
def NodeOrdersUptoCardSaid : Prop := Claim7.holds Tryz.pinned (.plain (OpenSpec.upto nodeOrdersSpec)) nodeOrdersUptoCard

/-- THE SECOND FORM's CARD OF 'redpencillaw09.NodeMerges'. -/
def nodeMergesUptoCard : Claim7 := { stood := { row := nodeMergesUptoRow, standIns := [], harness := (true, "0b609cb0b9aeec0674335823e5217eb902d76608c7d27d1d8414c0f5c90c8018"), looks := true }, kinds := [], alts := [], laidByText := true, laidKinds := [.data, .data, .data, .data, .sentinel, .sentinel, .pinned, .pinned], laidTests := true, laidLooks := .later }
def NodeMergesUptoCardSaid : Prop := Claim7.holds Tryz.pinned (.plain (OpenSpec.upto nodeMergesSpec)) nodeMergesUptoCard
end Rows
end Go.Proofs.YtamggklblaigpaaGreatDoor
