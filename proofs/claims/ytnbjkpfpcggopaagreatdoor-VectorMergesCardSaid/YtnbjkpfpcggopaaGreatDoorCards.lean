/-
  DERIVED. GIVEN WITH THE SEED: THE CARDS: each row of YtnbjkpfpcggopaaGreatDoorRows.lean that lists a variable, with what it lists TIED to the program's text (the seventh form; the later family's looks); each row that meets fmt, with fmt's text TOLD by the authors' own Lean function (tested against real Go, not proved from fmt's source: count such statements apart). THE CARD IS WHAT COUNTS. Prove the row's statement (the work); the ties are given (YtnbjkpfpcggopaaGreatDoorTie.lean); close each card by the builder's one call (the guide's Derived/Test/ToyasCard.lean, 'card_holds'). Laid BY PROGRAM, IN A SANDBOX (cutbox-door.mjs). By AI agents, Wed Nov 11 2026. No macro, syntax, notation, axiom, sorry.
-/
import Derived.Test.YtnbjkpfpcggopaaGreatDoorRows
import GoSem.ClaimSeven
namespace Go.Proofs.YtnbjkpfpcggopaaGreatDoor
namespace Rows

/-- THE TIED CARD OF 'redpencillaw05.VectorLooks'. -/
def vectorLooksCard : Claim7 := { stood := { row := vectorLooksRow, standIns := [], harness := (true, "4deba7382de9753c038e688f3b0bd4c17ae904d1070cba6a40b7448f098eb74c"), looks := true }, kinds := [], alts := [], laidByText := true, laidKinds := [.data, .data, .data, .data, .sentinel, .sentinel, .pinned], laidTests := true, laidLooks := .later }
def VectorLooksCardSaid : Prop := Claim7.holds Tryz.pinned (.plain (OpenSpec.ofChange vectorLooksSpec)) vectorLooksCard

/-- THE TIED CARD OF 'redpencillaw05.VectorMakes'. -/
def vectorMakesCard : Claim7 := { stood := { row := vectorMakesRow, standIns := [], harness := (true, "4deba7382de9753c038e688f3b0bd4c17ae904d1070cba6a40b7448f098eb74c"), looks := true }, kinds := [], alts := [], laidByText := true, laidKinds := [.data, .data, .data, .data, .sentinel, .sentinel, .pinned], laidTests := true, laidLooks := .later }
def VectorMakesCardSaid : Prop := Claim7.holds Tryz.pinned (.plain (OpenSpec.ofChange vectorMakesSpec)) vectorMakesCard

/-- THE TIED CARD OF 'redpencillaw05.VectorMerges'. -/
def vectorMergesCard : Claim7 := { stood := { row := vectorMergesRow, standIns := [], harness := (true, "4deba7382de9753c038e688f3b0bd4c17ae904d1070cba6a40b7448f098eb74c"), looks := true }, kinds := [], alts := [], laidByText := true, laidKinds := [.data, .data, .data, .data, .sentinel, .sentinel, .pinned], laidTests := true, laidLooks := .later }
def VectorMergesCardSaid : Prop := Claim7.holds Tryz.pinned (.plain (OpenSpec.ofChange vectorMergesSpec)) vectorMergesCard

/-- THE TIED CARD OF 'redpencillaw05.VectorTexts'. -/
def vectorTextsCard : Claim7 := { stood := { row := vectorTextsRow, standIns := [], harness := (true, "4deba7382de9753c038e688f3b0bd4c17ae904d1070cba6a40b7448f098eb74c"), looks := true }, kinds := [], alts := [], laidByText := true, laidKinds := [.data, .data, .data, .data, .sentinel, .sentinel, .pinned], laidTests := true, laidLooks := .later }
def VectorTextsCardSaid : Prop := Claim7.holds Tryz.pinned (.plain (OpenSpec.ofChange vectorTextsSpec)) vectorTextsCard

/-- THE TIED CARD OF 'redpencillaw05.VectorHolds'. -/
def vectorHoldsCard : Claim7 := { stood := { row := vectorHoldsRow, standIns := [], harness := (true, "4deba7382de9753c038e688f3b0bd4c17ae904d1070cba6a40b7448f098eb74c"), looks := true }, kinds := [], alts := [], laidByText := true, laidKinds := [.data, .data, .data, .data, .sentinel, .sentinel, .pinned], laidTests := true, laidLooks := .later }
def VectorHoldsCardSaid : Prop := Claim7.holds Tryz.pinned (.plain (OpenSpec.ofChange vectorHoldsSpec)) vectorHoldsCard

/-- THE SECOND FORM's CARD OF 'redpencillaw05.VectorLooks'. -/
def vectorLooksUptoCard : Claim7 := { stood := { row := vectorLooksUptoRow, standIns := [], harness := (true, "4deba7382de9753c038e688f3b0bd4c17ae904d1070cba6a40b7448f098eb74c"), looks := true }, kinds := [], alts := [], laidByText := true, laidKinds := [.data, .data, .data, .data, .sentinel, .sentinel, .pinned], laidTests := true, laidLooks := .later }
def VectorLooksUptoCardSaid : Prop := Claim7.holds Tryz.pinned (.plain (OpenSpec.upto vectorLooksSpec)) vectorLooksUptoCard

/-- THE SECOND FORM's CARD OF 'redpencillaw05.VectorMakes'. -/
def vectorMakesUptoCard : Claim7 := { stood := { row := vectorMakesUptoRow, standIns := [], harness := (true, "4deba7382de9753c038e688f3b0bd4c17ae904d1070cba6a40b7448f098eb74c"), looks := true }, kinds := [], alts := [], laidByText := true, laidKinds := [.data, .data, .data, .data, .sentinel, .sentinel, .pinned], laidTests := true, laidLooks := .later }
def VectorMakesUptoCardSaid : Prop := Claim7.holds Tryz.pinned (.plain (OpenSpec.upto vectorMakesSpec)) vectorMakesUptoCard

/-- THE SECOND FORM's CARD OF 'redpencillaw05.VectorMerges'. -/
def vectorMergesUptoCard : Claim7 := { stood := { row := vectorMergesUptoRow, standIns := [], harness := (true, "4deba7382de9753c038e688f3b0bd4c17ae904d1070cba6a40b7448f098eb74c"), looks := true }, kinds := [], alts := [], laidByText := true, laidKinds := [.data, .data, .data, .data, .sentinel, .sentinel, .pinned], laidTests := true, laidLooks := .later }
def VectorMergesUptoCardSaid : Prop := Claim7.holds Tryz.pinned (.plain (OpenSpec.upto vectorMergesSpec)) vectorMergesUptoCard

/-- THE SECOND FORM's CARD OF 'redpencillaw05.VectorTexts'. -/
def vectorTextsUptoCard : Claim7 := { stood := { row := vectorTextsUptoRow, standIns := [], harness := (true, "4deba7382de9753c038e688f3b0bd4c17ae904d1070cba6a40b7448f098eb74c"), looks := true }, kinds := [], alts := [], laidByText := true, laidKinds := [.data, .data, .data, .data, .sentinel, .sentinel, .pinned], laidTests := true, laidLooks := .later }
def VectorTextsUptoCardSaid : Prop := Claim7.holds Tryz.pinned (.plain (OpenSpec.upto vectorTextsSpec)) vectorTextsUptoCard

/-- THE SECOND FORM's CARD OF 'redpencillaw05.VectorHolds'. -/
def vectorHoldsUptoCard : Claim7 := { stood := { row := vectorHoldsUptoRow, standIns := [], harness := (true, "4deba7382de9753c038e688f3b0bd4c17ae904d1070cba6a40b7448f098eb74c"), looks := true }, kinds := [], alts := [], laidByText := true, laidKinds := [.data, .data, .data, .data, .sentinel, .sentinel, .pinned], laidTests := true, laidLooks := .later }
def VectorHoldsUptoCardSaid : Prop := Claim7.holds Tryz.pinned (.plain (OpenSpec.upto vectorHoldsSpec)) vectorHoldsUptoCard
end Rows
end Go.Proofs.YtnbjkpfpcggopaaGreatDoor
