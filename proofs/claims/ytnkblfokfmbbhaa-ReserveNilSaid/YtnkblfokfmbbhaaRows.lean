/-
  No cell of these rows narrows 'for every input' (looked for: loops, veiled, ifaces, maps, wideKeys, modest, calm, conditions, laid).
  DERIVED. THE GIVEN ROWS OF THIS SEAT. 5 by the template 'for every input the law returns true; each argument reads behind the call as it read before'; 0 by the template 'total and deterministic' (their statements: YtnkblfokfmbbhaaTotals.lean).
  GIVEN WITH THE SEED: the statements are not yours to turn. If you find one false, say at which input.
  Laid BY PROGRAM, IN A SANDBOX (cutbox-rows.mjs): the forced cells as the released guide's own fill.sh prints them over the translation c48f6b43bbbf1d6b… (all of the seat's roots in one cut). By AI agents, Wed Nov 11 2026. No macro, syntax, notation, axiom, sorry.
-/
import Derived.Test.YtnkblfokfmbbhaaChecked
import GoSem.Claim
import GoSem.ClaimJoined
import GoSem.ClaimMapViews
import Derived.JoinedTies
import Derived.KernelRfl
namespace Go.Proofs.Ytnkblfokfmbbhaa
/- THE CELL 'sum', in the pinned program and in every row, IS THE sha256 OF THE DUMP (.gsa) THAT YtnkblfokfmbbhaaProg.lean LOADS. Nothing in Lean hashes anything: it is a label: what it is worth is what the hold of that sum in a sandbox is worth. -/
noncomputable def Try.pinned : Pinned := { name := "ytnkblfokfmbbhaa", sum := "c48f6b43bbbf1d6be0760bfddf9195978079355433a7f3c39f781d5bbd5831b3", checked := Try.checked }
namespace Rows
def none {H : Type} : Left H := { results := [], args := [] }

/-- 'redpencillaw22.ReserveGreats': WHATEVER THE INPUT: true; the input reads as it did. -/
def reserveGreatsSpec : ChangeSpec := { name := "reserveGreats", fn := fun _ => fun
  | [d1, d2] => { results := [.lit (.bool true)], args := [d1, d2] }
  | _ => none }
def reserveGreatsRow : OpenClaim := { program := "ytnkblfokfmbbhaa", sum := "c48f6b43bbbf1d6be0760bfddf9195978079355433a7f3c39f781d5bbd5831b3", func := "redpencil/redpencillaw22.ReserveGreats", spec := "reserveGreats", apart := false }
def ReserveGreatsSaid : Prop := reserveGreatsRow.holds Try.pinned (OpenSpec.ofChange reserveGreatsSpec)

/-- ITS FALSE NEIGHBOUR: 'it returns false'. Refute it at one input. -/
def reserveGreatsWrong : ChangeSpec := { name := "reserveGreats", fn := fun _ => fun
  | [d1, d2] => { results := [.lit (.bool false)], args := [d1, d2] }
  | _ => none }
def ReserveGreatsWrongFalsely : Prop := reserveGreatsRow.holds Try.pinned (OpenSpec.ofChange reserveGreatsWrong)

/-- 'redpencillaw22.ReserveHolds': WHATEVER THE INPUT: true; the input reads as it did. -/
def reserveHoldsSpec : ChangeSpec := { name := "reserveHolds", fn := fun _ => fun
  | [d1, d2, d3, d4] => { results := [.lit (.bool true)], args := [d1, d2, d3, d4] }
  | _ => none }
def reserveHoldsRow : OpenClaim := { program := "ytnkblfokfmbbhaa", sum := "c48f6b43bbbf1d6be0760bfddf9195978079355433a7f3c39f781d5bbd5831b3", func := "redpencil/redpencillaw22.ReserveHolds", spec := "reserveHolds", apart := false }
def ReserveHoldsSaid : Prop := reserveHoldsRow.holds Try.pinned (OpenSpec.ofChange reserveHoldsSpec)

/-- ITS FALSE NEIGHBOUR: 'it returns false'. Refute it at one input. -/
def reserveHoldsWrong : ChangeSpec := { name := "reserveHolds", fn := fun _ => fun
  | [d1, d2, d3, d4] => { results := [.lit (.bool false)], args := [d1, d2, d3, d4] }
  | _ => none }
def ReserveHoldsWrongFalsely : Prop := reserveHoldsRow.holds Try.pinned (OpenSpec.ofChange reserveHoldsWrong)

/-- 'redpencillaw22.ReserveNew': WHATEVER THE INPUT: true; the input reads as it did. -/
def reserveNewSpec : ChangeSpec := { name := "reserveNew", fn := fun _ => fun
  | [d1, d2, d3] => { results := [.lit (.bool true)], args := [d1, d2, d3] }
  | _ => none }
def reserveNewRow : OpenClaim := { program := "ytnkblfokfmbbhaa", sum := "c48f6b43bbbf1d6be0760bfddf9195978079355433a7f3c39f781d5bbd5831b3", func := "redpencil/redpencillaw22.ReserveNew", spec := "reserveNew", apart := false }
def ReserveNewSaid : Prop := reserveNewRow.holds Try.pinned (OpenSpec.ofChange reserveNewSpec)

/-- ITS FALSE NEIGHBOUR: 'it returns false'. Refute it at one input. -/
def reserveNewWrong : ChangeSpec := { name := "reserveNew", fn := fun _ => fun
  | [d1, d2, d3] => { results := [.lit (.bool false)], args := [d1, d2, d3] }
  | _ => none }
def ReserveNewWrongFalsely : Prop := reserveNewRow.holds Try.pinned (OpenSpec.ofChange reserveNewWrong)

/-- 'redpencillaw22.ReservePlays': WHATEVER THE INPUT: true; the input reads as it did. -/
def reservePlaysSpec : ChangeSpec := { name := "reservePlays", fn := fun _ => fun
  | [d1, d2, d3, d4] => { results := [.lit (.bool true)], args := [d1, d2, d3, d4] }
  | _ => none }
def reservePlaysRow : OpenClaim := { program := "ytnkblfokfmbbhaa", sum := "c48f6b43bbbf1d6be0760bfddf9195978079355433a7f3c39f781d5bbd5831b3", func := "redpencil/redpencillaw22.ReservePlays", spec := "reservePlays", apart := false }
def ReservePlaysSaid : Prop := reservePlaysRow.holds Try.pinned (OpenSpec.ofChange reservePlaysSpec)

/-- ITS FALSE NEIGHBOUR: 'it returns false'. Refute it at one input. -/
def reservePlaysWrong : ChangeSpec := { name := "reservePlays", fn := fun _ => fun
  | [d1, d2, d3, d4] => { results := [.lit (.bool false)], args := [d1, d2, d3, d4] }
  | _ => none }
def ReservePlaysWrongFalsely : Prop := reservePlaysRow.holds Try.pinned (OpenSpec.ofChange reservePlaysWrong)

/-- 'redpencillaw22.ReserveNil': WHATEVER THE INPUT: true; the input reads as it did. -/
def reserveNilSpec : ChangeSpec := { name := "reserveNil", fn := fun _ => fun
  | [d] => { results := [.lit (.bool true)], args := [d] }
  | _ => none }
def reserveNilRow : OpenClaim := { program := "ytnkblfokfmbbhaa", sum := "c48f6b43bbbf1d6be0760bfddf9195978079355433a7f3c39f781d5bbd5831b3", func := "redpencil/redpencillaw22.ReserveNil", spec := "reserveNil", apart := false }
def ReserveNilSaid : Prop := reserveNilRow.holds Try.pinned (OpenSpec.ofChange reserveNilSpec)

/-- ITS FALSE NEIGHBOUR: 'it returns false'. Refute it at one input. -/
def reserveNilWrong : ChangeSpec := { name := "reserveNil", fn := fun _ => fun
  | [d] => { results := [.lit (.bool false)], args := [d] }
  | _ => none }
def ReserveNilWrongFalsely : Prop := reserveNilRow.holds Try.pinned (OpenSpec.ofChange reserveNilWrong)

/- THE SECOND FORM. 'bulk': how many values and letters a reading holds, each counted each time it is reached (what is shared counts as often as it is met; a slice's spare places count too). A statement '..UptoSaid' is the law's where the arguments, and the package variables that the reading takes, are together of bulk at most 1048576: NARROWER than '..Said'. Prove '..Said' where nothing that the law and all that it calls make is longer than what came in: it says more and counts as full. Else prove '..UptoSaid'. A law counts once. -/
mutual
def uptoBulk {H : Type} : DataW H → Nat
  | .lit (.string bytes) => bytes.length + 1
  | .lit _ => 1
  | .nil => 1
  | .ptr d => uptoBulk d + 1
  | .slice elems spare => uptoBulkAll elems + uptoBulkAll spare + 1
  | .agg parts => uptoBulkAll parts + 1
  | .iface _ d => uptoBulk d + 1
  | .map entries => uptoBulkEntries entries + 1
  | .held _ => 1
def uptoBulkAll {H : Type} : List (DataW H) → Nat
  | [] => 0
  | d :: r => uptoBulk d + uptoBulkAll r
def uptoBulkEntries {H : Type} : List (Lit × DataW H) → Nat
  | [] => 0
  | x :: r => uptoBulkEntry x + uptoBulkEntries r
def uptoBulkEntry {H : Type} : Lit × DataW H → Nat
  | (.string bytes, d) => bytes.length + uptoBulk d + 1
  | (_, d) => uptoBulk d + 1
 end
def uptoSmall : (H : Type) → List (DataW H) → Bool := fun _ ds => decide (uptoBulkAll ds ≤ 1048576)
def OpenSpec.upto (s : _root_.Go.ChangeSpec) : _root_.Go.OpenSpec := { _root_.Go.OpenSpec.ofChange s with cond := some uptoSmall }

/-- 'redpencillaw22.ReserveGreats', WHERE WHAT IT READS IS OF BULK AT MOST 1048576: true; the input reads as it did. -/
def reserveGreatsUptoRow : OpenClaim := { program := "ytnkblfokfmbbhaa", sum := "c48f6b43bbbf1d6be0760bfddf9195978079355433a7f3c39f781d5bbd5831b3", func := "redpencil/redpencillaw22.ReserveGreats", spec := "reserveGreats", apart := false, narrowed := true }
def ReserveGreatsUptoSaid : Prop := reserveGreatsUptoRow.holds Try.pinned (OpenSpec.upto reserveGreatsSpec)

/-- 'redpencillaw22.ReserveHolds', WHERE WHAT IT READS IS OF BULK AT MOST 1048576: true; the input reads as it did. -/
def reserveHoldsUptoRow : OpenClaim := { program := "ytnkblfokfmbbhaa", sum := "c48f6b43bbbf1d6be0760bfddf9195978079355433a7f3c39f781d5bbd5831b3", func := "redpencil/redpencillaw22.ReserveHolds", spec := "reserveHolds", apart := false, narrowed := true }
def ReserveHoldsUptoSaid : Prop := reserveHoldsUptoRow.holds Try.pinned (OpenSpec.upto reserveHoldsSpec)

/-- 'redpencillaw22.ReserveNew', WHERE WHAT IT READS IS OF BULK AT MOST 1048576: true; the input reads as it did. -/
def reserveNewUptoRow : OpenClaim := { program := "ytnkblfokfmbbhaa", sum := "c48f6b43bbbf1d6be0760bfddf9195978079355433a7f3c39f781d5bbd5831b3", func := "redpencil/redpencillaw22.ReserveNew", spec := "reserveNew", apart := false, narrowed := true }
def ReserveNewUptoSaid : Prop := reserveNewUptoRow.holds Try.pinned (OpenSpec.upto reserveNewSpec)

/-- 'redpencillaw22.ReservePlays', WHERE WHAT IT READS IS OF BULK AT MOST 1048576: true; the input reads as it did. -/
def reservePlaysUptoRow : OpenClaim := { program := "ytnkblfokfmbbhaa", sum := "c48f6b43bbbf1d6be0760bfddf9195978079355433a7f3c39f781d5bbd5831b3", func := "redpencil/redpencillaw22.ReservePlays", spec := "reservePlays", apart := false, narrowed := true }
def ReservePlaysUptoSaid : Prop := reservePlaysUptoRow.holds Try.pinned (OpenSpec.upto reservePlaysSpec)

/-- 'redpencillaw22.ReserveNil', WHERE WHAT IT READS IS OF BULK AT MOST 1048576: true; the input reads as it did. -/
def reserveNilUptoRow : OpenClaim := { program := "ytnkblfokfmbbhaa", sum := "c48f6b43bbbf1d6be0760bfddf9195978079355433a7f3c39f781d5bbd5831b3", func := "redpencil/redpencillaw22.ReserveNil", spec := "reserveNil", apart := false, narrowed := true }
def ReserveNilUptoSaid : Prop := reserveNilUptoRow.holds Try.pinned (OpenSpec.upto reserveNilSpec)

end Rows
end Go.Proofs.Ytnkblfokfmbbhaa
