/-
  No cell of these rows narrows 'for every input' (looked for: loops, veiled, ifaces, maps, wideKeys, modest, calm, conditions, laid).
  DERIVED. THE GIVEN ROWS OF THIS SEAT. 6 by the template 'for every input the law returns true; each argument reads behind the call as it read before'; 0 by the template 'total and deterministic' (their statements: YtfcpofkhcfilmaaTotals.lean).
  GIVEN WITH THE SEED: the statements are not yours to turn. If you find one false, say at which input.
  Laid BY PROGRAM, IN A SANDBOX (cutbox-rows.mjs): the forced cells as the released guide's own fill.sh prints them over the translation 2e9ecbaabd289973… (all of the seat's roots in one cut). By AI agents, Wed Nov 11 2026. No macro, syntax, notation, axiom, sorry.
-/
import Derived.Test.YtfcpofkhcfilmaaChecked
import GoSem.Claim
import GoSem.ClaimJoined
import GoSem.ClaimMapViews
import Derived.JoinedTies
import Derived.KernelRfl
namespace Go.Proofs.Ytfcpofkhcfilmaa
/- THE CELL 'sum', in the pinned program and in every row, IS THE sha256 OF THE DUMP (.gsa) THAT YtfcpofkhcfilmaaProg.lean LOADS. Nothing in Lean hashes anything: it is a label: what it is worth is what the hold of that sum in a sandbox is worth. -/
noncomputable def Try.pinned : Pinned := { name := "ytfcpofkhcfilmaa", sum := "2e9ecbaabd289973bb8725e9bdb7acf95b615b0e2470fa043e948b2c2d3aeb6a", checked := Try.checked }
namespace Rows
def none {H : Type} : Left H := { results := [], args := [] }

/-- 'redpencillaw01.VarintNumbers': WHATEVER THE INPUT: true; the input reads as it did. -/
def varintNumbersSpec : ChangeSpec := { name := "varintNumbers", fn := fun _ => fun
  | [d] => { results := [.lit (.bool true)], args := [d] }
  | _ => none }
def varintNumbersRow : OpenClaim := { program := "ytfcpofkhcfilmaa", sum := "2e9ecbaabd289973bb8725e9bdb7acf95b615b0e2470fa043e948b2c2d3aeb6a", func := "redpencil/redpencillaw01.VarintNumbers", spec := "varintNumbers", unfollowed := true, recurses := true, apart := false }
def VarintNumbersSaid : Prop := varintNumbersRow.holds Try.pinned (OpenSpec.ofChange varintNumbersSpec)

/-- ITS FALSE NEIGHBOUR: 'it returns false'. Refute it at one input. -/
def varintNumbersWrong : ChangeSpec := { name := "varintNumbers", fn := fun _ => fun
  | [d] => { results := [.lit (.bool false)], args := [d] }
  | _ => none }
def VarintNumbersWrongFalsely : Prop := varintNumbersRow.holds Try.pinned (OpenSpec.ofChange varintNumbersWrong)

/-- 'redpencillaw01.VarintLists': WHATEVER THE INPUT: true; the input reads as it did. -/
def varintListsSpec : ChangeSpec := { name := "varintLists", fn := fun _ => fun
  | [d1, d2] => { results := [.lit (.bool true)], args := [d1, d2] }
  | _ => none }
def varintListsRow : OpenClaim := { program := "ytfcpofkhcfilmaa", sum := "2e9ecbaabd289973bb8725e9bdb7acf95b615b0e2470fa043e948b2c2d3aeb6a", func := "redpencil/redpencillaw01.VarintLists", spec := "varintLists", unfollowed := true, recurses := true, apart := false }
def VarintListsSaid : Prop := varintListsRow.holds Try.pinned (OpenSpec.ofChange varintListsSpec)

/-- ITS FALSE NEIGHBOUR: 'it returns false'. Refute it at one input. -/
def varintListsWrong : ChangeSpec := { name := "varintLists", fn := fun _ => fun
  | [d1, d2] => { results := [.lit (.bool false)], args := [d1, d2] }
  | _ => none }
def VarintListsWrongFalsely : Prop := varintListsRow.holds Try.pinned (OpenSpec.ofChange varintListsWrong)

/-- 'redpencillaw01.VarintWrites': WHATEVER THE INPUT: true; the input reads as it did. -/
def varintWritesSpec : ChangeSpec := { name := "varintWrites", fn := fun _ => fun
  | [d] => { results := [.lit (.bool true)], args := [d] }
  | _ => none }
def varintWritesRow : OpenClaim := { program := "ytfcpofkhcfilmaa", sum := "2e9ecbaabd289973bb8725e9bdb7acf95b615b0e2470fa043e948b2c2d3aeb6a", func := "redpencil/redpencillaw01.VarintWrites", spec := "varintWrites", unfollowed := true, recurses := true, apart := false }
def VarintWritesSaid : Prop := varintWritesRow.holds Try.pinned (OpenSpec.ofChange varintWritesSpec)

/-- ITS FALSE NEIGHBOUR: 'it returns false'. Refute it at one input. -/
def varintWritesWrong : ChangeSpec := { name := "varintWrites", fn := fun _ => fun
  | [d] => { results := [.lit (.bool false)], args := [d] }
  | _ => none }
def VarintWritesWrongFalsely : Prop := varintWritesRow.holds Try.pinned (OpenSpec.ofChange varintWritesWrong)

/-- 'redpencillaw01.VarintHolds': WHATEVER THE INPUT: true; the input reads as it did. -/
def varintHoldsSpec : ChangeSpec := { name := "varintHolds", fn := fun _ => fun
  | [d1, d2] => { results := [.lit (.bool true)], args := [d1, d2] }
  | _ => none }
def varintHoldsRow : OpenClaim := { program := "ytfcpofkhcfilmaa", sum := "2e9ecbaabd289973bb8725e9bdb7acf95b615b0e2470fa043e948b2c2d3aeb6a", func := "redpencil/redpencillaw01.VarintHolds", spec := "varintHolds", unfollowed := true, recurses := true, apart := false }
def VarintHoldsSaid : Prop := varintHoldsRow.holds Try.pinned (OpenSpec.ofChange varintHoldsSpec)

/-- ITS FALSE NEIGHBOUR: 'it returns false'. Refute it at one input. -/
def varintHoldsWrong : ChangeSpec := { name := "varintHolds", fn := fun _ => fun
  | [d1, d2] => { results := [.lit (.bool false)], args := [d1, d2] }
  | _ => none }
def VarintHoldsWrongFalsely : Prop := varintHoldsRow.holds Try.pinned (OpenSpec.ofChange varintHoldsWrong)

/-- 'redpencillaw01.VarintReads': WHATEVER THE INPUT: true; the input reads as it did. -/
def varintReadsSpec : ChangeSpec := { name := "varintReads", fn := fun _ => fun
  | [d1, d2] => { results := [.lit (.bool true)], args := [d1, d2] }
  | _ => none }
def varintReadsRow : OpenClaim := { program := "ytfcpofkhcfilmaa", sum := "2e9ecbaabd289973bb8725e9bdb7acf95b615b0e2470fa043e948b2c2d3aeb6a", func := "redpencil/redpencillaw01.VarintReads", spec := "varintReads", unfollowed := true, recurses := true, apart := false }
def VarintReadsSaid : Prop := varintReadsRow.holds Try.pinned (OpenSpec.ofChange varintReadsSpec)

/-- ITS FALSE NEIGHBOUR: 'it returns false'. Refute it at one input. -/
def varintReadsWrong : ChangeSpec := { name := "varintReads", fn := fun _ => fun
  | [d1, d2] => { results := [.lit (.bool false)], args := [d1, d2] }
  | _ => none }
def VarintReadsWrongFalsely : Prop := varintReadsRow.holds Try.pinned (OpenSpec.ofChange varintReadsWrong)

/-- 'redpencillaw01.VarintNil': WHATEVER THE INPUT: true; the input reads as it did. -/
def varintNilSpec : ChangeSpec := { name := "varintNil", fn := fun _ => fun
  | [d1, d2, d3] => { results := [.lit (.bool true)], args := [d1, d2, d3] }
  | _ => none }
def varintNilRow : OpenClaim := { program := "ytfcpofkhcfilmaa", sum := "2e9ecbaabd289973bb8725e9bdb7acf95b615b0e2470fa043e948b2c2d3aeb6a", func := "redpencil/redpencillaw01.VarintNil", spec := "varintNil", unfollowed := true, recurses := true, apart := false }
def VarintNilSaid : Prop := varintNilRow.holds Try.pinned (OpenSpec.ofChange varintNilSpec)

/-- ITS FALSE NEIGHBOUR: 'it returns false'. Refute it at one input. -/
def varintNilWrong : ChangeSpec := { name := "varintNil", fn := fun _ => fun
  | [d1, d2, d3] => { results := [.lit (.bool false)], args := [d1, d2, d3] }
  | _ => none }
def VarintNilWrongFalsely : Prop := varintNilRow.holds Try.pinned (OpenSpec.ofChange varintNilWrong)

/- THE SECOND FORM. 'bulk': how many values and letters a reading holds, each counted each time it is reached (what is shared counts as often as it is met; a slice's spare places count too). A statement '..UptoSaid' is the law's where the arguments, and the package variables that the reading takes, are together of bulk at most 1048576: NARROWER than '..Said'. Prove '..Said' where nothing that the law and all that it calls make is longer than what came in: it says more and counts as full. Else prove '..UptoSaid'. A law counts once. -/
mutual
def uptoBulk {H : Type} : DataW H → Nat
  | .lit (.string bytes) => bytes.length + 1
  | .lit _ => 1
  | .nil => 1
  | .ptr d => uptoBulk d + 1
  | .slice elems spare => uptoBulkAll elems + uptoBulkAll spare + 1
  | .agg parts => uptoBulkAll parts + 1
  | .iface _ d => uptoBulk d + 1
  | .map entries => uptoBulkEntries entries + 1
  | .held _ => 1
def uptoBulkAll {H : Type} : List (DataW H) → Nat
  | [] => 0
  | d :: r => uptoBulk d + uptoBulkAll r
def uptoBulkEntries {H : Type} : List (Lit × DataW H) → Nat
  | [] => 0
  | x :: r => uptoBulkEntry x + uptoBulkEntries r
def uptoBulkEntry {H : Type} : Lit × DataW H → Nat
  | (.string bytes, d) => bytes.length + uptoBulk d + 1
  | (_, d) => uptoBulk d + 1
 end
def uptoSmall : (H : Type) → List (DataW H) → Bool := fun _ ds => decide (uptoBulkAll ds ≤ 1048576)
def OpenSpec.upto (s : _root_.Go.ChangeSpec) : _root_.Go.OpenSpec := { _root_.Go.OpenSpec.ofChange s with cond := some uptoSmall }

/-- 'redpencillaw01.VarintNumbers', WHERE WHAT IT READS IS OF BULK AT MOST 1048576: true; the input reads as it did. -/
def varintNumbersUptoRow : OpenClaim := { program := "ytfcpofkhcfilmaa", sum := "2e9ecbaabd289973bb8725e9bdb7acf95b615b0e2470fa043e948b2c2d3aeb6a", func := "redpencil/redpencillaw01.VarintNumbers", spec := "varintNumbers", unfollowed := true, recurses := true, apart := false, narrowed := true }
def VarintNumbersUptoSaid : Prop := varintNumbersUptoRow.holds Try.pinned (OpenSpec.upto varintNumbersSpec)

/-- 'redpencillaw01.VarintLists', WHERE WHAT IT READS IS OF BULK AT MOST 1048576: true; the input reads as it did. -/
def varintListsUptoRow : OpenClaim := { program := "ytfcpofkhcfilmaa", sum := "2e9ecbaabd289973bb8725e9bdb7acf95b615b0e2470fa043e948b2c2d3aeb6a", func := "redpencil/redpencillaw01.VarintLists", spec := "varintLists", unfollowed := true, recurses := true, apart := false, narrowed := true }
def VarintListsUptoSaid : Prop := varintListsUptoRow.holds Try.pinned (OpenSpec.upto varintListsSpec)

/-- 'redpencillaw01.VarintWrites', WHERE WHAT IT READS IS OF BULK AT MOST 1048576: true; the input reads as it did. -/
def varintWritesUptoRow : OpenClaim := { program := "ytfcpofkhcfilmaa", sum := "2e9ecbaabd289973bb8725e9bdb7acf95b615b0e2470fa043e948b2c2d3aeb6a", func := "redpencil/redpencillaw01.VarintWrites", spec := "varintWrites", unfollowed := true, recurses := true, apart := false, narrowed := true }
def VarintWritesUptoSaid : Prop := varintWritesUptoRow.holds Try.pinned (OpenSpec.upto varintWritesSpec)

/-- 'redpencillaw01.VarintHolds', WHERE WHAT IT READS IS OF BULK AT MOST 1048576: true; the input reads as it did. -/
def varintHoldsUptoRow : OpenClaim := { program := "ytfcpofkhcfilmaa", sum := "2e9ecbaabd289973bb8725e9bdb7acf95b615b0e2470fa043e948b2c2d3aeb6a", func := "redpencil/redpencillaw01.VarintHolds", spec := "varintHolds", unfollowed := true, recurses := true, apart := false, narrowed := true }
def VarintHoldsUptoSaid : Prop := varintHoldsUptoRow.holds Try.pinned (OpenSpec.upto varintHoldsSpec)

/-- 'redpencillaw01.VarintReads', WHERE WHAT IT READS IS OF BULK AT MOST 1048576: true; the input reads as it did. -/
def varintReadsUptoRow : OpenClaim := { program := "ytfcpofkhcfilmaa", sum := "2e9ecbaabd289973bb8725e9bdb7acf95b615b0e2470fa043e948b2c2d3aeb6a", func := "redpencil/redpencillaw01.VarintReads", spec := "varintReads", unfollowed := true, recurses := true, apart := false, narrowed := true }
def VarintReadsUptoSaid : Prop := varintReadsUptoRow.holds Try.pinned (OpenSpec.upto varintReadsSpec)

/-- 'redpencillaw01.VarintNil', WHERE WHAT IT READS IS OF BULK AT MOST 1048576: true; the input reads as it did. -/
def varintNilUptoRow : OpenClaim := { program := "ytfcpofkhcfilmaa", sum := "2e9ecbaabd289973bb8725e9bdb7acf95b615b0e2470fa043e948b2c2d3aeb6a", func := "redpencil/redpencillaw01.VarintNil", spec := "varintNil", unfollowed := true, recurses := true, apart := false, narrowed := true }
def VarintNilUptoSaid : Prop := varintNilUptoRow.holds Try.pinned (OpenSpec.upto varintNilSpec)

end Rows
end Go.Proofs.Ytfcpofkhcfilmaa
