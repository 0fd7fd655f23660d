/-
  No cell of these rows narrows 'for every input' (looked for: loops, veiled, ifaces, maps, wideKeys, modest, calm, conditions, laid).
  DERIVED. THE GIVEN ROWS OF THIS SEAT. 5 by the template 'for every input the law returns true; each argument reads behind the call as it read before'; 0 by the template 'total and deterministic' (their statements: YthbngkaajhbdjaaTotals.lean).
  GIVEN WITH THE SEED: the statements are not yours to turn. If you find one false, say at which input.
  Laid BY PROGRAM, IN A SANDBOX (cutbox-rows.mjs): the forced cells as the released guide's own fill.sh prints them over the translation 569b6d20e87a2bfd… (all of the seat's roots in one cut). By AI agents, Wed Nov 11 2026. No macro, syntax, notation, axiom, sorry.
-/
import Derived.Test.YthbngkaajhbdjaaChecked
import GoSem.Claim
import GoSem.ClaimJoined
import GoSem.ClaimMapViews
import Derived.JoinedTies
import Derived.KernelRfl
namespace Go.Proofs.Ythbngkaajhbdjaa
/- THE CELL 'sum', in the pinned program and in every row, IS THE sha256 OF THE DUMP (.gsa) THAT YthbngkaajhbdjaaProg.lean LOADS. Nothing in Lean hashes anything: it is a label: what it is worth is what the hold of that sum in a sandbox is worth. -/
noncomputable def Try.pinned : Pinned := { name := "ythbngkaajhbdjaa", sum := "569b6d20e87a2bfd61be32591415a7599d20191414d3fd786044dbb1bd128dd1", checked := Try.checked }
namespace Rows
def none {H : Type} : Left H := { results := [], args := [] }

/-- 'redpencillaw07.AllocMany': WHATEVER THE INPUT: true; the input reads as it did. -/
def allocManySpec : ChangeSpec := { name := "allocMany", fn := fun _ => fun
  | [d1, d2] => { results := [.lit (.bool true)], args := [d1, d2] }
  | _ => none }
def allocManyRow : OpenClaim := { program := "ythbngkaajhbdjaa", sum := "569b6d20e87a2bfd61be32591415a7599d20191414d3fd786044dbb1bd128dd1", func := "redpencil/redpencillaw07.AllocMany", spec := "allocMany", apart := false }
def AllocManySaid : Prop := allocManyRow.holds Try.pinned (OpenSpec.ofChange allocManySpec)

/-- ITS FALSE NEIGHBOUR: 'it returns false'. Refute it at one input. -/
def allocManyWrong : ChangeSpec := { name := "allocMany", fn := fun _ => fun
  | [d1, d2] => { results := [.lit (.bool false)], args := [d1, d2] }
  | _ => none }
def AllocManyWrongFalsely : Prop := allocManyRow.holds Try.pinned (OpenSpec.ofChange allocManyWrong)

/-- 'redpencillaw07.AllocNew': WHATEVER THE INPUT: true; the input reads as it did. -/
def allocNewSpec : ChangeSpec := { name := "allocNew", fn := fun _ => fun
  | [d1, d2, d3] => { results := [.lit (.bool true)], args := [d1, d2, d3] }
  | _ => none }
def allocNewRow : OpenClaim := { program := "ythbngkaajhbdjaa", sum := "569b6d20e87a2bfd61be32591415a7599d20191414d3fd786044dbb1bd128dd1", func := "redpencil/redpencillaw07.AllocNew", spec := "allocNew", apart := false }
def AllocNewSaid : Prop := allocNewRow.holds Try.pinned (OpenSpec.ofChange allocNewSpec)

/-- ITS FALSE NEIGHBOUR: 'it returns false'. Refute it at one input. -/
def allocNewWrong : ChangeSpec := { name := "allocNew", fn := fun _ => fun
  | [d1, d2, d3] => { results := [.lit (.bool false)], args := [d1, d2, d3] }
  | _ => none }
def AllocNewWrongFalsely : Prop := allocNewRow.holds Try.pinned (OpenSpec.ofChange allocNewWrong)

/-- 'redpencillaw07.AllocHolds': WHATEVER THE INPUT: true; the input reads as it did. -/
def allocHoldsSpec : ChangeSpec := { name := "allocHolds", fn := fun _ => fun
  | [d1, d2, d3, d4] => { results := [.lit (.bool true)], args := [d1, d2, d3, d4] }
  | _ => none }
def allocHoldsRow : OpenClaim := { program := "ythbngkaajhbdjaa", sum := "569b6d20e87a2bfd61be32591415a7599d20191414d3fd786044dbb1bd128dd1", func := "redpencil/redpencillaw07.AllocHolds", spec := "allocHolds", apart := false }
def AllocHoldsSaid : Prop := allocHoldsRow.holds Try.pinned (OpenSpec.ofChange allocHoldsSpec)

/-- ITS FALSE NEIGHBOUR: 'it returns false'. Refute it at one input. -/
def allocHoldsWrong : ChangeSpec := { name := "allocHolds", fn := fun _ => fun
  | [d1, d2, d3, d4] => { results := [.lit (.bool false)], args := [d1, d2, d3, d4] }
  | _ => none }
def AllocHoldsWrongFalsely : Prop := allocHoldsRow.holds Try.pinned (OpenSpec.ofChange allocHoldsWrong)

/-- 'redpencillaw07.AllocPlays': WHATEVER THE INPUT: true; the input reads as it did. -/
def allocPlaysSpec : ChangeSpec := { name := "allocPlays", fn := fun _ => fun
  | [d1, d2, d3, d4] => { results := [.lit (.bool true)], args := [d1, d2, d3, d4] }
  | _ => none }
def allocPlaysRow : OpenClaim := { program := "ythbngkaajhbdjaa", sum := "569b6d20e87a2bfd61be32591415a7599d20191414d3fd786044dbb1bd128dd1", func := "redpencil/redpencillaw07.AllocPlays", spec := "allocPlays", apart := false }
def AllocPlaysSaid : Prop := allocPlaysRow.holds Try.pinned (OpenSpec.ofChange allocPlaysSpec)

/-- ITS FALSE NEIGHBOUR: 'it returns false'. Refute it at one input. -/
def allocPlaysWrong : ChangeSpec := { name := "allocPlays", fn := fun _ => fun
  | [d1, d2, d3, d4] => { results := [.lit (.bool false)], args := [d1, d2, d3, d4] }
  | _ => none }
def AllocPlaysWrongFalsely : Prop := allocPlaysRow.holds Try.pinned (OpenSpec.ofChange allocPlaysWrong)

/-- 'redpencillaw07.AllocNil': WHATEVER THE INPUT: true; the input reads as it did. -/
def allocNilSpec : ChangeSpec := { name := "allocNil", fn := fun _ => fun
  | [d] => { results := [.lit (.bool true)], args := [d] }
  | _ => none }
def allocNilRow : OpenClaim := { program := "ythbngkaajhbdjaa", sum := "569b6d20e87a2bfd61be32591415a7599d20191414d3fd786044dbb1bd128dd1", func := "redpencil/redpencillaw07.AllocNil", spec := "allocNil", apart := false }
def AllocNilSaid : Prop := allocNilRow.holds Try.pinned (OpenSpec.ofChange allocNilSpec)

/-- ITS FALSE NEIGHBOUR: 'it returns false'. Refute it at one input. -/
def allocNilWrong : ChangeSpec := { name := "allocNil", fn := fun _ => fun
  | [d] => { results := [.lit (.bool false)], args := [d] }
  | _ => none }
def AllocNilWrongFalsely : Prop := allocNilRow.holds Try.pinned (OpenSpec.ofChange allocNilWrong)

/- THE SECOND FORM. 'bulk': how many values and letters a reading holds, each counted each time it is reached (what is shared counts as often as it is met; a slice's spare places count too). A statement '..UptoSaid' is the law's where the arguments, and the package variables that the reading takes, are together of bulk at most 1048576: NARROWER than '..Said'. Prove '..Said' where nothing that the law and all that it calls make is longer than what came in: it says more and counts as full. Else prove '..UptoSaid'. A law counts once. -/
mutual
def uptoBulk {H : Type} : DataW H → Nat
  | .lit (.string bytes) => bytes.length + 1
  | .lit _ => 1
  | .nil => 1
  | .ptr d => uptoBulk d + 1
  | .slice elems spare => uptoBulkAll elems + uptoBulkAll spare + 1
  | .agg parts => uptoBulkAll parts + 1
  | .iface _ d => uptoBulk d + 1
  | .map entries => uptoBulkEntries entries + 1
  | .held _ => 1
def uptoBulkAll {H : Type} : List (DataW H) → Nat
  | [] => 0
  | d :: r => uptoBulk d + uptoBulkAll r
def uptoBulkEntries {H : Type} : List (Lit × DataW H) → Nat
  | [] => 0
  | x :: r => uptoBulkEntry x + uptoBulkEntries r
def uptoBulkEntry {H : Type} : Lit × DataW H → Nat
  | (.string bytes, d) => bytes.length + uptoBulk d + 1
  | (_, d) => uptoBulk d + 1
 end
def uptoSmall : (H : Type) → List (DataW H) → Bool := fun _ ds => decide (uptoBulkAll ds ≤ 1048576)
def OpenSpec.upto (s : _root_.Go.ChangeSpec) : _root_.Go.OpenSpec := { _root_.Go.OpenSpec.ofChange s with cond := some uptoSmall }

/-- 'redpencillaw07.AllocMany', WHERE WHAT IT READS IS OF BULK AT MOST 1048576: true; the input reads as it did. -/
def allocManyUptoRow : OpenClaim := { program := "ythbngkaajhbdjaa", sum := "569b6d20e87a2bfd61be32591415a7599d20191414d3fd786044dbb1bd128dd1", func := "redpencil/redpencillaw07.AllocMany", spec := "allocMany", apart := false, narrowed := true }
def AllocManyUptoSaid : Prop := allocManyUptoRow.holds Try.pinned (OpenSpec.upto allocManySpec)

/-- 'redpencillaw07.AllocNew', WHERE WHAT IT READS IS OF BULK AT MOST 1048576: true; the input reads as it did. -/
def allocNewUptoRow : OpenClaim := { program := "ythbngkaajhbdjaa", sum := "569b6d20e87a2bfd61be32591415a7599d20191414d3fd786044dbb1bd128dd1", func := "redpencil/redpencillaw07.AllocNew", spec := "allocNew", apart := false, narrowed := true }
def AllocNewUptoSaid : Prop := allocNewUptoRow.holds Try.pinned (OpenSpec.upto allocNewSpec)

/-- 'redpencillaw07.AllocHolds', WHERE WHAT IT READS IS OF BULK AT MOST 1048576: true; the input reads as it did. -/
def allocHoldsUptoRow : OpenClaim := { program := "ythbngkaajhbdjaa", sum := "569b6d20e87a2bfd61be32591415a7599d20191414d3fd786044dbb1bd128dd1", func := "redpencil/redpencillaw07.AllocHolds", spec := "allocHolds", apart := false, narrowed := true }
def AllocHoldsUptoSaid : Prop := allocHoldsUptoRow.holds Try.pinned (OpenSpec.upto allocHoldsSpec)

/-- 'redpencillaw07.AllocPlays', WHERE WHAT IT READS IS OF BULK AT MOST 1048576: true; the input reads as it did. -/
def allocPlaysUptoRow : OpenClaim := { program := "ythbngkaajhbdjaa", sum := "569b6d20e87a2bfd61be32591415a7599d20191414d3fd786044dbb1bd128dd1", func := "redpencil/redpencillaw07.AllocPlays", spec := "allocPlays", apart := false, narrowed := true }
def AllocPlaysUptoSaid : Prop := allocPlaysUptoRow.holds Try.pinned (OpenSpec.upto allocPlaysSpec)

/-- 'redpencillaw07.AllocNil', WHERE WHAT IT READS IS OF BULK AT MOST 1048576: true; the input reads as it did. -/
def allocNilUptoRow : OpenClaim := { program := "ythbngkaajhbdjaa", sum := "569b6d20e87a2bfd61be32591415a7599d20191414d3fd786044dbb1bd128dd1", func := "redpencil/redpencillaw07.AllocNil", spec := "allocNil", apart := false, narrowed := true }
def AllocNilUptoSaid : Prop := allocNilUptoRow.holds Try.pinned (OpenSpec.upto allocNilSpec)

end Rows
end Go.Proofs.Ythbngkaajhbdjaa
