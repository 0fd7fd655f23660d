/-
  No cell of these rows narrows 'for every input' (looked for: loops, veiled, ifaces, maps, wideKeys, modest, calm, conditions, laid).
  DERIVED. THE GIVEN ROWS OF THIS SEAT. 5 by the template 'for every input the law returns true; each argument reads behind the call as it read before'; 0 by the template 'total and deterministic' (their statements: YtfbjbajbjlcjfaaTotals.lean).
  GIVEN WITH THE SEED: the statements are not yours to turn. If you find one false, say at which input.
  Laid BY PROGRAM, IN A SANDBOX (cutbox-rows.mjs): the forced cells as the released guide's own fill.sh prints them over the translation c8ea2be6782cb737… (all of the seat's roots in one cut). By AI agents, Wed Nov 11 2026. No macro, syntax, notation, axiom, sorry.
-/
import Derived.Test.YtfbjbajbjlcjfaaChecked
import GoSem.Claim
import GoSem.ClaimJoined
import GoSem.ClaimMapViews
import Derived.JoinedTies
import Derived.KernelRfl
namespace Go.Proofs.Ytfbjbajbjlcjfaa
/- THE CELL 'sum', in the pinned program and in every row, IS THE sha256 OF THE DUMP (.gsa) THAT YtfbjbajbjlcjfaaProg.lean LOADS. Nothing in Lean hashes anything: it is a label: what it is worth is what the hold of that sum in a sandbox is worth. -/
noncomputable def Try.pinned : Pinned := { name := "ytfbjbajbjlcjfaa", sum := "c8ea2be6782cb737481707425aad07b7ccd5a143ac58908986c58e4c79ffbd6c", checked := Try.checked }
namespace Rows
def none {H : Type} : Left H := { results := [], args := [] }

/-- 'redpencillaw17.CanonStates': WHATEVER THE INPUT: true; the input reads as it did. -/
def canonStatesSpec : ChangeSpec := { name := "canonStates", fn := fun _ => fun
  | [d1, d2] => { results := [.lit (.bool true)], args := [d1, d2] }
  | _ => none }
def canonStatesRow : OpenClaim := { program := "ytfbjbajbjlcjfaa", sum := "c8ea2be6782cb737481707425aad07b7ccd5a143ac58908986c58e4c79ffbd6c", func := "redpencil/redpencillaw17.CanonStates", spec := "canonStates", unfollowed := true, recurses := true, apart := false }
def CanonStatesSaid : Prop := canonStatesRow.holds Try.pinned (OpenSpec.ofChange canonStatesSpec)

/-- ITS FALSE NEIGHBOUR: 'it returns false'. Refute it at one input. -/
def canonStatesWrong : ChangeSpec := { name := "canonStates", fn := fun _ => fun
  | [d1, d2] => { results := [.lit (.bool false)], args := [d1, d2] }
  | _ => none }
def CanonStatesWrongFalsely : Prop := canonStatesRow.holds Try.pinned (OpenSpec.ofChange canonStatesWrong)

/-- 'redpencillaw17.CanonNodes': WHATEVER THE INPUT: true; the input reads as it did. -/
def canonNodesSpec : ChangeSpec := { name := "canonNodes", fn := fun _ => fun
  | [d] => { results := [.lit (.bool true)], args := [d] }
  | _ => none }
def canonNodesRow : OpenClaim := { program := "ytfbjbajbjlcjfaa", sum := "c8ea2be6782cb737481707425aad07b7ccd5a143ac58908986c58e4c79ffbd6c", func := "redpencil/redpencillaw17.CanonNodes", spec := "canonNodes", unfollowed := true, recurses := true, apart := false }
def CanonNodesSaid : Prop := canonNodesRow.holds Try.pinned (OpenSpec.ofChange canonNodesSpec)

/-- ITS FALSE NEIGHBOUR: 'it returns false'. Refute it at one input. -/
def canonNodesWrong : ChangeSpec := { name := "canonNodes", fn := fun _ => fun
  | [d] => { results := [.lit (.bool false)], args := [d] }
  | _ => none }
def CanonNodesWrongFalsely : Prop := canonNodesRow.holds Try.pinned (OpenSpec.ofChange canonNodesWrong)

/-- 'redpencillaw17.CanonContexts': WHATEVER THE INPUT: true; the input reads as it did. -/
def canonContextsSpec : ChangeSpec := { name := "canonContexts", fn := fun _ => fun
  | [d] => { results := [.lit (.bool true)], args := [d] }
  | _ => none }
def canonContextsRow : OpenClaim := { program := "ytfbjbajbjlcjfaa", sum := "c8ea2be6782cb737481707425aad07b7ccd5a143ac58908986c58e4c79ffbd6c", func := "redpencil/redpencillaw17.CanonContexts", spec := "canonContexts", unfollowed := true, recurses := true, apart := false }
def CanonContextsSaid : Prop := canonContextsRow.holds Try.pinned (OpenSpec.ofChange canonContextsSpec)

/-- ITS FALSE NEIGHBOUR: 'it returns false'. Refute it at one input. -/
def canonContextsWrong : ChangeSpec := { name := "canonContexts", fn := fun _ => fun
  | [d] => { results := [.lit (.bool false)], args := [d] }
  | _ => none }
def CanonContextsWrongFalsely : Prop := canonContextsRow.holds Try.pinned (OpenSpec.ofChange canonContextsWrong)

/-- 'redpencillaw17.CanonLongs': WHATEVER THE INPUT: true; the input reads as it did. -/
def canonLongsSpec : ChangeSpec := { name := "canonLongs", fn := fun _ => fun
  | [d1, d2] => { results := [.lit (.bool true)], args := [d1, d2] }
  | _ => none }
def canonLongsRow : OpenClaim := { program := "ytfbjbajbjlcjfaa", sum := "c8ea2be6782cb737481707425aad07b7ccd5a143ac58908986c58e4c79ffbd6c", func := "redpencil/redpencillaw17.CanonLongs", spec := "canonLongs", unfollowed := true, recurses := true, apart := false }
def CanonLongsSaid : Prop := canonLongsRow.holds Try.pinned (OpenSpec.ofChange canonLongsSpec)

/-- ITS FALSE NEIGHBOUR: 'it returns false'. Refute it at one input. -/
def canonLongsWrong : ChangeSpec := { name := "canonLongs", fn := fun _ => fun
  | [d1, d2] => { results := [.lit (.bool false)], args := [d1, d2] }
  | _ => none }
def CanonLongsWrongFalsely : Prop := canonLongsRow.holds Try.pinned (OpenSpec.ofChange canonLongsWrong)

/-- 'redpencillaw17.CanonHolds': WHATEVER THE INPUT: true; the input reads as it did. -/
def canonHoldsSpec : ChangeSpec := { name := "canonHolds", fn := fun _ => fun
  | [d1, d2, d3, d4, d5] => { results := [.lit (.bool true)], args := [d1, d2, d3, d4, d5] }
  | _ => none }
def canonHoldsRow : OpenClaim := { program := "ytfbjbajbjlcjfaa", sum := "c8ea2be6782cb737481707425aad07b7ccd5a143ac58908986c58e4c79ffbd6c", func := "redpencil/redpencillaw17.CanonHolds", spec := "canonHolds", unfollowed := true, recurses := true, apart := false }
def CanonHoldsSaid : Prop := canonHoldsRow.holds Try.pinned (OpenSpec.ofChange canonHoldsSpec)

/-- ITS FALSE NEIGHBOUR: 'it returns false'. Refute it at one input. -/
def canonHoldsWrong : ChangeSpec := { name := "canonHolds", fn := fun _ => fun
  | [d1, d2, d3, d4, d5] => { results := [.lit (.bool false)], args := [d1, d2, d3, d4, d5] }
  | _ => none }
def CanonHoldsWrongFalsely : Prop := canonHoldsRow.holds Try.pinned (OpenSpec.ofChange canonHoldsWrong)

/- THE SECOND FORM. 'bulk': how many values and letters a reading holds, each counted each time it is reached (what is shared counts as often as it is met; a slice's spare places count too). A statement '..UptoSaid' is the law's where the arguments, and the package variables that the reading takes, are together of bulk at most 1048576: NARROWER than '..Said'. Prove '..Said' where nothing that the law and all that it calls make is longer than what came in: it says more and counts as full. Else prove '..UptoSaid'. A law counts once. -/
mutual
def uptoBulk {H : Type} : DataW H → Nat
  | .lit (.string bytes) => bytes.length + 1
  | .lit _ => 1
  | .nil => 1
  | .ptr d => uptoBulk d + 1
  | .slice elems spare => uptoBulkAll elems + uptoBulkAll spare + 1
  | .agg parts => uptoBulkAll parts + 1
  | .iface _ d => uptoBulk d + 1
  | .map entries => uptoBulkEntries entries + 1
  | .held _ => 1
def uptoBulkAll {H : Type} : List (DataW H) → Nat
  | [] => 0
  | d :: r => uptoBulk d + uptoBulkAll r
def uptoBulkEntries {H : Type} : List (Lit × DataW H) → Nat
  | [] => 0
  | x :: r => uptoBulkEntry x + uptoBulkEntries r
def uptoBulkEntry {H : Type} : Lit × DataW H → Nat
  | (.string bytes, d) => bytes.length + uptoBulk d + 1
  | (_, d) => uptoBulk d + 1
 end
def uptoSmall : (H : Type) → List (DataW H) → Bool := fun _ ds => decide (uptoBulkAll ds ≤ 1048576)
def OpenSpec.upto (s : _root_.Go.ChangeSpec) : _root_.Go.OpenSpec := { _root_.Go.OpenSpec.ofChange s with cond := some uptoSmall }

/-- 'redpencillaw17.CanonStates', WHERE WHAT IT READS IS OF BULK AT MOST 1048576: true; the input reads as it did. -/
def canonStatesUptoRow : OpenClaim := { program := "ytfbjbajbjlcjfaa", sum := "c8ea2be6782cb737481707425aad07b7ccd5a143ac58908986c58e4c79ffbd6c", func := "redpencil/redpencillaw17.CanonStates", spec := "canonStates", unfollowed := true, recurses := true, apart := false, narrowed := true }
def CanonStatesUptoSaid : Prop := canonStatesUptoRow.holds Try.pinned (OpenSpec.upto canonStatesSpec)

/-- 'redpencillaw17.CanonNodes', WHERE WHAT IT READS IS OF BULK AT MOST 1048576: true; the input reads as it did. -/
def canonNodesUptoRow : OpenClaim := { program := "ytfbjbajbjlcjfaa", sum := "c8ea2be6782cb737481707425aad07b7ccd5a143ac58908986c58e4c79ffbd6c", func := "redpencil/redpencillaw17.CanonNodes", spec := "canonNodes", unfollowed := true, recurses := true, apart := false, narrowed := true }
def CanonNodesUptoSaid : Prop := canonNodesUptoRow.holds Try.pinned (OpenSpec.upto canonNodesSpec)

/-- 'redpencillaw17.CanonContexts', WHERE WHAT IT READS IS OF BULK AT MOST 1048576: true; the input reads as it did. -/
def canonContextsUptoRow : OpenClaim := { program := "ytfbjbajbjlcjfaa", sum := "c8ea2be6782cb737481707425aad07b7ccd5a143ac58908986c58e4c79ffbd6c", func := "redpencil/redpencillaw17.CanonContexts", spec := "canonContexts", unfollowed := true, recurses := true, apart := false, narrowed := true }
def CanonContextsUptoSaid : Prop := canonContextsUptoRow.holds Try.pinned (OpenSpec.upto canonContextsSpec)

/-- 'redpencillaw17.CanonLongs', WHERE WHAT IT READS IS OF BULK AT MOST 1048576: true; the input reads as it did. -/
def canonLongsUptoRow : OpenClaim := { program := "ytfbjbajbjlcjfaa", sum := "c8ea2be6782cb737481707425aad07b7ccd5a143ac58908986c58e4c79ffbd6c", func := "redpencil/redpencillaw17.CanonLongs", spec := "canonLongs", unfollowed := true, recurses := true, apart := false, narrowed := true }
def CanonLongsUptoSaid : Prop := canonLongsUptoRow.holds Try.pinned (OpenSpec.upto canonLongsSpec)

/-- 'redpencillaw17.CanonHolds', WHERE WHAT IT READS IS OF BULK AT MOST 1048576: true; the input reads as it did. -/
def canonHoldsUptoRow : OpenClaim := { program := "ytfbjbajbjlcjfaa", sum := "c8ea2be6782cb737481707425aad07b7ccd5a143ac58908986c58e4c79ffbd6c", func := "redpencil/redpencillaw17.CanonHolds", spec := "canonHolds", unfollowed := true, recurses := true, apart := false, narrowed := true }
def CanonHoldsUptoSaid : Prop := canonHoldsUptoRow.holds Try.pinned (OpenSpec.upto canonHoldsSpec)

end Rows
end Go.Proofs.Ytfbjbajbjlcjfaa
