/- Layer 9: nodes as arguments of rows; the laws' calls at read arguments. -/
import Derived.Test.YtamggklblaigpaaGreatDoorOp
import Derived.Test.YtamggklblaigpaaGreatDoorNmd
import Derived.Test.YtamggklblaigpaaGreatDoorNw
namespace Go.Proofs.YtamggklblaigpaaGreatDoor.Nx
open Go Go.RowKit Go.Proofs Go.Proofs.YtamggklblaigpaaGreatDoor.Kit Go.Proofs.YtamggklblaigpaaGreatDoor.PAll Go.Proofs.YtamggklblaigpaaGreatDoorW.PrintWords Go.Proofs.YtamggklblaigpaaGreatDoor.Lw
set_option linter.unusedSimpArgs false
set_option linter.unusedVariables false

theorem agg_of {v : Value} {l : List Value} (h : v.cells.toList = l) (h1 : l.length ≠ 1) : v = .agg l.toArray := by
  subst h
  cases v <;> simp_all [Value.cells]
abbrev kD : Kd (Int × Int) := Kd.pair (Kd.int .i64) (Kd.int .i64)
abbrev kN : Kd ((Int × Int) × (Int × Int) × Int × Int) := Kd.pair kD (Kd.pair kD (Kd.pair (Kd.int .i64) (Kd.int .i32)))
theorem opens_dot : Opens Tryz.prog 23 kD (fun _ => True) :=
  opens_mono (opens_struct (d := kD) Tryz.underlying23 (by kernel_rfl) (opens_cons rfl (by kernel_rfl) (opens_int Tryz.underlying3) (opens_last rfl (by kernel_rfl) (opens_int Tryz.underlying3)))) (fun _ _ => trivial)
theorem opens_node : Opens Tryz.prog 25 kN (fun x => (Lit.int .i32 x.2.2.2).wf = true) :=
  opens_mono (opens_struct (d := kN) Tryz.underlying25 (by kernel_rfl)
    (opens_cons rfl (by kernel_rfl) opens_dot (opens_cons rfl (by kernel_rfl) opens_dot (opens_cons rfl (by kernel_rfl) (opens_int Tryz.underlying3) (opens_last rfl (by kernel_rfl) (opens_int Tryz.underlying21)))))) (fun _ h => h.2.2.2)
def ndOf (x : (Int × Int) × (Int × Int) × Int × Int) : Nd := ⟨x.1.1, x.1.2, x.2.1.1, x.2.1.2, x.2.2.1, x.2.2.2⟩
theorem node_cells {v : Value} {x : (Int × Int) × (Int × Int) × Int × Int} {W : World} (h : kN.K W x v.cells.toList) : v = .agg #[.int .i64 (ndOf x).r, .int .i64 (ndOf x).c, .int .i64 (ndOf x).p, .int .i64 (ndOf x).q, .int .i64 (ndOf x).t, .int .i32 (ndOf x).u] := by
  obtain ⟨r0, r1, hc, ⟨a0, a1, e0, b0, b1⟩, ⟨r2, r3, e1, ⟨a2, a3, e2, b2, b3⟩, ⟨a4, a5, e3, b4, b5⟩⟩⟩ := h
  have b0 : a0 = [.int .i64 x.1.1] := b0
  have b1 : a1 = [.int .i64 x.1.2] := b1
  have b2 : a2 = [.int .i64 x.2.1.1] := b2
  have b3 : a3 = [.int .i64 x.2.1.2] := b3
  have b4 : a4 = [.int .i64 x.2.2.1] := b4
  have b5 : a5 = [.int .i32 x.2.2.2] := b5
  subst b0 b1 b2 b3 b4 b5 e0 e2 e3 e1
  exact agg_of hc (by simp)
abbrev YesP (w : World) (e : Ending) (w' : World) : Prop := e = .returned (.bool true) ∧ Below w.heap.size w w'
theorem valid_walk (v0 : Value) (x0 : (Int × Int) × (Int × Int) × Int × Int) (W : World) (hG : GOK W) (h0 : kN.K W x0 v0.cells.toList) (u0 : (Lit.int .i32 x0.2.2.2).wf = true) : Calls Tryz.prog 5 #[v0] W (YesP W) := by
  rw [node_cells h0]
  exact redpencillaw09_NodeValid.calls 100 _ _ _ _ _ _ W hG (NodeValid_f (ndOf x0) (wf_i32 u0))
theorem orders_walk (v0 v1 : Value) (x0 x1 : (Int × Int) × (Int × Int) × Int × Int) (W : World) (hG : GOK W) (h0 : kN.K W x0 v0.cells.toList) (h1 : kN.K W x1 v1.cells.toList) : Calls Tryz.prog 6 #[v0, v1] W (YesP W) := by
  rw [node_cells h0, node_cells h1]
  exact redpencillaw09_NodeOrders.calls 100 _ _ _ _ _ _ _ _ _ _ _ _ W hG (NodeOrders_f (ndOf x0) (ndOf x1))
theorem merges_walk (v0 v1 : Value) (x0 x1 : (Int × Int) × (Int × Int) × Int × Int) (W : World) (hG : GOK W) (h0 : kN.K W x0 v0.cells.toList) (u0 : (Lit.int .i32 x0.2.2.2).wf = true) (h1 : kN.K W x1 v1.cells.toList) (u1 : (Lit.int .i32 x1.2.2.2).wf = true) : Calls Tryz.prog 7 #[v0, v1] W (YesP W) := by
  rw [node_cells h0, node_cells h1]
  exact redpencillaw09_NodeMerges.calls 100 _ _ _ _ _ _ _ _ _ _ _ _ W hG (NodeMerges_f (ndOf x0) (ndOf x1) (wf_i32 u0) (wf_i32 u1))
end Go.Proofs.YtamggklblaigpaaGreatDoor.Nx
