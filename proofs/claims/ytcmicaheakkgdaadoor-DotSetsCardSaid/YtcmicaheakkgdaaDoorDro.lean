/- Layer 4: dots and lists of dots as arguments of rows; the laws' calls at read arguments. -/
import Derived.Test.YtcmicaheakkgdaaDoorOp
import Derived.Test.YtcmicaheakkgdaaDoorDmc
import Derived.Test.YtcmicaheakkgdaaDoorDv
namespace Go.Proofs.YtcmicaheakkgdaaDoor.Dl
open Go Go.RowKit Go.Proofs Go.Proofs.YtcmicaheakkgdaaDoor.Kit Go.Proofs.YtcmicaheakkgdaaDoor.PAll Go.Proofs.YtcmicaheakkgdaaDoorW.PrintWords
set_option linter.unusedSimpArgs false
set_option linter.unusedVariables false

theorem agg_of {v : Value} {l : List Value} (h : v.cells.toList = l) (h1 : l.length ≠ 1) : v = .agg l.toArray := by
  subst h
  cases v <;> simp_all [Value.cells]
theorem opens_dot : Opens Tryd.prog 23 k23 (fun _ => True) :=
  opens_mono (opens_iso (fun x : S23 => (x.f0, x.f1)) (fun a => ⟨a.1, a.2⟩) (fun _ => rfl) (opens_struct (d := Kd.pair (Kd.int .i64) (Kd.int .i64)) Tryd.underlying23 (by kernel_rfl) (opens_cons rfl (by kernel_rfl) (opens_int Tryd.underlying3) (opens_last rfl (by kernel_rfl) (opens_int Tryd.underlying3))))) (fun _ _ => trivial)
theorem opens_dots : Opens Tryd.prog 28 (Kd.slice 23 k23) (fun _ => True) := opens_mono (opens_slice (d := k23) Tryd.underlying28 (by kernel_rfl) z23 opens_dot) (fun _ _ => trivial)
theorem dot_cells {v : Value} {x : S23} {W : World} (h : k23.K W x v.cells.toList) : v = .agg #[.int .i64 x.f0, .int .i64 x.f1] := by
  obtain ⟨r0, r1, hc, h0, h1⟩ := h
  have h0 : r0 = [.int .i64 x.f0] := h0
  have h1 : r1 = [.int .i64 x.f1] := h1
  subst h0 h1
  exact agg_of hc (by simp)
abbrev YesP (w : World) (e : Ending) (w' : World) : Prop := e = .returned (.bool true) ∧ Below w.heap.size w w'
theorem orders_walk (v0 v1 : Value) (x0 x1 : S23) (W : World) (hG : GOK W) (h0 : k23.K W x0 v0.cells.toList) (h1 : k23.K W x1 v1.cells.toList) : Calls Tryd.prog 3 #[v0, v1] W (YesP W) := by
  rw [dot_cells h0, dot_cells h1]
  exact redpencillaw04_DotOrders.calls 200 _ _ _ _ W hG (DotOrders_f _ _ _ _)
theorem sets_walk (A0 : Option Addr) (c0 : Nat) (l0 : List S23) (v1 : Value) (x1 : S23) (W : World) (hG : GOK W) (h0 : k23.C W A0 l0.length l0) (hc0 : l0.length ≤ c0) (h1 : k23.K W x1 v1.cells.toList) : Calls Tryd.prog 4 #[.slice A0 l0.length c0, v1] W (YesP W) := by
  rw [dot_cells h1]
  exact redpencillaw04_DotSets.calls 400 A0 c0 l0 _ _ W hG h0 hc0 (DotSets_f _ _ _)
theorem pairs_walk (A0 : Option Addr) (c0 : Nat) (l0 : List S23) (A1 : Option Addr) (c1 : Nat) (l1 : List S23) (W : World) (hG : GOK W) (h0 : k23.C W A0 l0.length l0) (hc0 : l0.length ≤ c0) (h1 : k23.C W A1 l1.length l1) (hc1 : l1.length ≤ c1) : Calls Tryd.prog 5 #[.slice A0 l0.length c0, .slice A1 l1.length c1] W (YesP W) :=
  redpencillaw04_DotPairs.calls 400 A0 c0 l0 A1 c1 l1 W hG h0 hc0 h1 hc1 (DotPairs_f _ _)
theorem texts_walk (v0 : Value) (x0 : S23) (s : ByteArray) (W : World) (hG : GOK W) (h0 : k23.K W x0 v0.cells.toList) : Calls Tryd.prog 6 #[v0, .string s] W (YesP W) := by
  rw [dot_cells h0]
  exact redpencillaw04_DotTexts.calls 200 _ _ s W hG (DotTexts_f _ _ _)
end Go.Proofs.YtcmicaheakkgdaaDoor.Dl
