/- Layer 4: dots and lists of dots as arguments of rows. -/
import Derived.Test.YtcmicaheakkgdaaDoorOp
import Derived.Test.YtcmicaheakkgdaaDoorDv
namespace Go.Proofs.YtcmicaheakkgdaaDoor.Dl
open Go Go.RowKit Go.Proofs Go.Proofs.YtcmicaheakkgdaaDoor.Kit Go.Proofs.YtcmicaheakkgdaaDoor.PAll Go.Proofs.YtcmicaheakkgdaaDoorW.PrintWords
set_option linter.unusedSimpArgs false
set_option linter.unusedVariables false

theorem agg_of {v : Value} {l : List Value} (h : v.cells.toList = l) (h1 : l.length ≠ 1) : v = .agg l.toArray := by
  subst h
  cases v <;> simp_all [Value.cells]
theorem opens_dot : Opens Tryd.prog 23 k23 (fun _ => True) :=
  opens_mono (opens_iso (fun x : S23 => (x.f0, x.f1)) (fun a => ⟨a.1, a.2⟩) (fun _ => rfl) (opens_struct (d := Kd.pair (Kd.int .i64) (Kd.int .i64)) Tryd.underlying23 (by kernel_rfl) (opens_cons rfl (by kernel_rfl) (opens_int Tryd.underlying3) (opens_last rfl (by kernel_rfl) (opens_int Tryd.underlying3))))) (fun _ _ => trivial)
theorem opens_dots : Opens Tryd.prog 28 (Kd.slice 23 k23) (fun _ => True) := opens_mono (opens_slice (d := k23) Tryd.underlying28 (by kernel_rfl) z23 opens_dot) (fun _ _ => trivial)
theorem dot_cells {v : Value} {x : S23} {W : World} (h : k23.K W x v.cells.toList) : v = .agg #[.int .i64 x.f0, .int .i64 x.f1] := by
  obtain ⟨r0, r1, hc, h0, h1⟩ := h
  have h0 : r0 = [.int .i64 x.f0] := h0
  have h1 : r1 = [.int .i64 x.f1] := h1
  subst h0 h1
  exact agg_of hc (by simp)
abbrev YesP (w : World) (e : Ending) (w' : World) : Prop := e = .returned (.bool true) ∧ Below w.heap.size w w'
end Go.Proofs.YtcmicaheakkgdaaDoor.Dl
