/- Layer 17: nodes, dots and contexts as arguments of rows. -/
import Derived.Test.YtfbjbajbjlcjfaaOp
import Derived.Test.YtfbjbajbjlcjfaaPCanonStatesx0
namespace Go.Proofs.Ytfbjbajbjlcjfaa.Cn
open Go Go.RowKit Go.Proofs Go.Proofs.Ytfbjbajbjlcjfaa.Kit Go.Proofs.Ytfbjbajbjlcjfaa.PCanonStates Go.Proofs.YtfbjbajbjlcjfaaW.PrintWords
set_option linter.unusedSimpArgs false
set_option linter.unusedVariables false

theorem opens_dot : Opens Try.prog 36 k36 (fun _ => True) :=
  opens_mono (opens_iso (fun x : S36 => (x.f0, x.f1)) (fun a => ⟨a.1, a.2⟩) (fun _ => rfl) (opens_struct (d := Kd.pair (Kd.int .i64) (Kd.int .i64)) Try.underlying36 (by kernel_rfl) (opens_cons rfl (by kernel_rfl) (opens_int Try.underlying3) (opens_last rfl (by kernel_rfl) (opens_int Try.underlying3))))) (fun _ _ => trivial)
theorem opens_node : Opens Try.prog 38 k38 (fun _ => True) :=
  opens_mono (opens_iso (fun x : S38 => (x.f0, x.f1, x.f2, x.f3)) (fun a => ⟨a.1, a.2.1, a.2.2.1, a.2.2.2⟩) (fun _ => rfl) (opens_struct (d := Kd.pair k36 (Kd.pair k36 (Kd.pair (Kd.int .i64) (Kd.int .i32)))) Try.underlying38 (by kernel_rfl)
    (opens_cons rfl (by kernel_rfl) opens_dot (opens_cons rfl (by kernel_rfl) opens_dot (opens_cons rfl (by kernel_rfl) (opens_int Try.underlying3) (opens_last rfl (by kernel_rfl) (opens_int Try.underlying21))))))) (fun _ _ => trivial)
theorem opens_state : Opens Try.prog 23 (Kd.slice 38 k38) (fun _ => True) := opens_mono (opens_slice (d := k38) Try.underlying23 (by kernel_rfl) z38 opens_node) (fun _ _ => trivial)
end Go.Proofs.Ytfbjbajbjlcjfaa.Cn
