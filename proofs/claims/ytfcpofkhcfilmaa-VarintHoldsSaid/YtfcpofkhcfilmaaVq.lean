/- The parts and the calls of layer 1's laws as arguments: what their reading says. -/
import Derived.Test.YtfcpofkhcfilmaaVv
import Derived.Test.YtfcpofkhcfilmaaOp
namespace Go.Proofs.Ytfcpofkhcfilmaa.Vn
open Go.RowKit Go.Proofs Go.Proofs.YtfcpofkhcfilmaaW.PrintWords Go.Proofs.Ytfcpofkhcfilmaa.Kit Go.Proofs.Ytfcpofkhcfilmaa.PVarintWrites
set_option linter.unusedSimpArgs false
set_option linter.unusedVariables false

theorem bys_of {xs : List Int} (h : ∀ x ∈ xs, (Lit.int .u8 x).wf = true) : Bys xs := fun x hx => wf_u8 (h x hx)
theorem opens_bytes : Opens Try.prog 23 (Kd.slice 5 k8) (fun xs => ∀ x ∈ xs, (Lit.int .u8 x).wf = true) := opens_slice (d := k8) Try.underlying23 (by kernel_rfl) (0 : Int) (opens_int Try.underlying5)
theorem opens_part : Opens Try.prog 48 k48 (fun x => (0 ≤ x.f1 ∧ x.f1 ≤ 18446744073709551615) ∧ (-9223372036854775808 ≤ x.f2 ∧ x.f2 ≤ 9223372036854775807) ∧ Bys x.f3) := by
  refine opens_mono (opens_iso (fun x : S48 => (x.f0, x.f1, x.f2, x.f3)) (fun a => ⟨a.1, a.2.1, a.2.2.1, a.2.2.2⟩) (fun _ => rfl) (opens_struct (d := Kd.pair (Kd.int .i64) (Kd.pair (Kd.int .u64) (Kd.pair (Kd.int .i64) (Kd.slice 5 k8)))) Try.underlying48 (by kernel_rfl) (opens_cons rfl (by kernel_rfl) (opens_int Try.underlying3) (opens_cons rfl (by kernel_rfl) (opens_int Try.underlying22) (opens_cons rfl (by kernel_rfl) (opens_int Try.underlying3) (opens_last rfl (by kernel_rfl) opens_bytes)))))) ?_
  rintro x ⟨h0, h1, h2, h3⟩
  exact ⟨wf_u64 h1, wf_i64 h2, bys_of h3⟩
end Go.Proofs.Ytfcpofkhcfilmaa.Vn
