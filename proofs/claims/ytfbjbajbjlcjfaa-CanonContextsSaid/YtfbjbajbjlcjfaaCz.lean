/- Layer 17: nodes, dots and contexts as arguments of rows. -/
import Derived.Test.YtfbjbajbjlcjfaaOp
import Derived.Test.YtfbjbajbjlcjfaaPCanonStatesx0
namespace Go.Proofs.Ytfbjbajbjlcjfaa.Cn
open Go Go.RowKit Go.Proofs Go.Proofs.Ytfbjbajbjlcjfaa.Kit Go.Proofs.Ytfbjbajbjlcjfaa.PCanonStates Go.Proofs.YtfbjbajbjlcjfaaW.PrintWords
set_option linter.unusedSimpArgs false
set_option linter.unusedVariables false

theorem agg_of {v : Value} {l : List Value} (h : v.cells.toList = l) (h1 : l.length ≠ 1) : v = .agg l.toArray := by
  subst h
  cases v <;> simp_all [Value.cells]
theorem opens_dot : Opens Try.prog 36 k36 (fun _ => True) :=
  opens_mono (opens_iso (fun x : S36 => (x.f0, x.f1)) (fun a => ⟨a.1, a.2⟩) (fun _ => rfl) (opens_struct (d := Kd.pair (Kd.int .i64) (Kd.int .i64)) Try.underlying36 (by kernel_rfl) (opens_cons rfl (by kernel_rfl) (opens_int Try.underlying3) (opens_last rfl (by kernel_rfl) (opens_int Try.underlying3))))) (fun _ _ => trivial)
theorem opens_node : Opens Try.prog 38 k38 (fun _ => True) :=
  opens_mono (opens_iso (fun x : S38 => (x.f0, x.f1, x.f2, x.f3)) (fun a => ⟨a.1, a.2.1, a.2.2.1, a.2.2.2⟩) (fun _ => rfl) (opens_struct (d := Kd.pair k36 (Kd.pair k36 (Kd.pair (Kd.int .i64) (Kd.int .i32)))) Try.underlying38 (by kernel_rfl)
    (opens_cons rfl (by kernel_rfl) opens_dot (opens_cons rfl (by kernel_rfl) opens_dot (opens_cons rfl (by kernel_rfl) (opens_int Try.underlying3) (opens_last rfl (by kernel_rfl) (opens_int Try.underlying21))))))) (fun _ _ => trivial)
theorem opens_vec : Opens Try.prog 41 (Kd.slice 36 k36) (fun _ => True) := opens_mono (opens_slice (d := k36) Try.underlying41 (by kernel_rfl) z36 opens_dot) (fun _ _ => trivial)
theorem opens_dots : Opens Try.prog 40 (Kd.slice 36 k36) (fun _ => True) := opens_mono (opens_slice (d := k36) Try.underlying40 (by kernel_rfl) z36 opens_dot) (fun _ _ => trivial)
theorem opens_ctx : Opens Try.prog 43 (Kd.pair (Kd.slice 36 k36) (Kd.slice 36 k36)) (fun _ => True) :=
  opens_mono (opens_struct (d := Kd.pair (Kd.slice 36 k36) (Kd.slice 36 k36)) Try.underlying43 (by kernel_rfl) (opens_cons rfl (by kernel_rfl) opens_vec (opens_last rfl (by kernel_rfl) opens_dots))) (fun _ _ => trivial)
theorem opens_state : Opens Try.prog 23 (Kd.slice 38 k38) (fun _ => True) := opens_mono (opens_slice (d := k38) Try.underlying23 (by kernel_rfl) z38 opens_node) (fun _ _ => trivial)
theorem wf_u8 {n : Int} (h : (Lit.int .u8 n).wf = true) : 0 ≤ n ∧ n ≤ 255 := by
  simp only [Lit.wf, Bool.and_eq_true, decide_eq_true_eq] at h
  exact ⟨by have := h.1; simpa [IntKind.min, IntKind.signed] using this, by have := h.2; simp [IntKind.max, IntKind.signed, IntKind.bits] at this; omega⟩
theorem ctx_open {v : Value} {x : List S36 × List S36} {W : World} (h : (Kd.pair (Kd.slice 36 k36) (Kd.slice 36 k36)).K W x v.cells.toList) :
    ∃ A0 c0 A1 c1, v = .agg #[.slice A0 x.1.length c0, .slice A1 x.2.length c1] ∧ k36.C W A0 x.1.length x.1 ∧ x.1.length ≤ c0 ∧ k36.C W A1 x.2.length x.2 ∧ x.2.length ≤ c1 := by
  obtain ⟨r0, r1, hc, ⟨A0, c0, e0, l0, C0⟩, ⟨A1, c1, e1, l1, C1⟩⟩ := h
  subst e0 e1
  exact ⟨A0, c0, A1, c1, agg_of hc (by simp), C0, l0, C1, l1⟩
end Go.Proofs.Ytfbjbajbjlcjfaa.Cn
