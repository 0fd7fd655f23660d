/- Layer 17, plain law: what CanonContexts takes of the shared part (XCt without the bytes of states). -/
import Derived.Test.YtfbjbajbjlcjfaaCmb
import Derived.Test.YtfbjbajbjlcjfaaPCanonStatesx17
import Derived.Test.YtfbjbajbjlcjfaaPCanonStatesx18
namespace Go.Proofs.Ytfbjbajbjlcjfaa.Cn
open Go Go.RowKit Go.Proofs Go.Proofs.Ytfbjbajbjlcjfaa.PCanonStates Go.Proofs.YtfbjbajbjlcjfaaW.PrintWords
set_option linter.unusedSimpArgs false
set_option linter.unusedVariables false

theorem leO_up {α : Type} {g : Nat → Option α} {r : α} (h : ∀ k, LeO (g k) (g (k + 1))) {K : Nat} (hK : g K = some r) : ∀ k, K ≤ k → g k = some r := by
  intro k hk
  obtain ⟨n, rfl⟩ : ∃ n, k = K + n := ⟨k - K, by omega⟩
  clear hk
  induction n with
  | zero => exact hK
  | succ n ih => exact h (K + n) r ih
theorem known_f {k : Nat} (h : 60 ≤ k) : redpencillaw17_known.f k = some true := leO_up redpencillaw17_known.mono redpencillaw17_known.at_ k h
theorem then_known {k : Nat} (h : 60 ≤ k) : ((redpencillaw17_known.f k).bind fun t => some t) = some true := by rw [known_f h]; rfl
theorem cenP_ok {xs : List S38} (h : StoreOk xs) (hl : xs.length ≤ 65536) : cenP xs = (canonBs xs, 0) := by unfold cenP; rw [if_pos h, if_pos hl]
theorem cenP_long {xs : List S38} (h : StoreOk xs) (hl : 65536 < xs.length) : cenP xs = ([], 5) := by unfold cenP; rw [if_pos h, if_neg (by omega)]
theorem cenP_bad {xs : List S38} (h : ¬ StoreOk xs) : cenP xs = ([], 2) := by unfold cenP; rw [if_neg h]
theorem ccxP_ok {vs cl : List S36} (h : CompactOk vs cl) (h1 : vs.length ≤ 65536) (h2 : cl.length ≤ 65536) : ccxP vs cl = (ctxBs vs cl, 0) := by unfold ccxP; rw [if_pos h, if_pos ⟨h1, h2⟩]
theorem ccxP_long {vs cl : List S36} (h : CompactOk vs cl) (h1 : ¬ (vs.length ≤ 65536 ∧ cl.length ≤ 65536)) : ccxP vs cl = ([], 5) := by unfold ccxP; rw [if_pos h, if_neg h1]
theorem ccxP_bad {vs cl : List S36} (h : ¬ CompactOk vs cl) : ccxP vs cl = ([], 2) := by unfold ccxP; rw [if_neg h]
theorem enc_f {xs : List S38} (hl : xs.length ≤ 1000000) : canon_Encode.f xs = some (cenP xs) := if_pos hl
theorem siz_f {xs : List S38} (hl : xs.length ≤ 1000000) : canon_Size.f xs = some (((cenP xs).1.length : Int), (cenP xs).2) := if_pos hl
theorem ctx_f {vs cl : List S36} (h1 : vs.length ≤ 1000000) (h2 : cl.length ≤ 1000000) : canon_Context.f vs cl = some (ccxP vs cl) := if_pos ⟨h1, h2⟩
theorem encodes_t {xs : List S38} (hl : xs.length ≤ 1000000) : redpencillaw17_encodes.f xs (cenP xs).1 (cenP xs).2 = some true := by
  unfold redpencillaw17_encodes.f
  rw [enc_f hl, Option.bind_some, if_pos rfl, beq_self_eq_true]
theorem sizes_t {xs : List S38} (hl : xs.length ≤ 1000000) : redpencillaw17_sizes.f xs ((cenP xs).1.length : Int) (cenP xs).2 = some true := by
  unfold redpencillaw17_sizes.f
  rw [siz_f hl, Option.bind_some, if_pos rfl, beq_self_eq_true]
theorem contexts_t {vs cl : List S36} (h1 : vs.length ≤ 1000000) (h2 : cl.length ≤ 1000000) : redpencillaw17_contexts.f vs cl (ccxP vs cl).1 (ccxP vs cl).2 = some true := by
  unfold redpencillaw17_contexts.f
  rw [ctx_f h1 h2, Option.bind_some, if_pos rfl, beq_self_eq_true]
end Go.Proofs.Ytfbjbajbjlcjfaa.Cn
