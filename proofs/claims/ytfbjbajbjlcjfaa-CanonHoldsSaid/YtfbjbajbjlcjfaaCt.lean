/- Layer 17, plain law: what the statements share, and CanonNodes. -/
import Derived.Test.YtfbjbajbjlcjfaaCfb
import Derived.Test.YtfbjbajbjlcjfaaCq
import Derived.Test.YtfbjbajbjlcjfaaCmb
import Derived.Test.YtfbjbajbjlcjfaaPCanonStatesx17
import Derived.Test.YtfbjbajbjlcjfaaPCanonStatesx18
import Derived.Test.YtfbjbajbjlcjfaaPCanonStatesx19
namespace Go.Proofs.Ytfbjbajbjlcjfaa.Cn
open Go Go.RowKit Go.Proofs Go.Proofs.Ytfbjbajbjlcjfaa.PCanonStates Go.Proofs.YtfbjbajbjlcjfaaW.PrintWords
set_option linter.unusedSimpArgs false
set_option linter.unusedVariables false

theorem leO_up {α : Type} {g : Nat → Option α} {r : α} (h : ∀ k, LeO (g k) (g (k + 1))) {K : Nat} (hK : g K = some r) : ∀ k, K ≤ k → g k = some r := by
  intro k hk
  obtain ⟨n, rfl⟩ : ∃ n, k = K + n := ⟨k - K, by omega⟩
  clear hk
  induction n with
  | zero => exact hK
  | succ n ih => exact h (K + n) r ih
theorem known_f {k : Nat} (h : 60 ≤ k) : redpencillaw17_known.f k = some true := leO_up redpencillaw17_known.mono redpencillaw17_known.at_ k h
theorem then_known {k : Nat} (h : 60 ≤ k) : ((redpencillaw17_known.f k).bind fun t => some t) = some true := by rw [known_f h]; rfl
theorem cenP_ok {xs : List S38} (h : StoreOk xs) (hl : xs.length ≤ 65536) : cenP xs = (canonBs xs, 0) := by unfold cenP; rw [if_pos h, if_pos hl]
theorem cenP_long {xs : List S38} (h : StoreOk xs) (hl : 65536 < xs.length) : cenP xs = ([], 5) := by unfold cenP; rw [if_pos h, if_neg (by omega)]
theorem cenP_bad {xs : List S38} (h : ¬ StoreOk xs) : cenP xs = ([], 2) := by unfold cenP; rw [if_neg h]
theorem ccxP_ok {vs cl : List S36} (h : CompactOk vs cl) (h1 : vs.length ≤ 65536) (h2 : cl.length ≤ 65536) : ccxP vs cl = (ctxBs vs cl, 0) := by unfold ccxP; rw [if_pos h, if_pos ⟨h1, h2⟩]
theorem ccxP_long {vs cl : List S36} (h : CompactOk vs cl) (h1 : ¬ (vs.length ≤ 65536 ∧ cl.length ≤ 65536)) : ccxP vs cl = ([], 5) := by unfold ccxP; rw [if_pos h, if_neg h1]
theorem ccxP_bad {vs cl : List S36} (h : ¬ CompactOk vs cl) : ccxP vs cl = ([], 2) := by unfold ccxP; rw [if_neg h]
theorem enc_f {xs : List S38} (hl : xs.length ≤ 1000000) : canon_Encode.f xs = some (cenP xs) := if_pos hl
theorem siz_f {xs : List S38} (hl : xs.length ≤ 1000000) : canon_Size.f xs = some (((cenP xs).1.length : Int), (cenP xs).2) := if_pos hl
theorem ctx_f {vs cl : List S36} (h1 : vs.length ≤ 1000000) (h2 : cl.length ≤ 1000000) : canon_Context.f vs cl = some (ccxP vs cl) := if_pos ⟨h1, h2⟩
theorem encodes_t {xs : List S38} (hl : xs.length ≤ 1000000) : redpencillaw17_encodes.f xs (cenP xs).1 (cenP xs).2 = some true := by
  unfold redpencillaw17_encodes.f
  rw [enc_f hl, Option.bind_some, if_pos rfl, beq_self_eq_true]
theorem sizes_t {xs : List S38} (hl : xs.length ≤ 1000000) : redpencillaw17_sizes.f xs ((cenP xs).1.length : Int) (cenP xs).2 = some true := by
  unfold redpencillaw17_sizes.f
  rw [siz_f hl, Option.bind_some, if_pos rfl, beq_self_eq_true]
theorem contexts_t {vs cl : List S36} (h1 : vs.length ≤ 1000000) (h2 : cl.length ≤ 1000000) : redpencillaw17_contexts.f vs cl (ccxP vs cl).1 (ccxP vs cl).2 = some true := by
  unfold redpencillaw17_contexts.f
  rw [ctx_f h1 h2, Option.bind_some, if_pos rfl, beq_self_eq_true]
theorem rbytes_up {xs : List S38} (hl : xs.length ≤ 65536) (h : StoreOk xs) {k : Nat} (hk : 2 * xs.length + 12 ≤ k) : redpencilref17_Bytes.f k xs = some (canonBs xs) := leO_up (redpencilref17_Bytes.mono xs) (rbytes_f xs hl h) k hk
theorem one_ok (x : S38) : StoreOk [x] ↔ okNode x := by
  constructor
  · intro h
    exact h.1 0 (by simp)
  · intro h
    refine ⟨fun j hj => ?_, fun j hj => by simp at hj⟩
    obtain rfl : j = 0 := by simp at hj; omega
    exact h

theorem canonNodes_f (a b c d e f : Int) : redpencillaw17_CanonNodes.f 100 a b c d e f = some true := by
  have hn : redpencilref14_IsNode.f a b c d e f = some (decide (okNode ⟨⟨a, b⟩, ⟨c, d⟩, e, f⟩)) := rnode_f ⟨⟨a, b⟩, ⟨c, d⟩, e, f⟩
  unfold redpencillaw17_CanonNodes.f
  rw [Option.bind_some, hn, Option.bind_some]
  generalize (⟨⟨a, b⟩, ⟨c, d⟩, e, f⟩ : S38) = x
  have hl : [x].length ≤ 1000000 := by simp
  have he := encodes_t hl
  have hz := sizes_t hl
  by_cases h : okNode x
  · have hs := (one_ok x).2 h
    rw [cenP_ok hs (by simp)] at he hz
    rw [if_pos (decide_eq_true h), rbytes_up (by simp) hs (by simp), Option.bind_some, he, Option.bind_some, if_pos rfl, Option.bind_some, hz, Option.bind_some, if_pos rfl]
    exact then_known (by omega)
  · rw [cenP_bad (fun q => h ((one_ok x).1 q))] at he
    rw [if_neg (by simpa using h), he, Option.bind_some, if_pos rfl]
    exact then_known (by omega)
end Go.Proofs.Ytfbjbajbjlcjfaa.Cn
