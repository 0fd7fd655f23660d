/- Layer 9: nodes as arguments of rows. -/
/- Layer 9, plain law: NodeHolds answers true. -/
/- Layer 9: the call of NodeHolds at read arguments. -/
import Derived.Test.YtamggklblaigpaaGreatDoorOp
import Derived.Test.YtamggklblaigpaaGreatDoorNmd
import Derived.Test.YtamggklblaigpaaGreatDoorNw
import Derived.Test.YtamggklblaigpaaGreatDoorPAllx12d
import Derived.Test.YtamggklblaigpaaGreatDoorPAllx12
namespace Go.Proofs.YtamggklblaigpaaGreatDoor.Nx
open Go Go.RowKit Go.Proofs Go.Proofs.YtamggklblaigpaaGreatDoor.Kit Go.Proofs.YtamggklblaigpaaGreatDoor.PAll Go.Proofs.YtamggklblaigpaaGreatDoorW.PrintWords Go.Proofs.YtamggklblaigpaaGreatDoor.Lw
set_option linter.unusedSimpArgs false
set_option linter.unusedVariables false

theorem agg_of {v : Value} {l : List Value} (h : v.cells.toList = l) (h1 : l.length ≠ 1) : v = .agg l.toArray := by
  subst h
  cases v <;> simp_all [Value.cells]
abbrev kD : Kd (Int × Int) := Kd.pair (Kd.int .i64) (Kd.int .i64)
abbrev kN : Kd ((Int × Int) × (Int × Int) × Int × Int) := Kd.pair kD (Kd.pair kD (Kd.pair (Kd.int .i64) (Kd.int .i32)))
theorem opens_dot : Opens Tryz.prog 23 kD (fun _ => True) :=
  opens_mono (opens_struct (d := kD) Tryz.underlying23 (by kernel_rfl) (opens_cons rfl (by kernel_rfl) (opens_int Tryz.underlying3) (opens_last rfl (by kernel_rfl) (opens_int Tryz.underlying3)))) (fun _ _ => trivial)
theorem opens_node : Opens Tryz.prog 25 kN (fun x => (Lit.int .i32 x.2.2.2).wf = true) :=
  opens_mono (opens_struct (d := kN) Tryz.underlying25 (by kernel_rfl)
    (opens_cons rfl (by kernel_rfl) opens_dot (opens_cons rfl (by kernel_rfl) opens_dot (opens_cons rfl (by kernel_rfl) (opens_int Tryz.underlying3) (opens_last rfl (by kernel_rfl) (opens_int Tryz.underlying21)))))) (fun _ h => h.2.2.2)
def ndOf (x : (Int × Int) × (Int × Int) × Int × Int) : Nd := ⟨x.1.1, x.1.2, x.2.1.1, x.2.1.2, x.2.2.1, x.2.2.2⟩
theorem node_cells {v : Value} {x : (Int × Int) × (Int × Int) × Int × Int} {W : World} (h : kN.K W x v.cells.toList) : v = .agg #[.int .i64 (ndOf x).r, .int .i64 (ndOf x).c, .int .i64 (ndOf x).p, .int .i64 (ndOf x).q, .int .i64 (ndOf x).t, .int .i32 (ndOf x).u] := by
  obtain ⟨r0, r1, hc, ⟨a0, a1, e0, b0, b1⟩, ⟨r2, r3, e1, ⟨a2, a3, e2, b2, b3⟩, ⟨a4, a5, e3, b4, b5⟩⟩⟩ := h
  have b0 : a0 = [.int .i64 x.1.1] := b0
  have b1 : a1 = [.int .i64 x.1.2] := b1
  have b2 : a2 = [.int .i64 x.2.1.1] := b2
  have b3 : a3 = [.int .i64 x.2.1.2] := b3
  have b4 : a4 = [.int .i64 x.2.2.1] := b4
  have b5 : a5 = [.int .i32 x.2.2.2] := b5
  subst b0 b1 b2 b3 b4 b5 e0 e2 e3 e1
  exact agg_of hc (by simp)
abbrev YesP (w : World) (e : Ending) (w' : World) : Prop := e = .returned (.bool true) ∧ Below w.heap.size w w'
end Go.Proofs.YtamggklblaigpaaGreatDoor.Nx

namespace Go.Proofs.YtamggklblaigpaaGreatDoor.Nx
open Go Go.RowKit Go.Proofs Go.Proofs.YtamggklblaigpaaGreatDoorW.PrintWords Go.Proofs.YtamggklblaigpaaGreatDoor.PAll Go.Proofs.YtamggklblaigpaaGreatDoor.Dx Go.Proofs.YtamggklblaigpaaGreatDoor.Hx Go.Proofs.YtamggklblaigpaaGreatDoor.Rn
set_option linter.unusedSimpArgs false
set_option linter.unusedVariables false

theorem mrg_self {a : Nd} (h : okN a) : mrg a a = (a, 0) := by
  rw [mrg_of h h, if_pos (show agr a a from ⟨rfl, rfl, rfl, rfl, rfl, .inl rfl⟩)]
  split <;> rfl
theorem mrg_err {a b : Nd} (h : (mrg a b).2 = 0) : okN a ∧ okN b ∧ agr a b := by
  by_cases k : okN a ∧ okN b
  · refine ⟨k.1, k.2, ?_⟩
    rw [mrg_of k.1 k.2] at h
    by_cases g : agr a b
    · exact g
    · rw [if_neg g] at h; exact absurd h (by decide)
  · rw [show mrg a b = (zN, 2) from if_neg k] at h; exact absurd h (by decide)
theorem mrg_dead {a b : Nd} (h : (mrg a b).2 = 0) (hb : b.u = 0) : mrg a b = (b, 0) := by
  obtain ⟨h1, h2, h3⟩ := mrg_err h
  rw [mrg_of h1 h2, if_pos h3, if_pos hb]
theorem mrg_live {a b : Nd} (h : (mrg a b).2 = 0) (hb : b.u ≠ 0) : mrg a b = (a, 0) := by
  obtain ⟨h1, h2, h3⟩ := mrg_err h
  rw [mrg_of h1 h2, if_pos h3, if_neg hb]
theorem mrg_valid {a b : Nd} (h : (mrg a b).2 = 0) : okN (mrg a b).1 := by
  by_cases hb : b.u = 0
  · rw [mrg_dead h hb]; exact (mrg_err h).2.1
  · rw [mrg_live h hb]; exact (mrg_err h).1
theorem mrg_is_dead {a b : Nd} (h : (mrg a b).2 = 0) : (mrg a b).1.u = 0 ↔ (a.u = 0 ∨ b.u = 0) := by
  by_cases hb : b.u = 0
  · rw [mrg_dead h hb]; exact ⟨fun _ => .inr hb, fun _ => hb⟩
  · rw [mrg_live h hb]; exact ⟨fun q => .inl q, fun q => q.resolve_right hb⟩
theorem mrg_assoc {a b c : Nd} (h1 : (mrg a b).2 = 0) (h2 : (mrg b c).2 = 0) (h3 : (mrg a c).2 = 0) : (mrg (mrg a b).1 c).2 = 0 ∧ mrg a (mrg b c).1 = mrg (mrg a b).1 c := by
  by_cases hb : b.u = 0
  · rw [mrg_dead h1 hb]
    refine ⟨h2, ?_⟩
    by_cases hc : c.u = 0
    · rw [mrg_dead h2 hc, mrg_dead h3 hc]
    · rw [mrg_live h2 hc, mrg_dead h1 hb]
  · rw [mrg_live h1 hb]
    refine ⟨h3, ?_⟩
    by_cases hc : c.u = 0
    · rw [mrg_dead h2 hc]
    · rw [mrg_live h2 hc, mrg_live h1 hb, mrg_live h3 hc]
theorem gv {k : Nat} (hk : 2 ≤ k) (a b : Nd) : node_Merge.f k a.r a.c a.p a.q a.t a.u b.r b.c b.p b.q b.t b.u = some (flat (mrg a b)) := by
  obtain ⟨j, rfl⟩ : ∃ j, k = j + 2 := ⟨k - 2, by omega⟩
  rw [merge_f]
theorem hj4 {k : Nat} (hk : 30 ≤ k) (a c : Nd) (ab bc : Nd) (h : (mrg ab c).2 = 0 ∧ mrg a bc = mrg ab c) : redpencillaw09_NodeHolds.j4 k false a.r a.c a.p a.q a.t a.u c.r c.c c.p c.q c.t c.u ab.r ab.c ab.p ab.q ab.t ab.u bc.r bc.c bc.p bc.q bc.t bc.u = some true := by
  obtain ⟨k, rfl⟩ : ∃ j, k = j + 1 := ⟨k - 1, by omega⟩
  rw [redpencillaw09_NodeHolds.j4, if_neg (by decide), gv (by omega), Option.bind_some]
  obtain ⟨n, hn⟩ : ∃ n, mrg ab c = (n, 0) := ⟨(mrg ab c).1, by rw [← h.1]⟩
  rw [hn]
  show (if (0 : Int) = 0 then (redpencillaw09_merges.f k a.r a.c a.p a.q a.t a.u bc.r bc.c bc.p bc.q bc.t bc.u n.r n.c n.p n.q n.t n.u 0).bind _ else _) = _
  rw [if_pos rfl, mv (by omega) a bc n 0 (h.2.trans hn), Option.bind_some, if_pos rfl]
  exact then_known (by omega)
theorem hj4t {k : Nat} (hk : 30 ≤ k) (a c : Nd) (ab bc : Nd) : redpencillaw09_NodeHolds.j4 k true a.r a.c a.p a.q a.t a.u c.r c.c c.p c.q c.t c.u ab.r ab.c ab.p ab.q ab.t ab.u bc.r bc.c bc.p bc.q bc.t bc.u = some true := by
  obtain ⟨k, rfl⟩ : ∃ j, k = j + 1 := ⟨k - 1, by omega⟩
  rw [redpencillaw09_NodeHolds.j4, if_pos rfl]
  exact then_known (by omega)
theorem hj3 {k : Nat} (hk : 40 ≤ k) (a b c : Nd) : redpencillaw09_NodeHolds.j3 k (mrg a b).2 (mrg b c).2 (mrg a c).2 false a.r a.c a.p a.q a.t a.u c.r c.c c.p c.q c.t c.u (mrg a b).1.r (mrg a b).1.c (mrg a b).1.p (mrg a b).1.q (mrg a b).1.t (mrg a b).1.u (mrg b c).1.r (mrg b c).1.c (mrg b c).1.p (mrg b c).1.q (mrg b c).1.t (mrg b c).1.u = some true := by
  obtain ⟨k, rfl⟩ : ∃ j, k = j + 1 := ⟨k - 1, by omega⟩
  rw [redpencillaw09_NodeHolds.j3, if_neg (by decide)]
  by_cases h1 : (mrg a b).2 = 0
  · rw [if_pos h1]
    by_cases h2 : (mrg b c).2 = 0
    · rw [if_pos h2]
      by_cases h3 : (mrg a c).2 = 0
      · rw [show ((mrg a c).2 != 0) = false by rw [h3]; rfl]
        exact hj4 (by omega) a c _ _ (mrg_assoc h1 h2 h3)
      · rw [show ((mrg a c).2 != 0) = true by simpa using h3]
        exact hj4t (by omega) a c _ _
    · rw [if_neg h2]
      exact hj4t (by omega) a c _ _
  · rw [if_neg h1]
    exact hj4t (by omega) a c _ _
theorem hj2 {k : Nat} (hk : 50 ≤ k) (a b c : Nd) : redpencillaw09_NodeHolds.j2 k false a.r a.c a.p a.q a.t a.u b.r b.c b.p b.q b.t b.u c.r c.c c.p c.q c.t c.u = some true := by
  obtain ⟨k, rfl⟩ : ∃ j, k = j + 1 := ⟨k - 1, by omega⟩
  rw [redpencillaw09_NodeHolds.j2, if_neg (by decide), gv (by omega), Option.bind_some, gv (by omega), Option.bind_some, gv (by omega), Option.bind_some]
  show (redpencillaw09_merges.f k b.r b.c b.p b.q b.t b.u a.r a.c a.p a.q a.t a.u (mrg a b).1.r (mrg a b).1.c (mrg a b).1.p (mrg a b).1.q (mrg a b).1.t (mrg a b).1.u (mrg a b).2).bind _ = _
  rw [mv (by omega) b a (mrg a b).1 (mrg a b).2 (mrg_symm b a), Option.bind_some, if_pos rfl]
  by_cases h : (mrg a b).2 = 0
  · rw [show (flat (mrg a b)).2.2.2.2.2.2 = 0 from h, if_pos rfl]
    unfold node_Dead.f
    rw [Option.bind_some, Option.bind_some]
    have V := vv (k := k) (by omega) (mrg a b).1 true (decide_eq_true (mrg_valid h))
    have F := hj3 (k := k) (by omega) a b c
    rw [h] at F
    have D := mrg_is_dead h
    by_cases ha : a.u = 0
    · rw [if_pos (by simpa using ha), show (flat (mrg a b)).2.2.2.2.2.1 = 0 from D.2 (.inl ha), if_neg (by decide)]
      rw [D.2 (.inl ha)] at V F
      show (node_Valid.f k (mrg a b).1.r (mrg a b).1.c (mrg a b).1.p (mrg a b).1.q (mrg a b).1.t 0).bind _ = _
      rw [V, Option.bind_some]
      exact F
    · rw [if_neg (by simpa using ha), Option.bind_some]
      have e : ((flat (mrg a b)).2.2.2.2.2.1 == 0) = (b.u == 0) := by
        show ((mrg a b).1.u == 0) = _
        by_cases hb : b.u = 0
        · rw [D.2 (.inr hb), hb]
        · rw [beq_eq_false_iff_ne.2 hb, beq_eq_false_iff_ne.2 (fun q => (D.1 q).elim ha hb)]
      rw [e, if_neg (by simp)]
      show (node_Valid.f k (mrg a b).1.r (mrg a b).1.c (mrg a b).1.p (mrg a b).1.q (mrg a b).1.t (mrg a b).1.u).bind _ = _
      rw [V, Option.bind_some]
      exact F
  · rw [if_neg (show ¬ (flat (mrg a b)).2.2.2.2.2.2 = 0 from h)]
    exact hj3 (by omega) a b c
theorem nt_size {a : Nd} (h : okN a) : (ntP a).size ≤ 1000000 := by
  have l1 := dt_len20 (.inl h.1)
  have l2 := dt_len20 h.2.1
  have l3 := dec_len 18 a.t.toNat (by have := h.2.2.2.1.2; unfold maxT at this; omega)
  have l4 := nm_len h.2.2.2.2
  have e : (ntP a).size = (ntL a).length := List.size_toArray ..
  have e2 : (ntL a).length = (dtL a.r a.c).length + ((dtL a.p a.q).length + ((Lib.decDigits a.t.toNat).length + (nmL a.u).length + 1) + 1) + 1 := by
    unfold ntL
    simp only [List.length_append, List.length_cons]
    omega
  omega
theorem hj1 {k : Nat} (hk : 60 ≤ k) (a b c : Nd) : redpencillaw09_NodeHolds.j1 k false a.r a.c a.p a.q a.t a.u b.r b.c b.p b.q b.t b.u c.r c.c c.p c.q c.t c.u = some true := by
  obtain ⟨k, rfl⟩ : ∃ j, k = j + 1 := ⟨k - 1, by omega⟩
  rw [redpencillaw09_NodeHolds.j1, if_neg (by decide)]
  unfold node_Text.f
  rw [Option.bind_some, vv (by omega) a _ rfl, Option.bind_some]
  show (if (((nodT a).2 == 0) != decide (okN a)) = true then _ else (if (nodT a).2 = 0 then (redpencillaw09_parses.f (nodT a).1 a.r a.c a.p a.q a.t a.u 0).bind _ else _)) = _
  by_cases h : okN a
  · rw [show nodT a = (ntP a, 0) from if_pos h, decide_eq_true h, if_neg (show ¬ (((0 : Int) == 0) != true) = true by decide), if_pos rfl, pv (ntP a) a.r a.c a.p a.q a.t a.u 0 (nt_size h) (nodP_yes h), Option.bind_some, if_pos rfl, mv (by omega) a a a 0 (mrg_self h), Option.bind_some]
    exact hj2 (by omega) a b c
  · rw [show nodT a = (⟨#[]⟩, 2) from if_neg h, decide_eq_false h, if_neg (show ¬ (((2 : Int) == 0) != false) = true by decide), if_neg (by decide)]
    exact hj2 (by omega) a b c
theorem hj0 {k : Nat} (hk : 70 ≤ k) (a b c : Nd) : redpencillaw09_NodeHolds.j0 k false a.r a.c a.p a.q a.t a.u b.r b.c b.p b.q b.t b.u c.r c.c c.p c.q c.t c.u = some true := by
  obtain ⟨k, rfl⟩ : ∃ j, k = j + 1 := ⟨k - 1, by omega⟩
  rw [redpencillaw09_NodeHolds.j0, if_neg (by decide), bv (by omega) a b _ rfl, Option.bind_some]
  by_cases h1 : befP a b
  · rw [if_pos (decide_eq_true h1), bv (by omega) b c _ rfl, Option.bind_some]
    by_cases h2 : befP b c
    · rw [if_pos (decide_eq_true h2), bv (by omega) a c true (decide_eq_true (by unfold befP at *; omega)), Option.bind_some]
      exact hj1 (by omega) a b c
    · rw [if_neg (by simpa using h2)]
      exact hj1 (by omega) a b c
  · rw [if_neg (by simpa using h1)]
    exact hj1 (by omega) a b c
theorem NodeHolds_f (a b c : Nd) : redpencillaw09_NodeHolds.f 100 a.r a.c a.p a.q a.t a.u b.r b.c b.p b.q b.t b.u c.r c.c c.p c.q c.t c.u = some true := by
  have F := hj0 (k := 100) (by decide) a b c
  unfold redpencillaw09_NodeHolds.f
  rw [bv (by decide) a b _ rfl, Option.bind_some, bv (by decide) b a _ rfl, Option.bind_some]
  have D : (!(a.r == b.r) || !(a.c == b.c)) = decide (a.r ≠ b.r ∨ a.c ≠ b.c) := by
    by_cases h1 : a.r = b.r <;> by_cases h2 : a.c = b.c <;> simp [h1, h2]
  by_cases h1 : befP a b
  · rw [if_pos (decide_eq_true h1), if_neg (by rw [decide_eq_true_iff]; unfold befP at *; omega)]
    by_cases ht : a.t = b.t
    · rw [if_pos ht, D, decide_eq_true (by unfold befP at *; omega)]
      exact F
    · rw [if_neg ht]
      exact F
  · rw [if_neg (by simpa using h1)]
    by_cases ht : a.t = b.t
    · rw [if_pos ht, D]
      by_cases hd : a.r ≠ b.r ∨ a.c ≠ b.c
      · rw [decide_eq_true hd, decide_eq_true (by unfold befP at *; omega)]
        exact F
      · rw [decide_eq_false hd, decide_eq_false (by unfold befP at *; omega)]
        exact F
    · rw [if_neg ht, decide_eq_true (by unfold befP at *; omega)]
      exact F
end Go.Proofs.YtamggklblaigpaaGreatDoor.Nx

namespace Go.Proofs.YtamggklblaigpaaGreatDoor.Nx
open Go Go.RowKit Go.Proofs Go.Proofs.YtamggklblaigpaaGreatDoor.Kit Go.Proofs.YtamggklblaigpaaGreatDoor.PAll Go.Proofs.YtamggklblaigpaaGreatDoorW.PrintWords Go.Proofs.YtamggklblaigpaaGreatDoor.Lw
set_option linter.unusedSimpArgs false
set_option linter.unusedVariables false

theorem holds_walk (v0 v1 v2 : Value) (x0 x1 x2 : (Int × Int) × (Int × Int) × Int × Int) (W : World) (hG : GOK W) (h0 : kN.K W x0 v0.cells.toList) (u0 : (Lit.int .i32 x0.2.2.2).wf = true) (h1 : kN.K W x1 v1.cells.toList) (u1 : (Lit.int .i32 x1.2.2.2).wf = true) (h2 : kN.K W x2 v2.cells.toList) (u2 : (Lit.int .i32 x2.2.2.2).wf = true) : Calls Tryz.prog 4 #[v0, v1, v2] W (YesP W) := by
  rw [node_cells h0, node_cells h1, node_cells h2]
  exact redpencillaw09_NodeHolds.calls 100 _ _ _ _ _ _ _ _ _ _ _ _ _ _ _ _ _ _ W hG (NodeHolds_f (ndOf x0) (ndOf x1) (ndOf x2))
end Go.Proofs.YtamggklblaigpaaGreatDoor.Nx
