/- Layer 9, plain law: the reference's Parse; NodeTexts answers true. -/
/- Layer 9: nodes as arguments of rows. -/
import Derived.Test.YtamggklblaigpaaGreatDoorNmd
import Derived.Test.YtamggklblaigpaaGreatDoorNq
import Derived.Test.YtamggklblaigpaaGreatDoorPAllx10
import Derived.Test.YtamggklblaigpaaGreatDoorPAllx11
import Derived.Test.YtamggklblaigpaaGreatDoorOp
import Derived.Test.YtamggklblaigpaaGreatDoorNw
namespace Go.Proofs.YtamggklblaigpaaGreatDoor.Nx
open Go Go.RowKit Go.Proofs Go.Proofs.YtamggklblaigpaaGreatDoorW.PrintWords Go.Proofs.YtamggklblaigpaaGreatDoor.PAll Go.Proofs.YtamggklblaigpaaGreatDoor.Dx Go.Proofs.YtamggklblaigpaaGreatDoor.Hx Go.Proofs.YtamggklblaigpaaGreatDoor.Rn
set_option linter.unusedSimpArgs false
set_option linter.unusedVariables false

theorem texts_f (n : Nd) (s : ByteArray) (e : Int) : redpencillaw09_texts.f n.r n.c n.p n.q n.t n.u s e = some (decide (nodT n = (s, e))) := by
  unfold redpencillaw09_texts.f node_Text.f
  rw [Option.bind_some]
  show (if (nodT n).1.toList = s.toList then some ((nodT n).2 == e) else some false) = _
  generalize nodT n = p
  obtain ⟨p1, p2⟩ := p
  by_cases h : p1 = s
  · subst h
    rw [if_pos rfl]
    by_cases k : p2 = e <;> simp [k]
  · rw [if_neg (fun q => h ((toL_eq _ _).1 q)), decide_eq_false (fun q => h (by injection q))]
theorem rparse_f (s : ByteArray) (hl : s.size ≤ 100000) (k : Nat) (hk : s.size + 100 ≤ k) : redpencilref09_Parse.f k s = some (flatB (nodP s)) := if_pos hl
theorem texts_j0 (s : ByteArray) (hs : s.size ≤ 100) (k : Nat) (hk : 250 ≤ k) : redpencillaw09_NodeTexts.j0 k s = some true := by
  obtain ⟨k, rfl⟩ : ∃ j, k = j + 1 := ⟨k - 1, by omega⟩
  rw [redpencillaw09_NodeTexts.j0, rparse_f s (by omega) k (by omega), Option.bind_some]
  obtain ⟨⟨n, e⟩, h⟩ : ∃ x, nodP s = x := ⟨_, rfl⟩
  rw [h]
  show (if decide (e = 0) = true then _ else _) = _
  have key : e = 0 ∨ (n = zN ∧ e = 6) := by
    unfold nodP at h
    split at h
    · split at h
      · exact .inl (by injection h with _ h; exact h.symm)
      · exact .inr (by injection h with h1 h2; exact ⟨h1.symm, h2.symm⟩)
    · exact .inr (by injection h with h1 h2; exact ⟨h1.symm, h2.symm⟩)
  rcases key with rfl | ⟨rfl, rfl⟩
  · rw [if_pos (by decide)]
    show (redpencillaw09_parses.f s n.r n.c n.p n.q n.t n.u 0).bind _ = _
    rw [pv s n.r n.c n.p n.q n.t n.u 0 (by omega) h, Option.bind_some, if_pos rfl]
    exact then_known (by omega)
  · rw [if_neg (by decide), pv s 0 0 0 0 0 0 6 (by omega) h, Option.bind_some, if_pos rfl]
    exact then_known (by omega)
theorem NodeTexts_f (n : Nd) (hu : -2147483648 ≤ n.u ∧ n.u ≤ 2147483647) (s : ByteArray) : redpencillaw09_NodeTexts.f 300 n.r n.c n.p n.q n.t n.u s = some true := by
  unfold redpencillaw09_NodeTexts.f
  by_cases h : (s.size : Int) > 100
  · rw [if_pos h]; exact then_known (by decide)
  · rw [if_neg h, rnvalid_f n hu.1 hu.2, Option.bind_some]
    by_cases hv : okN n
    · rw [if_pos (decide_eq_true hv), ntext_f n hv _ (by decide), Option.bind_some, texts_f, decide_eq_true (show nodT n = (ntP n, 0) from if_pos hv), Option.bind_some, if_pos rfl]
      exact texts_j0 s (by omega) _ (by decide)
    · rw [if_neg (by simpa using hv), texts_f, decide_eq_true (show nodT n = (⟨#[]⟩, 2) from if_neg hv), Option.bind_some, if_pos rfl]
      exact texts_j0 s (by omega) _ (by decide)
end Go.Proofs.YtamggklblaigpaaGreatDoor.Nx

namespace Go.Proofs.YtamggklblaigpaaGreatDoor.Nx
open Go Go.RowKit Go.Proofs Go.Proofs.YtamggklblaigpaaGreatDoor.Kit Go.Proofs.YtamggklblaigpaaGreatDoor.PAll Go.Proofs.YtamggklblaigpaaGreatDoorW.PrintWords Go.Proofs.YtamggklblaigpaaGreatDoor.Lw
set_option linter.unusedSimpArgs false
set_option linter.unusedVariables false

theorem agg_of {v : Value} {l : List Value} (h : v.cells.toList = l) (h1 : l.length ≠ 1) : v = .agg l.toArray := by
  subst h
  cases v <;> simp_all [Value.cells]
abbrev kD : Kd (Int × Int) := Kd.pair (Kd.int .i64) (Kd.int .i64)
abbrev kN : Kd ((Int × Int) × (Int × Int) × Int × Int) := Kd.pair kD (Kd.pair kD (Kd.pair (Kd.int .i64) (Kd.int .i32)))
theorem opens_dot : Opens Tryz.prog 23 kD (fun _ => True) :=
  opens_mono (opens_struct (d := kD) Tryz.underlying23 (by kernel_rfl) (opens_cons rfl (by kernel_rfl) (opens_int Tryz.underlying3) (opens_last rfl (by kernel_rfl) (opens_int Tryz.underlying3)))) (fun _ _ => trivial)
theorem opens_node : Opens Tryz.prog 25 kN (fun x => (Lit.int .i32 x.2.2.2).wf = true) :=
  opens_mono (opens_struct (d := kN) Tryz.underlying25 (by kernel_rfl)
    (opens_cons rfl (by kernel_rfl) opens_dot (opens_cons rfl (by kernel_rfl) opens_dot (opens_cons rfl (by kernel_rfl) (opens_int Tryz.underlying3) (opens_last rfl (by kernel_rfl) (opens_int Tryz.underlying21)))))) (fun _ h => h.2.2.2)
def ndOf (x : (Int × Int) × (Int × Int) × Int × Int) : Nd := ⟨x.1.1, x.1.2, x.2.1.1, x.2.1.2, x.2.2.1, x.2.2.2⟩
theorem node_cells {v : Value} {x : (Int × Int) × (Int × Int) × Int × Int} {W : World} (h : kN.K W x v.cells.toList) : v = .agg #[.int .i64 (ndOf x).r, .int .i64 (ndOf x).c, .int .i64 (ndOf x).p, .int .i64 (ndOf x).q, .int .i64 (ndOf x).t, .int .i32 (ndOf x).u] := by
  obtain ⟨r0, r1, hc, ⟨a0, a1, e0, b0, b1⟩, ⟨r2, r3, e1, ⟨a2, a3, e2, b2, b3⟩, ⟨a4, a5, e3, b4, b5⟩⟩⟩ := h
  have b0 : a0 = [.int .i64 x.1.1] := b0
  have b1 : a1 = [.int .i64 x.1.2] := b1
  have b2 : a2 = [.int .i64 x.2.1.1] := b2
  have b3 : a3 = [.int .i64 x.2.1.2] := b3
  have b4 : a4 = [.int .i64 x.2.2.1] := b4
  have b5 : a5 = [.int .i32 x.2.2.2] := b5
  subst b0 b1 b2 b3 b4 b5 e0 e2 e3 e1
  exact agg_of hc (by simp)
abbrev YesP (w : World) (e : Ending) (w' : World) : Prop := e = .returned (.bool true) ∧ Below w.heap.size w w'
end Go.Proofs.YtamggklblaigpaaGreatDoor.Nx

/- Layer 9: the call of NodeTexts at read arguments. -/
namespace Go.Proofs.YtamggklblaigpaaGreatDoor.Nx
open Go Go.RowKit Go.Proofs Go.Proofs.YtamggklblaigpaaGreatDoor.Kit Go.Proofs.YtamggklblaigpaaGreatDoor.PAll Go.Proofs.YtamggklblaigpaaGreatDoorW.PrintWords Go.Proofs.YtamggklblaigpaaGreatDoor.Lw
set_option linter.unusedSimpArgs false
set_option linter.unusedVariables false

theorem texts_walk (v0 : Value) (x0 : (Int × Int) × (Int × Int) × Int × Int) (s : ByteArray) (W : World) (hG : GOK W) (h0 : kN.K W x0 v0.cells.toList) (u0 : (Lit.int .i32 x0.2.2.2).wf = true) : Calls Tryz.prog 3 #[v0, .string s] W (YesP W) := by
  rw [node_cells h0]
  exact redpencillaw09_NodeTexts.calls 300 _ _ _ _ _ _ s W hG (NodeTexts_f (ndOf x0) (wf_i32 u0) s)
end Go.Proofs.YtamggklblaigpaaGreatDoor.Nx
