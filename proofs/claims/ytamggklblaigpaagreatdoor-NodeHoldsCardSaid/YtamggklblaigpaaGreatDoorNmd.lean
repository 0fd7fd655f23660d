/- Layer 9, plain law: what the printed functions of two nodes and of texts compute. -/
/- Layer 9, plain law: each statement of this layer answers true. -/
import Derived.Test.YtamggklblaigpaaGreatDoorNmc
import Derived.Test.YtamggklblaigpaaGreatDoorPAllx4
import Derived.Test.YtamggklblaigpaaGreatDoorPAllx3
import Derived.Test.YtamggklblaigpaaGreatDoorPAllx5
import Derived.Test.YtamggklblaigpaaGreatDoorPAllx7
import Derived.Test.YtamggklblaigpaaGreatDoorPAllx6
import Derived.Test.YtamggklblaigpaaGreatDoorPAllx8
import Derived.Test.YtamggklblaigpaaGreatDoorPAllx13
import Derived.Test.YtamggklblaigpaaGreatDoorPAllx14
import Derived.Test.YtamggklblaigpaaGreatDoorPAllx15
import Derived.Test.YtamggklblaigpaaGreatDoorPAllx9
namespace Go.Proofs.YtamggklblaigpaaGreatDoor.Nx
open Go Go.RowKit Go.Proofs Go.Proofs.YtamggklblaigpaaGreatDoorW.PrintWords Go.Proofs.YtamggklblaigpaaGreatDoor.PAll Go.Proofs.YtamggklblaigpaaGreatDoor.Dx Go.Proofs.YtamggklblaigpaaGreatDoor.Hx Go.Proofs.YtamggklblaigpaaGreatDoor.Rn
set_option linter.unusedSimpArgs false
set_option linter.unusedVariables false

theorem cmp_int (a b : Int) : cmp_Compare_int.f a b = some (if a < b then -1 else if a > b then 1 else 0) := by
  have e : ∀ x : Int, cmp_isNaN_int.f x = some false := fun x => by unfold cmp_isNaN_int.f; simp
  unfold cmp_Compare_int.f
  rw [e, e, Option.bind_some, Option.bind_some, if_neg (by decide), if_neg (by decide)]
  split
  · rfl
  · split <;> rfl
theorem or_two (k : Nat) (a b : Int) : cmp_Or_int.f (k + 3) [a, b] = some (if a = 0 then b else a) := by
  unfold cmp_Or_int.f
  have e0 : wrap64 (0 + 1) = 1 := by decide +kernel
  have e1 : wrap64 (1 + 1) = 2 := by decide +kernel
  have l2 : (([a, b] : List Int).length : Int) = 2 := rfl
  rw [l2, cmp_Or_int.l0, if_pos (by decide), if_pos (by decide), if_pos (by simp), e0]
  have r0 : rd [a, b] 0 = a := rfl
  have r1 : rd [a, b] 1 = b := rfl
  rw [r0]
  by_cases h : a = 0
  · rw [if_pos h, if_pos h, cmp_Or_int.l0, if_pos (by decide), if_pos (by decide), if_pos (by simp), r1, e1]
    by_cases k0 : b = 0
    · rw [if_pos k0, cmp_Or_int.l0, if_neg (by decide), k0]
    · rw [if_neg k0]
  · rw [if_neg h, if_neg h]
/-- A stands before b, as siblings. -/
def befP (a b : Nd) : Prop := b.t < a.t ∨ (b.t = a.t ∧ (b.c < a.c ∨ (b.c = a.c ∧ b.r < a.r)))
instance (a b : Nd) : Decidable (befP a b) := inferInstanceAs (Decidable (_ ∨ _))
theorem before_f (k : Nat) (a b : Nd) : node_Before.f (k + 3) a.r a.c a.p a.q a.t a.u b.r b.c b.p b.q b.t b.u = some (decide (befP a b)) := by
  unfold node_Before.f dot_Compare.f
  rw [cmp_int, cmp_int, cmp_int, Option.bind_some, Option.bind_some, Option.bind_some, or_two, Option.bind_some, Option.bind_some, or_two, Option.bind_some]
  congr 1
  refine decide_eq_decide.2 ?_
  unfold befP
  repeat' split
  all_goals omega
/-- Two nodes agree. -/
def agr (a b : Nd) : Prop := a.r = b.r ∧ a.c = b.c ∧ a.p = b.p ∧ a.q = b.q ∧ a.t = b.t ∧ (a.u = b.u ∨ a.u = 0 ∨ b.u = 0)
instance (a b : Nd) : Decidable (agr a b) := inferInstanceAs (Decidable (_ ∧ _))
def mrg (a b : Nd) : Nd × Int := if okN a ∧ okN b then (if agr a b then (if b.u = 0 then (b, 0) else (a, 0)) else (zN, 15)) else (zN, 2)
def flat (x : Nd × Int) : Int × Int × Int × Int × Int × Int × Int := (x.1.r, x.1.c, x.1.p, x.1.q, x.1.t, x.1.u, x.2)
theorem nd_ext {a b : Nd} (h1 : a.r = b.r) (h2 : a.c = b.c) (h3 : a.p = b.p) (h4 : a.q = b.q) (h5 : a.t = b.t) (h6 : a.u = b.u) : a = b := by cases a; cases b; simp_all
theorem merge_j1 (k : Nat) (a b : Nd) (x : Bool) : node_Merge.j1 (k + 1) x a.r a.c a.p a.q a.t a.u b.r b.c b.p b.q b.t b.u = some (flat (if x = true then (zN, 15) else if b.u = 0 then (b, 0) else (a, 0))) := by
  rw [node_Merge.j1]
  cases x with
  | true => rw [if_pos rfl, if_pos rfl]; rfl
  | false =>
    rw [if_neg (by decide), if_neg (by decide)]
    unfold node_Dead.f
    rw [Option.bind_some]
    by_cases h : b.u = 0
    · rw [if_pos (by simp [h]), if_pos h]; rfl
    · rw [if_neg (by simp [h]), if_neg h]; rfl
theorem merge_f (k : Nat) (a b : Nd) : node_Merge.f (k + 2) a.r a.c a.p a.q a.t a.u b.r b.c b.p b.q b.t b.u = some (flat (mrg a b)) := by
  have j2 : ∀ x, x = true → node_Merge.j0 (k + 2) x a.r a.c a.p a.q a.t a.u b.r b.c b.p b.q b.t b.u = some (flat (zN, 2)) := fun x hx => by rw [node_Merge.j0, if_pos hx]; rfl
  unfold node_Merge.f
  rw [nvalid_f a (k + 1), Option.bind_some]
  by_cases ha : okN a
  · rw [if_pos (decide_eq_true ha), nvalid_f b (k + 1), Option.bind_some]
    by_cases hb : okN b
    · rw [decide_eq_true hb, node_Merge.j0, if_neg (by decide)]
      unfold node_Kill.f
      rw [Option.bind_some, Option.bind_some]
      have hm : mrg a b = if agr a b then (if b.u = 0 then (b, 0) else (a, 0)) else (zN, 15) := if_pos ⟨ha, hb⟩
      by_cases h5 : a.r = b.r ∧ a.c = b.c ∧ a.p = b.p ∧ a.q = b.q ∧ a.t = b.t
      · obtain ⟨e1, e2, e3, e4, e5⟩ := h5
        rw [if_neg (by simp [e1, e2, e3, e4, e5])]
        by_cases h6 : a.u = b.u
        · rw [if_neg (by simp [e1, e2, e3, e4, e5, h6]), merge_j1, if_neg (by decide), hm, if_pos (show agr a b from ⟨e1, e2, e3, e4, e5, .inl h6⟩)]
        · rw [if_pos (by simp [h6])]
          unfold node_Dead.f
          rw [Option.bind_some]
          by_cases h7 : a.u = 0
          · rw [if_pos (by simp [h7]), merge_j1, if_neg (by decide), hm, if_pos (show agr a b from ⟨e1, e2, e3, e4, e5, .inr (.inl h7)⟩)]
          · rw [if_neg (by simp [h7]), Option.bind_some, merge_j1]
            by_cases h8 : b.u = 0
            · rw [if_neg (by simp [h8]), hm, if_pos (show agr a b from ⟨e1, e2, e3, e4, e5, .inr (.inr h8)⟩)]
            · rw [if_pos (by simp [h8]), hm, if_neg (fun q => q.2.2.2.2.2.elim h6 (fun r => r.elim h7 h8))]
      · rw [if_pos (by
          by_cases q1 : a.r = b.r <;> by_cases q2 : a.c = b.c <;> by_cases q3 : a.p = b.p <;> by_cases q4 : a.q = b.q <;> by_cases q5 : a.t = b.t <;> simp_all), merge_j1, if_pos rfl, hm, if_neg (fun q => h5 ⟨q.1, q.2.1, q.2.2.1, q.2.2.2.1, q.2.2.2.2.1⟩)]
    · rw [decide_eq_false hb, j2 (!false) rfl, show mrg a b = (zN, 2) from if_neg (fun q => hb q.2)]
  · rw [if_neg (by simpa using ha), j2 _ rfl, show mrg a b = (zN, 2) from if_neg (fun q => ha q.1)]
theorem six_eq (a b : Nd) : ((a.r == b.r && (a.c == b.c)) && ((a.p == b.p && (a.q == b.q)) && (a.t == b.t && (a.u == b.u)))) = decide (a = b) := by
  rw [Bool.eq_iff_iff]
  simp only [Bool.and_eq_true, beq_iff_eq, decide_eq_true_eq]
  constructor
  · rintro ⟨⟨h1, h2⟩, ⟨h3, h4⟩, h5, h6⟩
    exact nd_ext h1 h2 h3 h4 h5 h6
  · rintro rfl
    exact ⟨⟨rfl, rfl⟩, ⟨rfl, rfl⟩, rfl, rfl⟩
theorem seven (x : Nd × Int) (n : Nd) (e : Int) : (if ((x.1.r == n.r && (x.1.c == n.c)) && ((x.1.p == n.p && (x.1.q == n.q)) && (x.1.t == n.t && (x.1.u == n.u)))) = true then (some (x.2 == e)) else (some false)) = some (decide (x = (n, e))) := by
  rw [six_eq]
  obtain ⟨m, f⟩ := x
  by_cases h : m = n
  · rw [if_pos (decide_eq_true h)]
    congr 1
    by_cases q : f = e <;> simp [h, q]
  · rw [if_neg (by simpa using h), decide_eq_false (fun q => h (by injection q))]
theorem merges_f (k : Nat) (a b n : Nd) (e : Int) : redpencillaw09_merges.f (k + 2) a.r a.c a.p a.q a.t a.u b.r b.c b.p b.q b.t b.u n.r n.c n.p n.q n.t n.u e = some (decide (mrg a b = (n, e))) := by
  unfold redpencillaw09_merges.f
  rw [merge_f, Option.bind_some]
  exact seven (mrg a b) n e
theorem parses_f (s : ByteArray) (hs : s.size ≤ 1000000) (n : Nd) (e : Int) : redpencillaw09_parses.f s n.r n.c n.p n.q n.t n.u e = some (decide (nodP s = (n, e))) := by
  unfold redpencillaw09_parses.f node_Parse.f
  rw [if_pos hs, Option.bind_some]
  exact seven (nodP s) n e
end Go.Proofs.YtamggklblaigpaaGreatDoor.Nx

/- Layer 9, plain law: the reference's texts of nodes. -/
namespace Go.Proofs.YtamggklblaigpaaGreatDoor.Nx
open Go Go.RowKit Go.Proofs Go.Proofs.YtamggklblaigpaaGreatDoorW.PrintWords Go.Proofs.YtamggklblaigpaaGreatDoor.PAll Go.Proofs.YtamggklblaigpaaGreatDoor.Dx Go.Proofs.YtamggklblaigpaaGreatDoor.Hx Go.Proofs.YtamggklblaigpaaGreatDoor.Rn
set_option linter.unusedSimpArgs false
set_option linter.unusedVariables false

theorem sz (l : List UInt8) : (⟨l.toArray⟩ : ByteArray).size = l.length := List.size_toArray ..
/-! The words. -/
/-! The time. -/
end Go.Proofs.YtamggklblaigpaaGreatDoor.Nx

namespace Go.Proofs.YtamggklblaigpaaGreatDoor.Nx
open Go Go.RowKit Go.Proofs Go.Proofs.YtamggklblaigpaaGreatDoorW.PrintWords Go.Proofs.YtamggklblaigpaaGreatDoor.PAll Go.Proofs.YtamggklblaigpaaGreatDoor.Dx Go.Proofs.YtamggklblaigpaaGreatDoor.Hx Go.Proofs.YtamggklblaigpaaGreatDoor.Rn
set_option linter.unusedSimpArgs false
set_option linter.unusedVariables false

/-! The examples of the chapter. -/
theorem pv (s : ByteArray) (r c p q t u e : Int) (hs : s.size ≤ 1000000) (h : nodP s = (⟨r, c, p, q, t, u⟩, e)) : redpencillaw09_parses.f s r c p q t u e = some true := by
  have := parses_f s hs ⟨r, c, p, q, t, u⟩ e
  rw [decide_eq_true h] at this
  exact this
theorem mv {k : Nat} (hk : 2 ≤ k) (a b n : Nd) (e : Int) (h : mrg a b = (n, e)) : redpencillaw09_merges.f k a.r a.c a.p a.q a.t a.u b.r b.c b.p b.q b.t b.u n.r n.c n.p n.q n.t n.u e = some true := by
  obtain ⟨j, rfl⟩ : ∃ j, k = j + 2 := ⟨k - 2, by omega⟩
  rw [merges_f, decide_eq_true h]
theorem bv {k : Nat} (hk : 3 ≤ k) (a b : Nd) (x : Bool) (h : decide (befP a b) = x) : node_Before.f k a.r a.c a.p a.q a.t a.u b.r b.c b.p b.q b.t b.u = some x := by
  obtain ⟨j, rfl⟩ : ∃ j, k = j + 3 := ⟨k - 3, by omega⟩
  rw [before_f, h]
theorem vv {k : Nat} (hk : 1 ≤ k) (a : Nd) (x : Bool) (h : decide (okN a) = x) : node_Valid.f k a.r a.c a.p a.q a.t a.u = some x := by
  obtain ⟨j, rfl⟩ : ∃ j, k = j + 1 := ⟨k - 1, by omega⟩
  rw [nvalid_f, h]
theorem nt_a : ntP ⟨3, 7, 1, 2, 5, 65⟩ = ⟨#[51, 46, 55, 32, 49, 46, 50, 32, 53, 32, 85, 43, 48, 48, 52, 49]⟩ := by
  unfold ntP ntL dtL
  rw [if_neg (by decide), if_neg (by decide)]
  show (⟨((Lib.decDigits 3 ++ 46 :: Lib.decDigits 7) ++ 32 :: ((Lib.decDigits 1 ++ 46 :: Lib.decDigits 2) ++ 32 :: (Lib.decDigits 5 ++ 32 :: nmL 65))).toArray⟩ : ByteArray) = _
  rw [dec_one (u := 3) (by decide), dec_one (u := 7) (by decide), dec_one (u := 1) (by decide), dec_one (u := 2) (by decide), dec_one (u := 5) (by decide)]
  decide
theorem nt_b : ntP ⟨3, 7, 0, 0, 5, 0⟩ = ⟨#[51, 46, 55, 32, 114, 111, 111, 116, 32, 53, 32, 45]⟩ := by
  unfold ntP ntL
  rw [show dtL (0 : Int) 0 = rootL from if_pos ⟨rfl, rfl⟩]
  unfold dtL
  rw [if_neg (by decide)]
  show (⟨((Lib.decDigits 3 ++ 46 :: Lib.decDigits 7) ++ 32 :: (rootL ++ 32 :: (Lib.decDigits 5 ++ 32 :: nmL 0))).toArray⟩ : ByteArray) = _
  rw [dec_one (u := 3) (by decide), dec_one (u := 7) (by decide), dec_one (u := 5) (by decide)]
  decide
theorem no_of (s : ByteArray) (a b c d : List UInt8) (hs : spl s.data.toList = [a, b, c, d]) (h : ∀ m, okN m → dtL m.r m.c = a → dtL m.p m.q = b → Lib.decDigits m.t.toNat = c → nmL m.u = d → False) : nodP s = (zN, 6) :=
  nodP_no fun m hm he => by
    rw [← he, spl_nt hm] at hs
    injection hs with ha hs
    injection hs with hb hs
    injection hs with hc' hs
    injection hs with hd' _
    exact h m hm ha hb hc' hd'
theorem ofv_no (a0 a1 a3 a4 : Int) : ofV a0 a1 0 a3 a4 = (a0, a1, 0, 0, a3, a4) := if_neg (by decide)
theorem known_true (m : Nat) : redpencillaw09_known.f (m + 20) = some true := by
  have k2 : redpencillaw09_known.j2 (m + 18) false 0 0 0 0 0 0 = some true := by
    rw [redpencillaw09_known.j2, if_neg (by decide)]
    unfold redpencillaw09_of.f
    rw [show ofV 3 7 2 5 65 = (3, 7, 1, 2, 5, 65) from if_pos (by decide), ofv_no, Option.bind_some]
    rw [pv _ 3 7 1 2 5 65 0 (by decide) (by rw [← nt_a]; exact nodP_yes (by decide)), Option.bind_some, if_pos rfl, Option.bind_some]
    rw [pv _ 3 7 0 0 5 0 0 (by decide) (by rw [← nt_b]; exact nodP_yes (by decide)), Option.bind_some, if_pos rfl]
    rw [pv _ 0 0 0 0 0 0 6 (by decide) (no_of _ rootL rootL [53] [45] (by decide) (fun m hm ha _ _ _ => dot_not_root hm.1 ha)), Option.bind_some, if_pos rfl]
    rw [pv _ 0 0 0 0 0 0 6 (by decide) (no_of _ [51, 46, 55] rootL [48, 53] [45] (by decide) (fun m hm _ _ hc _ => by
      have h1 := congrArg decV hc
      rw [decV_dec] at h1
      have h1 : m.t.toNat = 5 := h1
      rw [h1, dec_one (by decide)] at hc
      exact absurd hc (by decide))), Option.bind_some, if_pos rfl]
    rw [pv _ 0 0 0 0 0 0 6 (by decide) (nodP_len (by decide)), Option.bind_some]
  have k1 : redpencillaw09_known.j1 (m + 19) false 1 1 0 0 1 97 1 1 0 0 1 0 0 0 0 0 0 0 = some true := by
    rw [redpencillaw09_known.j1, if_neg (by decide), mv (by omega) ⟨1, 1, 0, 0, 1, 97⟩ ⟨1, 1, 0, 0, 1, 0⟩ ⟨1, 1, 0, 0, 1, 0⟩ 0 (by decide), Option.bind_some, if_pos rfl]
    unfold redpencillaw09_of.f
    simp only [ofv_no]
    rw [Option.bind_some, mv (by omega) ⟨1, 1, 0, 0, 1, 97⟩ ⟨1, 1, 0, 0, 1, 98⟩ ⟨0, 0, 0, 0, 0, 0⟩ 15 (by decide), Option.bind_some, if_pos rfl]
    rw [Option.bind_some, mv (by omega) ⟨1, 1, 0, 0, 1, 0⟩ ⟨1, 1, 0, 0, 2, 0⟩ ⟨0, 0, 0, 0, 0, 0⟩ 15 (by decide), Option.bind_some, if_pos rfl]
    rw [Option.bind_some, mv (by omega) ⟨1, 1, 0, 0, 1, 0⟩ ⟨1, 1, 0, 0, 0, 0⟩ ⟨0, 0, 0, 0, 0, 0⟩ 2 (by decide), Option.bind_some]
    exact k2
  have k0 : redpencillaw09_known.j0 (m + 20) false 1 1 0 0 1 97 1 1 0 0 1 0 0 0 0 0 0 0 = some true := by
    rw [redpencillaw09_known.j0, if_neg (by decide)]
    unfold redpencillaw09_of.f
    simp only [ofv_no]
    rw [Option.bind_some, Option.bind_some, bv (by omega) ⟨1, 2, 0, 0, 5, 0⟩ ⟨9, 1, 0, 0, 4, 0⟩ true (by decide), Option.bind_some, if_pos rfl]
    rw [Option.bind_some, Option.bind_some, bv (by omega) ⟨1, 2, 0, 0, 5, 0⟩ ⟨2, 2, 0, 0, 5, 0⟩ false (by decide), Option.bind_some, if_neg (by decide)]
    rw [Option.bind_some, Option.bind_some, bv (by omega) ⟨1, 1, 0, 0, 5, 0⟩ ⟨1, 1, 0, 0, 5, 0⟩ false (by decide), Option.bind_some]
    exact k1
  unfold redpencillaw09_known.f redpencillaw09_of.f
  simp only [ofv_no, show ofV 1 2 1 2 0 = (1, 2, 1, 1, 2, 0) from if_pos (by decide), show ofV 1 1 1 2 0 = (1, 1, 1, 1, 2, 0) from if_pos (by decide)]
  rw [Option.bind_some, Option.bind_some, vv (by omega) ⟨1, 1, 0, 0, 1, 97⟩ true (by decide), Option.bind_some, if_pos rfl]
  rw [Option.bind_some, vv (by omega) ⟨1, 2, 1, 1, 2, 0⟩ true (by decide), Option.bind_some, if_pos rfl]
  rw [Option.bind_some, vv (by omega) ⟨1, 1, 1, 1, 2, 0⟩ false (by decide), Option.bind_some, if_neg (by decide)]
  rw [Option.bind_some, vv (by omega) ⟨1, 1, 0, 0, 0, 0⟩ false (by decide), Option.bind_some, if_neg (by decide), Option.bind_some]
  unfold node_Dead.f node_Kill.f
  rw [Option.bind_some, if_pos (by decide), Option.bind_some]
  exact k0
theorem known_f {k : Nat} (h : 20 ≤ k) : redpencillaw09_known.f k = some true := by
  obtain ⟨m, rfl⟩ : ∃ m, k = m + 20 := ⟨k - 20, by omega⟩
  exact known_true m
theorem then_known {k : Nat} (h : 20 ≤ k) : ((redpencillaw09_known.f k).bind fun t => some t) = some true := by rw [known_f h]; rfl
theorem agr_symm {a b : Nd} (h : agr a b) : agr b a := by unfold agr at *; omega
theorem mrg_of {a b : Nd} (ha : okN a) (hb : okN b) : mrg a b = if agr a b then (if b.u = 0 then (b, 0) else (a, 0)) else (zN, 15) := if_pos ⟨ha, hb⟩
theorem mrg_symm (a b : Nd) : mrg a b = mrg b a := by
  by_cases h : okN a ∧ okN b
  · rw [mrg_of h.1 h.2, mrg_of h.2 h.1]
    by_cases g : agr a b
    · rw [if_pos g, if_pos (agr_symm g)]
      obtain ⟨e1, e2, e3, e4, e5, e6⟩ := g
      by_cases ha : a.u = 0 <;> by_cases hb : b.u = 0
      · rw [if_pos hb, if_pos ha, nd_ext e1 e2 e3 e4 e5 (ha.trans hb.symm)]
      · rw [if_neg hb, if_pos ha]
      · rw [if_pos hb, if_neg ha]
      · rw [if_neg hb, if_neg ha, nd_ext e1 e2 e3 e4 e5 (e6.resolve_right (fun r => r.elim ha hb))]
    · rw [if_neg g, if_neg (fun q => g (agr_symm q))]
  · rw [show mrg a b = (zN, 2) from if_neg h, show mrg b a = (zN, 2) from if_neg (fun q => h ⟨q.2, q.1⟩)]
end Go.Proofs.YtamggklblaigpaaGreatDoor.Nx
