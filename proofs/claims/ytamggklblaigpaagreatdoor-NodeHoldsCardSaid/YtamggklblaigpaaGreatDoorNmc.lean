/- Texts of nodes, plain law; no program is named here. -/
/- Layer 2's names by the reference, for seats without its Decode (out of XUp, XRu, XUn). -/
/- What the printed functions of node and dot compute of one node (layer 9). -/
/- Texts of nodes: the walk of node.Text. -/
/- The walk of the statements' own function of (a node out of numbers). -/
import Derived.Test.YtamggklblaigpaaGreatDoorNmb
import Derived.Test.YtamggklblaigpaaGreatDoorNma
import Derived.Lib.Split
import Derived.Lib.SplitLaws
import Derived.Lib.CountLaws
import Derived.Lib.JoinLaws
import Derived.Test.YtamggklblaigpaaGreatDoorPAllx5
import Derived.Test.YtamggklblaigpaaGreatDoorPAllx6
import Derived.Test.YtamggklblaigpaaGreatDoorPAllx3
import Derived.Test.YtamggklblaigpaaGreatDoorPAllx0
import Derived.Laws.ResultCell
import Derived.Laws.Rows
namespace Go.Proofs.YtamggklblaigpaaGreatDoor.Nx
open Go Go.Proofs.YtamggklblaigpaaGreatDoor.Dx Go.Proofs.YtamggklblaigpaaGreatDoor.Hx Go.Proofs.YtamggklblaigpaaGreatDoor.Rn

def maxT : Int := 4611686018427387904
/-- A node that is allowed: dot, parent, time, rune. -/
structure Nd where
  r : Int
  c : Int
  p : Int
  q : Int
  t : Int
  u : Int
deriving DecidableEq
def okU (u : Int) : Prop := u = 0 ∨ okRune u
def okN (n : Nd) : Prop := okDot n.r n.c ∧ (okDot n.p n.q ∨ (n.p = 0 ∧ n.q = 0)) ∧ ¬ (n.p = n.r ∧ n.q = n.c) ∧ (1 ≤ n.t ∧ n.t ≤ maxT) ∧ okU n.u
instance (u : Int) : Decidable (okU u) := inferInstanceAs (Decidable (_ ∨ _))
instance (n : Nd) : Decidable (okN n) := inferInstanceAs (Decidable (_ ∧ _ ∧ _ ∧ _ ∧ _))
/-- The name of a node's rune. -/
def nmL (u : Int) : List UInt8 := if u = 0 then [45] else nameL u.toNat
def ntL (n : Nd) : List UInt8 := dtL n.r n.c ++ 32 :: (dtL n.p n.q ++ 32 :: (Lib.decDigits n.t.toNat ++ 32 :: nmL n.u))
def ntP (n : Nd) : ByteArray := ⟨(ntL n).toArray⟩
def zN : Nd := ⟨0, 0, 0, 0, 0, 0⟩
/-- What Text returns. -/
def nodT (n : Nd) : ByteArray × Int := if okN n then (ntP n, 0) else (⟨#[]⟩, 2)
/-- The pieces between spaces. -/
def spl : List UInt8 → List (List UInt8)
  | [] => [[]]
  | c :: l => if c = 32 then [] :: spl l else match spl l with
    | [] => [[c]]
    | a :: r => (c :: a) :: r
def nmV (l : List UInt8) : Int := if l = [45] then 0 else (bynP ⟨l.toArray⟩).1
/-- The node that four pieces would be. -/
def of4 (a b c d : List UInt8) : Nd := ⟨(dotP ⟨a.toArray⟩).1, (dotP ⟨a.toArray⟩).2.1, (dotP ⟨b.toArray⟩).1, (dotP ⟨b.toArray⟩).2.1, (decV c : Nat), nmV d⟩
/-- What Parse returns. -/
def nodP (s : ByteArray) : Nd × Int :=
  match spl s.data.toList with
  | [a, b, c, d] => if okN (of4 a b c d) ∧ ntL (of4 a b c d) = s.data.toList then (of4 a b c d, 0) else (zN, 6)
  | _ => (zN, 6)

theorem spl_ne : ∀ l, spl l ≠ []
  | [] => by simp [spl]
  | c :: l => by
    unfold spl
    split
    · simp
    · split <;> simp
theorem spl_none : ∀ (a : List UInt8), (∀ x ∈ a, x ≠ 32) → spl a = [a]
  | [], _ => rfl
  | c :: a, h => by
    rw [spl, if_neg (h c List.mem_cons_self), spl_none a (fun x hx => h x (List.mem_cons_of_mem _ hx))]
theorem spl_at : ∀ (a b : List UInt8), (∀ x ∈ a, x ≠ 32) → spl (a ++ 32 :: b) = a :: spl b
  | [], b, _ => by rw [List.nil_append, spl, if_pos rfl]
  | c :: a, b, h => by
    rw [List.cons_append, spl, if_neg (h c List.mem_cons_self), spl_at a b (fun x hx => h x (List.mem_cons_of_mem _ hx))]
theorem spl_mem_len : ∀ (l p : List UInt8), p ∈ spl l → p.length ≤ l.length
  | [], p, h => by
    have : p = [] := by simpa [spl] using h
    subst this; exact Nat.le_refl _
  | c :: l, p, h => by
    unfold spl at h
    split at h
    · rcases List.mem_cons.1 h with rfl | h
      · simp
      · have := spl_mem_len l p h
        simp; omega
    · split at h
      · rename_i e
        exact absurd e (spl_ne l)
      · rename_i a r e
        rcases List.mem_cons.1 h with rfl | h
        · have := spl_mem_len l a (by rw [e]; exact List.mem_cons_self)
          simpa using this
        · have := spl_mem_len l p (by rw [e]; exact List.mem_cons_of_mem _ h)
          simp; omega
theorem first_sp : ∀ (l : List UInt8), (∀ x ∈ l, x ≠ 32) ∨ ∃ a b, l = a ++ 32 :: b ∧ ∀ x ∈ a, x ≠ 32
  | [] => .inl (by simp)
  | c :: l => by
    by_cases h : c = 32
    · exact .inr ⟨[], l, by rw [h]; rfl, by simp⟩
    · rcases first_sp l with q | ⟨a, b, e, q⟩
      · exact .inl (fun x hx => (List.mem_cons.1 hx).elim (fun e => e ▸ h) (q x))
      · exact .inr ⟨c :: a, b, by rw [e]; rfl, fun x hx => (List.mem_cons.1 hx).elim (fun e => e ▸ h) (q x)⟩
theorem occ_one (l : List UInt8) (j : Nat) (c : UInt8) : Lib.occAt l [c] j = true → l[j]? = some c := by
  unfold Lib.occAt
  intro h
  cases hd : l.drop j with
  | nil => rw [hd] at h; simp at h
  | cons x r =>
    rw [hd] at h
    have e : l[j]? = some x := by rw [← List.head?_drop, hd]; rfl
    simp at h
    rw [e, h]
theorem index_sp (a b : List UInt8) (h : ∀ x ∈ a, x ≠ 32) : Lib.index (a ++ (32 :: b)) [32] = (a.length : Int) := by
  refine Lib.index_first (by simp) ?_ fun j hj => ?_
  · unfold Lib.occAt
    rw [List.drop_left]
    simp
  · cases hq : Lib.occAt (a ++ 32 :: b) [32] j with
    | false => rfl
    | true =>
      have := occ_one _ _ _ hq
      rw [List.getElem?_append_left hj] at this
      exact absurd rfl (h 32 (List.mem_of_getElem? this))
theorem index_no (a : List UInt8) (h : ∀ x ∈ a, x ≠ 32) : Lib.index a [32] = -1 := by
  refine Lib.index_none fun j hj => ?_
  cases hq : Lib.occAt a [32] j with
  | false => rfl
  | true => exact absurd rfl (h 32 (List.mem_of_getElem? (occ_one _ _ _ hq)))
theorem split_spl : ∀ (n : Nat) (l : List UInt8), l.length ≤ n → Lib.split l [32] = spl l := by
  intro n
  induction n with
  | zero =>
    intro l hl
    obtain rfl : l = [] := by simpa using hl
    rfl
  | succ n ih =>
    intro l hl
    rcases first_sp l with h | ⟨a, b, rfl, h⟩
    · rw [spl_none l h]
      unfold Lib.split
      rw [Lib.count_miss (index_no l h)]
      rfl
    · have hi := index_sp a b h
      rw [spl_at a b h, ← ih b (by simp at hl; omega)]
      unfold Lib.split
      rw [Lib.count_hit (by simp) hi, Nat.add_comm, Lib.splitK, if_neg (by rw [hi]; simp), hi]
      simp
/-! A node's text has four pieces. -/
theorem dt_sp {r c : Int} (h : okDot r c ∨ (r = 0 ∧ c = 0)) : ∀ x ∈ dtL r c, x ≠ 32 := by
  intro x hx q
  subst q
  rcases h with h | ⟨rfl, rfl⟩
  · rw [dtL_dot h, List.mem_append, List.mem_cons] at hx
    rcases hx with hx | hx | hx
    · exact absurd (dec_digit _ _ hx) (by decide)
    · exact absurd hx (by decide)
    · exact absurd (dec_digit _ _ hx) (by decide)
  · exact absurd hx (by decide)
theorem dec_sp (n : Nat) : ∀ x ∈ Lib.decDigits n, x ≠ 32 := by
  rintro x hx rfl
  exact absurd (dec_digit _ _ hx) (by decide)
theorem dup_sp : ∀ n, n < 16 → dup n ≠ 32 := by decide
theorem name_sp (n : Nat) : ∀ x ∈ nameL n, x ≠ 32 := by
  rintro x hx rfl
  unfold nameL hexU at hx
  rcases List.mem_append.1 hx with hx | hx
  · exact absurd hx (by decide)
  · rcases List.mem_append.1 hx with hx | hx
    · exact absurd (List.eq_of_mem_replicate hx) (by decide)
    · obtain ⟨d, hd, e⟩ := List.mem_map.1 hx
      exact dup_sp d (hexD_lt 8 n d hd) e
theorem nm_sp (u : Int) : ∀ x ∈ nmL u, x ≠ 32 := by
  unfold nmL
  split
  · decide
  · exact name_sp _
theorem spl_nt {n : Nd} (h : okN n) : spl (ntL n) = [dtL n.r n.c, dtL n.p n.q, Lib.decDigits n.t.toNat, nmL n.u] := by
  unfold ntL
  rw [spl_at _ _ (dt_sp (.inl h.1)), spl_at _ _ (dt_sp h.2.1), spl_at _ _ (dec_sp _), spl_none _ (nm_sp _)]
theorem dotP_dt {r c : Int} (h : okDot r c ∨ (r = 0 ∧ c = 0)) : dotP ⟨(dtL r c).toArray⟩ = (r, c, 0) := by
  rcases h with h | ⟨rfl, rfl⟩
  · exact dotP_yes h
  · exact dotP_root
theorem name_dash (n : Nat) : nameL n ≠ [45] := by unfold nameL; simp
theorem nmV_nm {u : Int} (h : okU u) : nmV (nmL u) = u := by
  unfold nmV nmL
  by_cases h0 : u = 0
  · rw [if_pos h0, if_pos rfl, h0]
  · have hr : okRune u := h.resolve_left h0
    have hu : ((u.toNat : Nat) : Int) = u := Int.toNat_of_nonneg (by have := hr.1; omega)
    rw [if_neg h0, if_neg (name_dash _)]
    have := byn_yes (r := u.toNat) (by rw [hu]; exact hr)
    show (bynP (nameP u.toNat)).1 = u
    rw [this, hu]
theorem of4_nt {n : Nd} (h : okN n) : of4 (dtL n.r n.c) (dtL n.p n.q) (Lib.decDigits n.t.toNat) (nmL n.u) = n := by
  have ht : ((n.t.toNat : Nat) : Int) = n.t := Int.toNat_of_nonneg (by have := h.2.2.2.1.1; omega)
  unfold of4
  rw [dotP_dt (.inl h.1), dotP_dt h.2.1, decV_dec, ht, nmV_nm h.2.2.2.2]
theorem nodP_yes {n : Nd} (h : okN n) : nodP (ntP n) = (n, 0) := by
  have e : (ntP n).data.toList = ntL n := rfl
  unfold nodP
  rw [e, spl_nt h]
  show (if okN (of4 _ _ _ _) ∧ ntL (of4 _ _ _ _) = _ then _ else _) = _
  rw [of4_nt h, if_pos ⟨h, rfl⟩]
theorem nodP_no {s : ByteArray} (h : ∀ n, okN n → ntL n ≠ s.data.toList) : nodP s = (zN, 6) := by
  unfold nodP
  split
  · rw [if_neg (fun q => h _ q.1 q.2)]
  · rfl
theorem dt_len20 {r c : Int} (h : okDot r c ∨ (r = 0 ∧ c = 0)) : (dtL r c).length ≤ 20 := dtL_len h
theorem nm_len {u : Int} (h : okU u) : (nmL u).length ≤ 12 := by
  unfold nmL
  split
  · decide
  · rename_i h0
    have hr : okRune u := h.resolve_left h0
    have h1 := hr.1
    have h2 := hr.2.1
    have := (nameL_len (n := u.toNat) (by omega)).1
    omega
theorem nodP_len {s : ByteArray} (h : (spl s.data.toList).length ≠ 4) : nodP s = (zN, 6) := by
  unfold nodP
  split
  · rename_i a b c d e
    rw [e] at h
    exact absurd rfl h
  · rfl
theorem atoi_dec2 {t : Int} (h0 : 1 ≤ t) (h1 : t ≤ maxT) : Lib.atoiAll (Lib.decDigits t.toNat) = .ok t := by
  have := atoi_dec t.toNat (by unfold maxT at h1; omega)
  rwa [Int.toNat_of_nonneg (by omega)] at this
/-- What Parse makes of what its four pieces read as. -/
theorem nodP_by (s a b c d : ByteArray) (hs : spl s.data.toList = [a.data.toList, b.data.toList, c.data.toList, d.data.toList]) (v u eu : Int) (nil : Prop) [Decidable nil]
    (hc : (Lib.atoiAll c.data.toList = .ok v ∧ nil) ∨ ((∀ x, Lib.atoiAll c.data.toList ≠ .ok x) ∧ ¬ nil))
    (hd : (d.data.toList = [45] ∧ u = 0 ∧ eu = 0) ∨ (d.data.toList ≠ [45] ∧ u = (bynP d).1 ∧ eu = (bynP d).2)) :
    nodP s = if ((dotP a).2.2 = 0 ∧ eu = 0) ∧ (dotP b).2.2 = 0 ∧ nil ∧ (nodT ⟨(dotP a).1, (dotP a).2.1, (dotP b).1, (dotP b).2.1, v, u⟩).1 = s then (⟨(dotP a).1, (dotP a).2.1, (dotP b).1, (dotP b).2.1, v, u⟩, 0) else (zN, 6) := by
  have hne : s.data.toList ≠ [] := by
    intro q
    rw [q] at hs
    have := congrArg List.length hs
    simp [spl] at this
  by_cases h : ∃ m, okN m ∧ ntL m = s.data.toList
  · obtain ⟨m, hm, he⟩ := h
    rw [← he, spl_nt hm] at hs
    injection hs with ha hs
    injection hs with hb hs
    injection hs with hc' hs
    injection hs with hd' _
    have ea : dotP a = (m.r, m.c, 0) := by
      have := dotP_dt (.inl hm.1 : okDot m.r m.c ∨ (m.r = 0 ∧ m.c = 0))
      rw [ha] at this
      exact this
    have eb : dotP b = (m.p, m.q, 0) := by
      have := dotP_dt hm.2.1
      rw [hb] at this
      exact this
    have hat := atoi_dec2 hm.2.2.2.1.1 hm.2.2.2.1.2
    rw [hc'] at hat
    have hv : v = m.t ∧ nil := by
      rcases hc with ⟨q, hn⟩ | ⟨q, _⟩
      · rw [hat] at q
        exact ⟨by injection q with q; exact q.symm, hn⟩
      · exact absurd hat (q _)
    have hu : u = m.u ∧ eu = 0 := by
      have hx := hm.2.2.2.2
      rcases hd with ⟨q, q1, q2⟩ | ⟨q, q1, q2⟩
      · refine ⟨?_, q2⟩
        rw [← hd'] at q
        unfold nmL at q
        split at q
        · rw [q1]; exact ‹m.u = 0›.symm
        · exact absurd q (name_dash _)
      · rw [← hd'] at q
        unfold nmL at q hd'
        split at q
        · exact absurd rfl q
        · rename_i h0
          rw [if_neg h0] at hd'
          have hr : okRune m.u := hx.resolve_left h0
          have hu : ((m.u.toNat : Nat) : Int) = m.u := Int.toNat_of_nonneg (by have := hr.1; omega)
          have e := byn_yes (r := m.u.toNat) (by rw [hu]; exact hr)
          have ed : nameP m.u.toNat = d := bytes_eq hd'
          rw [ed, hu] at e
          rw [q1, q2, e]
          exact ⟨rfl, rfl⟩
    obtain ⟨rfl, hn⟩ := hv
    obtain ⟨rfl, rfl⟩ := hu
    have es : s = ntP m := bytes_eq he.symm
    rw [ea, eb]
    show nodP s = if ((0 : Int) = 0 ∧ (0 : Int) = 0) ∧ (0 : Int) = 0 ∧ nil ∧ (nodT m).1 = s then (m, 0) else (zN, 6)
    rw [if_pos ⟨⟨rfl, rfl⟩, rfl, hn, by unfold nodT; rw [if_pos hm, es]⟩, es, nodP_yes hm]
  · have h : ∀ n, okN n → ntL n ≠ s.data.toList := fun n a b => h ⟨n, a, b⟩
    rw [nodP_no h, if_neg]
    rintro ⟨_, _, _, q⟩
    unfold nodT at q
    split at q
    · rename_i hok
      exact h _ hok (by rw [← q]; rfl)
    · exact hne (by rw [← q])
theorem dotP_e (s : ByteArray) : (dotP s).2.2 = 0 ∨ (dotP s).2.2 = 6 := by
  unfold dotP
  split
  · exact .inl rfl
  · split
    · exact .inl rfl
    · exact .inr rfl
theorem bynP_e (s : ByteArray) : (bynP s).2 = 0 ∨ (bynP s).2 = 6 := by
  unfold bynP
  split
  · exact .inl rfl
  · exact .inr rfl
end Go.Proofs.YtamggklblaigpaaGreatDoor.Nx

namespace Go.Proofs.YtamggklblaigpaaGreatDoor.Up
open Go Go.RowKit Go.Proofs Go.Proofs.YtamggklblaigpaaGreatDoorW.PrintWords Go.Proofs.YtamggklblaigpaaGreatDoor.Rn Go.Proofs.YtamggklblaigpaaGreatDoor.Hx Go.Proofs.YtamggklblaigpaaGreatDoor.PAll
set_option linter.unusedSimpArgs false
set_option linter.unusedVariables false

def okSc (r : Int) : Prop := 0 ≤ r ∧ r ≤ 1114111 ∧ (r < 55296 ∨ 57343 < r)
instance (r : Int) : Decidable (okSc r) := by unfold okSc; infer_instance
theorem w64 {n : Int} (h0 : -9000000000000000000 ≤ n) (h1 : n ≤ 9000000000000000000) : wrap64 n = n := by simp only [wrap64]; omega
theorem rune_f (k : Nat) (r : Int) : runes_Valid.f (k + 1) r = some (decide (okRune r)) := by
  unfold runes_Valid.f
  by_cases h0 : r = 0
  · rw [if_pos h0, decide_eq_false (by unfold okRune; omega)]
  · rw [if_neg h0]
    have : utf8_ValidRune.f (k + 1) r = some (decide (okRune r)) := by
      have hj : ∀ b, utf8_ValidRune.j0 (k + 1) r b = if b = true then some true else (if 57343 < r then (if r ≤ 1114111 then some true else some false) else some false) := fun b => by unfold utf8_ValidRune.j0; rfl
      unfold utf8_ValidRune.f
      rw [hj, hj]
      by_cases h1 : 0 ≤ r
      · rw [if_pos h1]
        by_cases h2 : r < 55296
        · rw [decide_eq_true h2, if_pos rfl, decide_eq_true (by unfold okRune; omega)]
        · rw [decide_eq_false h2, if_neg (by simp)]
          by_cases h3 : 57343 < r
          · rw [if_pos h3]
            by_cases h4 : r ≤ 1114111
            · rw [if_pos h4, decide_eq_true (by unfold okRune; omega)]
            · rw [if_neg h4, decide_eq_false (by unfold okRune; omega)]
          · rw [if_neg h3, decide_eq_false (by unfold okRune; omega)]
      · rw [if_neg h1, if_neg (by simp), if_neg (by omega), decide_eq_false (by unfold okRune; omega)]
    rw [this]
    rfl
/-! ByName. -/
end Go.Proofs.YtamggklblaigpaaGreatDoor.Up

namespace Go.Proofs.YtamggklblaigpaaGreatDoor.Nx
open Go Go.RowKit Go.Proofs Go.Proofs.YtamggklblaigpaaGreatDoorW.PrintWords Go.Proofs.YtamggklblaigpaaGreatDoor.PAll Go.Proofs.YtamggklblaigpaaGreatDoor.Dx Go.Proofs.YtamggklblaigpaaGreatDoor.Hx Go.Proofs.YtamggklblaigpaaGreatDoor.Rn
set_option linter.unusedSimpArgs false
set_option linter.unusedVariables false

theorem valid_val (r c : Int) : dot_Valid.f r c = some (decide (okDot r c)) := by
  unfold dot_Valid.f
  by_cases h1 : r ≥ 1
  · rw [if_pos h1]
    by_cases h2 : r ≤ 64
    · rw [if_pos h2]
      by_cases h3 : c ≥ 1
      · rw [if_pos h3]; congr 1; exact decide_eq_decide.2 (by unfold okDot; omega)
      · rw [if_neg h3, decide_eq_false (by unfold okDot; omega)]
    · rw [if_neg h2, decide_eq_false (by unfold okDot; omega)]
  · rw [if_neg h1, decide_eq_false (by unfold okDot; omega)]
theorem root_val (r c : Int) : dot_Root.f r c = some (decide (r = 0 ∧ c = 0)) := by
  unfold dot_Root.f
  congr 1
  by_cases a : r = 0 <;> by_cases b : c = 0 <;> simp [a, b]
/-- What is left to ask of a node whose parent is allowed. -/
theorem tail_val (n : Nd) (k : Nat) (h1 : okDot n.r n.c) (h2 : okDot n.p n.q ∨ (n.p = 0 ∧ n.q = 0)) :
    (if (!(n.p == n.r) || (!(n.q == n.c))) = true then (if n.t ≥ 1 then (if n.t ≤ 4611686018427387904 then ((node_Dead.f n.r n.c n.p n.q n.t n.u).bind fun t => (if t = true then (some true) else ((runes_Valid.f (k + 1) n.u).bind fun t => (some t)))) else (some false)) else (some false)) else (some false)) = some (decide (okN n)) := by
  have e : (!(n.p == n.r) || (!(n.q == n.c))) = decide (¬ (n.p = n.r ∧ n.q = n.c)) := by
    by_cases a : n.p = n.r <;> by_cases b : n.q = n.c <;> simp [a, b]
  rw [e]
  by_cases h3 : ¬ (n.p = n.r ∧ n.q = n.c)
  · rw [if_pos (decide_eq_true h3)]
    by_cases h4 : n.t ≥ 1
    · rw [if_pos h4]
      by_cases h5 : n.t ≤ 4611686018427387904
      · rw [if_pos h5]
        unfold node_Dead.f
        rw [Option.bind_some]
        by_cases h6 : n.u = 0
        · rw [if_pos (by simp [h6]), decide_eq_true (show okN n from ⟨h1, h2, h3, ⟨h4, h5⟩, .inl h6⟩)]
        · rw [if_neg (by simp [h6]), Up.rune_f, Option.bind_some]
          congr 1
          exact decide_eq_decide.2 ⟨fun h => ⟨h1, h2, h3, ⟨h4, h5⟩, .inr h⟩, fun h => h.2.2.2.2.resolve_left h6⟩
      · rw [if_neg h5, decide_eq_false (fun h => h5 h.2.2.2.1.2)]
    · rw [if_neg h4, decide_eq_false (fun h => h4 h.2.2.2.1.1)]
  · rw [if_neg (by simpa using h3), decide_eq_false (fun h => h3 h.2.2.1)]
theorem nvalid_f (n : Nd) (k : Nat) : node_Valid.f (k + 1) n.r n.c n.p n.q n.t n.u = some (decide (okN n)) := by
  unfold node_Valid.f
  rw [valid_val, Option.bind_some]
  by_cases h1 : okDot n.r n.c
  · rw [if_pos (decide_eq_true h1), root_val, Option.bind_some]
    by_cases h2 : n.p = 0 ∧ n.q = 0
    · rw [if_pos (decide_eq_true h2)]
      exact tail_val n k h1 (.inr h2)
    · rw [if_neg (by simpa using h2), valid_val, Option.bind_some]
      by_cases h3 : okDot n.p n.q
      · rw [if_pos (decide_eq_true h3)]
        exact tail_val n k h1 (.inl h3)
      · rw [if_neg (by simpa using h3), decide_eq_false (fun h => h.2.1.elim h3 h2)]
  · rw [if_neg (by simpa using h1), decide_eq_false (fun h => h1 h.1)]
end Go.Proofs.YtamggklblaigpaaGreatDoor.Nx

namespace Go.Proofs.YtamggklblaigpaaGreatDoor.Nx
open Go Go.RowKit Go.Proofs Go.Proofs.YtamggklblaigpaaGreatDoorW.PrintWords Go.Proofs.YtamggklblaigpaaGreatDoor.Kit Go.Proofs.YtamggklblaigpaaGreatDoor.PAll Go.Proofs.YtamggklblaigpaaGreatDoor.Dx Go.Proofs.YtamggklblaigpaaGreatDoor.Hx Go.Proofs.YtamggklblaigpaaGreatDoor.Rn
set_option linter.unusedSimpArgs false
set_option linter.unusedVariables false

/-- What the walks ask of package variables. -/
structure NOK (w : World) : Prop where
  d : DOK w
  h : HOK w
theorem NOK.below {w w' : World} (h : NOK w) (hb : Below w.heap.size w w') : NOK w' := ⟨h.d.below hb, h.h.below hb⟩
abbrev RetP (v : Value) (w : World) (en : Ending) (w' : World) : Prop := en = .returned v ∧ Below w.heap.size w w'
theorem nvalid_be (n : Nd) (w : World) : Calls Tryz.prog 16 #[.agg #[.int .i64 n.r, .int .i64 n.c, .int .i64 n.p, .int .i64 n.q, .int .i64 n.t, .int .i32 n.u]] w (RetP (.bool (decide (okN n))) w) :=
  node_Valid.calls 1 n.r n.c n.p n.q n.t n.u _ w (nvalid_f n 0)
theorem ndead_be (n : Nd) (w : World) : Calls Tryz.prog 19 #[.agg #[.int .i64 n.r, .int .i64 n.c, .int .i64 n.p, .int .i64 n.q, .int .i64 n.t, .int .i32 n.u]] w (RetP (.bool (n.u == 0)) w) :=
  node_Dead.calls n.r n.c n.p n.q n.t n.u _ w rfl
/-- Four strings, put together. -/
theorem join4_be (a b c d : ByteArray) (g : Nat) (T : TypeId) (w : World) (hg : w.heap[g]? = some (.cells #[.string a, .string b, .string c, .string d] T (0, 0))) (hl : a.size + b.size + c.size + d.size ≤ 1000) :
    Calls Tryz.prog 41 #[.slice (some ⟨g, 0, none⟩) 4 4, .string ⟨#[32]⟩] w (RetP (.string (a ++ ⟨#[32]⟩ ++ (b ++ ⟨#[32]⟩ ++ (c ++ ⟨#[32]⟩ ++ d)))) w) := by
  have hj : Lib.join ([a, b, c, d].map (·.data.toList)) [32] = a.data.toList ++ [32] ++ (b.data.toList ++ [32] ++ (c.data.toList ++ [32] ++ d.data.toList)) := by
    simp [Lib.join]
  have e : (⟨(Lib.join ([a, b, c, d].map (·.data.toList)) (⟨#[32]⟩ : ByteArray).data.toList).toArray⟩ : ByteArray) = a ++ ⟨#[32]⟩ ++ (b ++ ⟨#[32]⟩ ++ (c ++ ⟨#[32]⟩ ++ d)) := by
    have : (⟨#[32]⟩ : ByteArray).data.toList = [32] := rfl
    rw [this, hj]
    apply ByteArray.ext
    simp [ByteArray.data_append]
  have := Tryz.strings_Join g 0 4 [a, b, c, d] ⟨#[32]⟩ w (fun j x hj => by
    rw [Nat.zero_add, blk_cell hg]
    match j, hj with
    | 0, h => rw [show x = a by simpa using h.symm]; rfl
    | 1, h => rw [show x = b by simpa using h.symm]; rfl
    | 2, h => rw [show x = c by simpa using h.symm]; rfl
    | 3, h => rw [show x = d by simpa using h.symm]; rfl
    | j + 4, h => simp at h) (blk_lt hg) (by simp) (by simp) (by
      show (Lib.join _ [32]).length ≤ _
      rw [hj]
      simp
      omega)
  rw [e] at this
  exact this
theorem cells6 {W : World} {g : Nat} {T : TypeId} {a b c d e f : Value} (h : W.heap[g]? = some (.cells #[a, b, c, d, e, f] T (0, 0))) :
    W.cell? ⟨g, 0, none⟩ = some a ∧ W.cell? ⟨g, 1, none⟩ = some b ∧ W.cell? ⟨g, 2, none⟩ = some c ∧ W.cell? ⟨g, 3, none⟩ = some d ∧ W.cell? ⟨g, 4, none⟩ = some e ∧ W.cell? ⟨g, 5, none⟩ = some f :=
  ⟨(blk_cell h 0).trans rfl, (blk_cell h 1).trans rfl, (blk_cell h 2).trans rfl, (blk_cell h 3).trans rfl, (blk_cell h 4).trans rfl, (blk_cell h 5).trans rfl⟩
theorem ntP_eq (n : Nd) (a b c d : ByteArray) (ha : a.data.toList = dtL n.r n.c) (hb : b.data.toList = dtL n.p n.q) (hc : c.data.toList = Lib.decDigits n.t.toNat) (hd : d.data.toList = nmL n.u) : a ++ ⟨#[32]⟩ ++ (b ++ ⟨#[32]⟩ ++ (c ++ ⟨#[32]⟩ ++ d)) = ntP n := by
  apply bytes_eq
  unfold ntP ntL
  simp [ByteArray.data_append, ha, hb, hc, hd]
set_option maxHeartbeats 8000000 in
set_option maxRecDepth 100000 in
theorem nText_any (n : Nd) (w : World) (hG : NOK w) : Calls Tryz.prog 15 #[.agg #[.int .i64 n.r, .int .i64 n.c, .int .i64 n.p, .int .i64 n.q, .int .i64 n.t, .int .i32 n.u]] w (RetP (.tuple #[.string (nodT n).1, .int .i64 (nodT n).2]) w) := by
  have VB := Lib.hid (nvalid_be n)
  by_cases hv : okN n
  · have E := Lib.hid (show nodT n = (ntP n, 0) from if_pos hv)
    rw [decide_eq_true hv] at VB
    obtain ⟨za, ea⟩ : ∃ z : ByteArray, z = dtP n.r n.c := ⟨_, rfl⟩
    obtain ⟨zb, eb⟩ : ∃ z : ByteArray, z = dtP n.p n.q := ⟨_, rfl⟩
    obtain ⟨zc, ec⟩ : ∃ z : ByteArray, z = ⟨(Lib.decDigits n.t.toNat).toArray⟩ := ⟨_, rfl⟩
    obtain ⟨zd, ed⟩ : ∃ z : ByteArray, z = ⟨(nmL n.u).toArray⟩ := ⟨_, rfl⟩
    have T1 := Lib.hid (fun W (hW : Below w.heap.size w W) => Text_any n.r n.c W (hG.d.below hW))
    rw [show dotT n.r n.c = (za, 0) from by rw [ea]; exact if_pos (.inl hv.1)] at T1
    have T2 := Lib.hid (fun W (hW : Below w.heap.size w W) => Text_any n.p n.q W (hG.d.below hW))
    rw [show dotT n.p n.q = (zb, 0) from by rw [eb]; exact if_pos hv.2.1] at T2
    have ht := hv.2.2.2.1
    unfold maxT at ht
    have IT := Lib.hid (fun W (hW : Below w.heap.size w W) => itoa_be n.t.toNat (by omega) W (hG.d.below hW))
    rw [← ec, Int.toNat_of_nonneg (by omega : 0 ≤ n.t)] at IT
    have EQ := Lib.hid ((ntP_eq n za zb zc zd (by rw [ea]; rfl) (by rw [eb]; rfl) (by rw [ec]) (by rw [ed])))
    have hlen : za.size + zb.size + zc.size + zd.size ≤ 1000 := by
      have h1 := dt_len20 (.inl hv.1)
      have h2 := dt_len20 hv.2.1
      have h3 := dec_len 18 n.t.toNat (by omega)
      have h4 := nm_len hv.2.2.2.2
      have s1 : za.size = (dtL n.r n.c).length := by rw [ea]; exact List.size_toArray ..
      have s2 : zb.size = (dtL n.p n.q).length := by rw [eb]; exact List.size_toArray ..
      have s3 : zc.size = (Lib.decDigits n.t.toNat).length := by rw [ec]; exact List.size_toArray ..
      have s4 : zd.size = (nmL n.u).length := by rw [ed]; exact List.size_toArray ..
      omega
    have JN := Lib.hid (fun (W : World) (T : TypeId) => join4_be za zb zc zd W.heap.size T (W.alloc (.cells #[.string za, .string zb, .string zc, .string zd] T)) (blk_new W _) hlen)
    rw [EQ.out] at JN
    have DD := Lib.hid (ndead_be n)
    by_cases hu : n.u = 0
    · have hz : zd = ⟨#[45]⟩ := by rw [ed]; unfold nmL; rw [if_pos hu]
      rw [hz] at JN
      rw [show (n.u == 0) = true by simp [hu]] at DD
      clear hG hv ht ea eb ec ed hlen hz EQ
      obtain ⟨r, c, p, q, t, u⟩ := n
      obtain rfl : u = 0 := hu
      go_enter Tryz.func15, Tryz.ntmps15
      go_wp2_with (first
        | (go_at_call 16; refine (VB.out _).mono ?_; rintro en w1 ⟨rfl, hb⟩; have BK := Lib.hid (blk_below (blk_new w _) hb); have KB := Lib.hid (below_step (below_alloc (Below.refl _ _) _) hb); obtain ⟨p0, p1, p2, p3, p4, p5⟩ := cells6 BK.out; clear hb)
        | (go_at_call 39; (with_reducible refine (T1.out _ KB.out).mono ?_); rintro en w2 ⟨rfl, hb⟩; have BK := Lib.hid (blk_below BK.out hb); have KB := Lib.hid (below_step KB.out hb); obtain ⟨p0, p1, p2, p3, p4, p5⟩ := cells6 BK.out; clear hb)
        | (go_at_call 39; (with_reducible refine (T2.out _ KB.out).mono ?_); rintro en w3 ⟨rfl, hb⟩; have BK := Lib.hid (blk_below BK.out hb); have KB := Lib.hid (below_step KB.out hb); obtain ⟨p0, p1, p2, p3, p4, p5⟩ := cells6 BK.out; clear hb)
        | (go_at_call 19; refine (DD.out _).mono ?_; rintro en w4 ⟨rfl, hb⟩; have BK := Lib.hid (blk_below BK.out hb); have KB := Lib.hid (below_step KB.out hb); obtain ⟨p0, p1, p2, p3, p4, p5⟩ := cells6 BK.out; clear hb)
        | (go_at_call 42; refine (IT.out _ KB.out).mono ?_; rintro en w5 ⟨rfl, hb⟩; have BK := Lib.hid (blk_below BK.out hb); have KB := Lib.hid (below_step KB.out hb); obtain ⟨p0, p1, p2, p3, p4, p5⟩ := cells6 BK.out; clear hb)
        | (go_at_call 41; refine (JN.out _ _).mono ?_; rintro en w6 ⟨rfl, hb⟩; have KB := Lib.hid (below_step (below_alloc KB.out _) hb); clear hb))
      go_ret2
      rw [E.out]
      exact ⟨rfl, KB.out⟩
    · have NM := Lib.hid (fun W (hW : Below w.heap.size w W) => name_any n.u W (hG.h.below hW))
      have hr : okRune n.u := hv.2.2.2.2.resolve_left hu
      rw [show namP n.u = (zd, 0) from by rw [ed]; unfold nmL namP nameP; rw [if_pos hr, if_neg hu]] at NM
      rw [show (n.u == 0) = false by simp [hu]] at DD
      clear hG hv ht ea eb ec ed hlen EQ hr
      obtain ⟨r, c, p, q, t, u⟩ := n
      go_enter Tryz.func15, Tryz.ntmps15
      go_wp2_with (first
        | (go_at_call 16; refine (VB.out _).mono ?_; rintro en w1 ⟨rfl, hb⟩; have BK := Lib.hid (blk_below (blk_new w _) hb); have KB := Lib.hid (below_step (below_alloc (Below.refl _ _) _) hb); obtain ⟨p0, p1, p2, p3, p4, p5⟩ := cells6 BK.out; clear hb)
        | (go_at_call 39; (with_reducible refine (T1.out _ KB.out).mono ?_); rintro en w2 ⟨rfl, hb⟩; have BK := Lib.hid (blk_below BK.out hb); have KB := Lib.hid (below_step KB.out hb); obtain ⟨p0, p1, p2, p3, p4, p5⟩ := cells6 BK.out; clear hb)
        | (go_at_call 39; (with_reducible refine (T2.out _ KB.out).mono ?_); rintro en w3 ⟨rfl, hb⟩; have BK := Lib.hid (blk_below BK.out hb); have KB := Lib.hid (below_step KB.out hb); obtain ⟨p0, p1, p2, p3, p4, p5⟩ := cells6 BK.out; clear hb)
        | (go_at_call 19; refine (DD.out _).mono ?_; rintro en w4 ⟨rfl, hb⟩; have BK := Lib.hid (blk_below BK.out hb); have KB := Lib.hid (below_step KB.out hb); obtain ⟨p0, p1, p2, p3, p4, p5⟩ := cells6 BK.out; clear hb)
        | (go_at_call 40; refine (NM.out _ KB.out).mono ?_; rintro en w4 ⟨rfl, hb⟩; have BK := Lib.hid (blk_below BK.out hb); have KB := Lib.hid (below_step KB.out hb); obtain ⟨p0, p1, p2, p3, p4, p5⟩ := cells6 BK.out; clear hb)
        | (go_at_call 42; refine (IT.out _ KB.out).mono ?_; rintro en w5 ⟨rfl, hb⟩; have BK := Lib.hid (blk_below BK.out hb); have KB := Lib.hid (below_step KB.out hb); obtain ⟨p0, p1, p2, p3, p4, p5⟩ := cells6 BK.out; clear hb)
        | (go_at_call 41; refine (JN.out _ _).mono ?_; rintro en w6 ⟨rfl, hb⟩; have KB := Lib.hid (below_step (below_alloc KB.out _) hb); clear hb))
      go_ret2
      rw [E.out]
      exact ⟨rfl, KB.out⟩
  · have E := Lib.hid (show nodT n = (⟨#[]⟩, 2) from if_neg hv)
    rw [decide_eq_false hv] at VB
    clear hG hv
    obtain ⟨r, c, p, q, t, u⟩ := n
    go_enter Tryz.func15, Tryz.ntmps15
    go_wp2_with (go_at_call 16; refine (VB.out _).mono ?_; rintro en w1 ⟨rfl, hb⟩; have KB := Lib.hid (below_step (below_alloc (Below.refl _ _) _) hb); clear hb)
    go_ret2
    rw [E.out]
    exact ⟨rfl, KB.out⟩
end Go.Proofs.YtamggklblaigpaaGreatDoor.Nx

/- Texts of nodes: the walk of node.Parse. -/
namespace Go.Proofs.YtamggklblaigpaaGreatDoor.Nx
open Go Go.RowKit Go.Proofs Go.Proofs.YtamggklblaigpaaGreatDoorW.PrintWords Go.Proofs.YtamggklblaigpaaGreatDoor.Kit Go.Proofs.YtamggklblaigpaaGreatDoor.PAll Go.Proofs.YtamggklblaigpaaGreatDoor.Dx Go.Proofs.YtamggklblaigpaaGreatDoor.Hx Go.Proofs.YtamggklblaigpaaGreatDoor.Rn
set_option linter.unusedSimpArgs false
set_option linter.unusedVariables false

def At2 (l : List UInt8) (w : World) (en : Ending) (w' : World) : Prop :=
  ∃ (v : Int) (ev : Value), en = .returned (.tuple #[.int .i64 v, ev]) ∧ ((Lib.atoiAll l = .ok v ∧ ev = .nilIface) ∨ ((∀ u, Lib.atoiAll l ≠ .ok u) ∧ ∃ te pe, ev = .iface te pe)) ∧ Below w.heap.size w w'
theorem atoi2_be (s : ByteArray) (hl : s.size ≤ 1000000) (w : World) (hG : DOK w) : Calls Tryz.prog 51 #[.string s] w (At2 s.data.toList w) := by
  cases h : Lib.atoiAll s.data.toList with
  | ok v =>
    refine (Tryz.strconv_Atoi_ok s (by omega) v h w).mono ?_
    rintro e w' ⟨rfl, hw⟩
    refine ⟨v, _, rfl, .inl ⟨h, rfl⟩, ?_⟩
    rcases hw with rfl | ⟨t, rfl⟩
    · exact Below.refl _ _
    · exact Lib.bytesWorld_below _ _ _
  | «syntax» =>
    obtain ⟨t, p, hc⟩ := hG.syn
    refine (Tryz.strconv_Atoi_syntax s (by omega) h _ w hc (.inr ⟨t, p, rfl⟩)).mono ?_
    rintro e w' ⟨N, rfl, _, _, hb⟩
    refine ⟨0, _, rfl, .inr ⟨?_, _, _, rfl⟩, hb⟩
    intro u q; rw [h] at q; cases q
  | range =>
    obtain ⟨t, p, hc⟩ := hG.rng
    refine (Tryz.strconv_Atoi_range s (by omega) h _ w hc (.inr ⟨t, p, rfl⟩)).mono ?_
    rintro e w' ⟨N, rfl, _, _, hb⟩
    refine ⟨_, _, rfl, .inr ⟨?_, _, _, rfl⟩, hb⟩
    intro u q; rw [h] at q; cases q
/-- What Split makes: the pieces as strings. -/
theorem split_be (s : ByteArray) (hl : s.size ≤ 1000000) (w : World) (hG : DOK w) : Calls Tryz.prog 49 #[.string s, .string ⟨#[32]⟩] w fun e w' =>
    ∃ ps : List ByteArray, ps.map (·.data.toList) = spl s.data.toList ∧ (∀ p ∈ ps, p.size ≤ s.size) ∧ e = .returned (.slice (some ⟨w.heap.size, 0, none⟩) ps.length ps.length) ∧ w' = w.alloc (.cells (ps.map Value.string).toArray 9) := by
  obtain ⟨m, hm⟩ := hG.max
  refine (Tryz.strings_Split s ⟨#[32]⟩ m w (by omega) hm (by decide)).mono ?_
  rintro e w' ⟨rfl, rfl⟩
  have h1 := Lib.splitB_data ⟨#[32]⟩ 0 (Lib.countB s ⟨#[32]⟩) s
  have h2 := Lib.splitB_all ⟨#[32]⟩ (by decide) 0 (Lib.countB s ⟨#[32]⟩) s rfl
  have h3 : (Lib.splitB ⟨#[32]⟩ 0 (Lib.countB s ⟨#[32]⟩) s).map (·.data.toList) = spl s.data.toList := by
    rw [h1]
    exact split_spl _ s.data.toList (Nat.le_refl _)
  refine ⟨_, h3, fun p hp => ?_, by rw [h2], rfl⟩
  have : p.data.toList ∈ spl s.data.toList := by rw [← h3]; exact List.mem_map_of_mem hp
  have := spl_mem_len _ _ this
  rw [Lib.size_eq p, Lib.size_eq s]
  exact this
theorem res6 {P : Program} {fn : Func} {p u : Tmp} {ty : TypeId} (h : fn.results = #[.cell p ty, .tmp u]) (tmps : Array Value) (w : World) (g : Nat) (t : TypeId) (cs : Array Value) (fr : Nat × Nat) (d : TypeDesc)
    (hp : tmps.getD p undef = .pointer (some ⟨g, 0, none⟩)) (hg : w.heap[g]? = some (.cells cs t fr))
    (hu : P.underlying ty = some d) (hd : (match d with | .struct _ | .array _ _ => true | _ => false) = true) (hi : (P.info? ty).map (·.size) = some cs.size) :
    (results fn tmps).run P w = .ok (.tuple #[.agg cs, tmps.getD u undef]) w := res_ct h tmps w g t cs fr d hp hg hu hd hi
def PrP (s : ByteArray) (w : World) (en : Ending) (w' : World) : Prop := en = .returned (.tuple #[.agg #[.int .i64 (nodP s).1.r, .int .i64 (nodP s).1.c, .int .i64 (nodP s).1.p, .int .i64 (nodP s).1.q, .int .i64 (nodP s).1.t, .int .i32 (nodP s).1.u], .int .i64 (nodP s).2]) ∧ Below w.heap.size w w'
set_option maxHeartbeats 8000000 in
set_option maxRecDepth 100000 in
theorem nParse_any (s : ByteArray) (hl : s.size ≤ 1000000) (w : World) (hG : NOK w) : Calls Tryz.prog 35 #[.string s] w (PrP s w) := by
  have SB := Lib.hid (fun W (hW : Below w.heap.size w W) => split_be s hl W (hG.d.below hW))
  have DP := Lib.hid (fun (x : ByteArray) (hx : x.size ≤ 1000000) W (hW : Below w.heap.size w W) => parse_any x hx W (hG.d.below hW))
  have AT := Lib.hid (fun (x : ByteArray) (hx : x.size ≤ 1000000) W (hW : Below w.heap.size w W) => atoi2_be x hx W (hG.d.below hW))
  have BN := Lib.hid (fun (x : ByteArray) (hx : x.size ≤ 1000000) W (hW : Below w.heap.size w W) => byname_any x hx W (hG.h.below hW))
  have TX := Lib.hid (fun n W (hW : Below w.heap.size w W) => nText_any n W (hG.below hW))
  have HL := Lib.hid hl
  clear hG hl
  go_enter Tryz.func35, Tryz.ntmps35
  go_upto_region 2 with (go_at_call 49; refine (SB.out _ (below_alloc (Below.refl _ _) _)).mono ?_; rintro en w1 ⟨ps, h1, h2, rfl, hw⟩; have PS := Lib.hid h1; have PL := Lib.hid h2; have W1 := Lib.hid hw; clear h1 h2 hw)
  have D0 := Lib.hid (show w1.heap[w.heap.size]? = some (.cells #[.int .i64 0, .int .i64 0, .int .i64 0, .int .i64 0, .int .i64 0, .int .i32 0] 25 (0, 0)) from by rw [W1.out]; exact blk_below (blk_new w _) (below_alloc (Below.refl _ _) _))
  have K1 := Lib.hid (show Below w.heap.size w w1 from by rw [W1.out]; exact below_alloc (below_alloc (Below.refl _ _) _) _)
  by_cases h4 : ps.length = 4
  · obtain ⟨a, b, c, d, rfl⟩ : ∃ a b c d, ps = [a, b, c, d] := by
      match ps, h4 with
      | [a, b, c, d], _ => exact ⟨a, b, c, d, rfl⟩
    have PB := Lib.hid (fun v u eu nil (_ : Decidable nil) h1 h2 => nodP_by s a b c d PS.out.symm v u eu nil h1 h2)
    have hsz : ∀ x ∈ [a, b, c, d], x.size ≤ 1000000 := fun x hx => Nat.le_trans (PL.out x hx) HL.out
    have DA := Lib.hid (DP.out a (hsz a (by simp)))
    have DB := Lib.hid (DP.out b (hsz b (by simp)))
    have AC := Lib.hid (AT.out c (hsz c (by simp)))
    have ND := Lib.hid (BN.out d (hsz d (by simp)))
    have B1 := Lib.hid (show w1.heap[w.heap.size + 1]? = some (.cells #[.string a, .string b, .string c, .string d] 9 (0, 0)) from by
      rw [W1.out]
      have h := blk_new (w.alloc (.cells #[.int .i64 0, .int .i64 0, .int .i64 0, .int .i64 0, .int .i64 0, .int .i32 0] 25)) (.cells ([a, b, c, d].map Value.string).toArray 9)
      rw [show (w.alloc (.cells #[.int .i64 0, .int .i64 0, .int .i64 0, .int .i64 0, .int .i64 0, .int .i32 0] 25)).heap.size = w.heap.size + 1 from Array.size_push ..] at h
      exact h)
    clear PS PL W1 hsz DP AT BN SB HL h4
    have s0 : w1.cell? ⟨w.heap.size + 1, 0, none⟩ = some (.string a) := (blk_cell B1.out 0).trans rfl
    go_upto_region 8 with (first
      | (go_at_call 50; (with_reducible refine (DA.out _ K1.out).mono ?_); rintro en w2 ⟨rfl, hb⟩; have B2 := Lib.hid (blk_below B1.out hb); have D2 := Lib.hid (blk_below D0.out hb); have K2 := Lib.hid (below_step K1.out hb); have s1 : (w2.alloc (.cells #[.int .i64 (dotP a).1, .int .i64 (dotP a).2.1] 23)).cell? ⟨w.heap.size + 1, 1, none⟩ = some (.string b) := (blk_cell (blk_below B2.out (below_alloc (Below.refl _ _) _)) 1).trans rfl; clear hb)
      | (go_at_call 50; (with_reducible refine (DB.out _ (below_alloc K2.out _)).mono ?_); rintro en w3 ⟨rfl, hb⟩; have BX3 := Lib.hid (blk_below (blk_new w2 _) hb); have B3 := Lib.hid (blk_below (blk_below B2.out (below_alloc (Below.refl _ _) _)) hb); have D3 := Lib.hid (blk_below (blk_below D2.out (below_alloc (Below.refl _ _) _)) hb); have K3 := Lib.hid (below_step (below_alloc K2.out _) hb); have s2 : (w3.alloc (.cells #[.int .i64 (dotP b).1, .int .i64 (dotP b).2.1] 23)).cell? ⟨w.heap.size + 1, 2, none⟩ = some (.string c) := (blk_cell (blk_below B3.out (below_alloc (Below.refl _ _) _)) 2).trans rfl; clear hb)
      | (go_at_call 51; refine (AC.out _ (below_alloc K3.out _)).mono ?_; rintro en w4 ⟨v, ev, rfl, hat, hb⟩; have HAT := Lib.hid hat; have BX4 := Lib.hid (blk_below (blk_below BX3.out (below_alloc (Below.refl _ _) _)) hb); have BY4 := Lib.hid (blk_below (blk_new w3 _) hb); have B4 := Lib.hid (blk_below (blk_below B3.out (below_alloc (Below.refl _ _) _)) hb); have D4 := Lib.hid (blk_below (blk_below D3.out (below_alloc (Below.refl _ _) _)) hb); have K4 := Lib.hid (below_step (below_alloc K3.out _) hb); have x0 : w4.cell? ⟨w2.heap.size, 0, none⟩ = some (.int .i64 (dotP a).1) := (blk_cell BX4.out 0).trans rfl; have x1 : w4.cell? ⟨w2.heap.size, 1, none⟩ = some (.int .i64 (dotP a).2.1) := (blk_cell BX4.out 1).trans rfl; have y0 : w4.cell? ⟨w3.heap.size, 0, none⟩ = some (.int .i64 (dotP b).1) := (blk_cell BY4.out 0).trans rfl; have y1 : w4.cell? ⟨w3.heap.size, 1, none⟩ = some (.int .i64 (dotP b).2.1) := (blk_cell BY4.out 1).trans rfl; clear hb hat))
    have e6a := dotP_e a
    have e6b := dotP_e b
    have e6d := bynP_e d
    have s3 : (w4.alloc (.cells #[.int .i64 (dotP a).1, .int .i64 (dotP a).2.1, .int .i64 (dotP b).1, .int .i64 (dotP b).2.1, .int .i64 v, .int .i32 0] 25)).cell? ⟨w.heap.size + 1, 3, none⟩ = some (.string d) := (blk_cell (blk_below B4.out (below_alloc (Below.refl _ _) _)) 3).trans rfl
    have LT := Lib.hid (blk_lt D4.out)
    clear DA DB AC s0 s1 s2 x0 x1 y0 y1 D0 B1 K1 D2 B2 K2 D3 B3 K3 BX3 BX4 BY4 B4
    rcases HAT.out with ⟨hok, rfl⟩ | ⟨hno, te, pe, rfl⟩
    ·
      by_cases hdash : d.data.toList = [45]
      ·
        have Q := Lib.hid (PB.out v 0 0 True inferInstance (.inl ⟨hok, trivial⟩) (.inl ⟨hdash, rfl, rfl⟩))
        obtain rfl : d = ⟨#[45]⟩ := bytes_eq hdash
        clear HAT hdash PB hok
        have TN := Lib.hid (TX.out ⟨(dotP a).1, (dotP a).2.1, (dotP b).1, (dotP b).2.1, v, 0⟩)
        clear TX
        go_upto_region 13 with (go_at_call 15; refine (TN.out _ (below_alloc K4.out _)).mono ?_; rintro en w6 ⟨rfl, hb⟩; have B6 := Lib.hid (blk_below (blk_new w4 _) hb); have D6 := Lib.hid (blk_below (blk_below D4.out (below_alloc (Below.refl _ _) _)) hb); have K6 := Lib.hid (below_step (below_alloc K4.out _) hb); clear hb)
        obtain ⟨n0, n1, n2, n3, n4, n5⟩ := cells6 B6.out
        obtain ⟨d0, d1, d2, d3, d4, d5⟩ := cells6 D6.out
        have g0 := blk_frozen D6.out 0
        have g1 := blk_frozen D6.out 1
        have g2 := blk_frozen D6.out 2
        have g3 := blk_frozen D6.out 3
        have g4 := blk_frozen D6.out 4
        have g5 := blk_frozen D6.out 5
        generalize hz : nodT ⟨(dotP a).1, (dotP a).2.1, (dotP b).1, (dotP b).2.1, v, 0⟩ = z at *
        clear D4 K4 TN ND s3 LT hz
        generalize (dotP a).2.2 = e1 at *
        generalize (dotP b).2.2 = e2 at *
        rcases e6a with rfl | rfl
        · skip
          rcases e6b with rfl | rfl
          · skip
            by_cases hx : z.1 = s
            · have E := Lib.hid (show nodP s = (⟨(dotP a).1, (dotP a).2.1, (dotP b).1, (dotP b).2.1, v, 0⟩, 0) from Q.out.trans (if_pos ⟨⟨by first | rfl | trivial, by first | rfl | trivial⟩, by first | rfl | trivial, trivial, hx⟩))
              have hxx : decide (s.toList = s.toList) = true := decide_eq_true rfl
              rw [hx]
              clear Q hx
              go_wp2
              refine bodyPost_ret (res6 rfl _ _ w.heap.size 25 #[.int .i64 (dotP a).1, .int .i64 (dotP a).2.1, .int .i64 (dotP b).1, .int .i64 (dotP b).2.1, .int .i64 v, .int .i32 0] (0, 0) _ rfl (blk_put (blk_put (blk_put (blk_put (blk_put (blk_put D6.out 0 _ rfl) 1 _ rfl) 2 _ rfl) 3 _ rfl) 4 _ rfl) 5 _ rfl) Tryz.underlying25 rfl (by kernel_rfl)) rfl ?_
              unfold PrP
              rw [E.out]
              exact ⟨rfl, ((((((K6.out).setCell (Nat.le_refl _) _).setCell (Nat.le_refl _) _).setCell (Nat.le_refl _) _).setCell (Nat.le_refl _) _).setCell (Nat.le_refl _) _).setCell (Nat.le_refl _) _⟩
            · have hxx : (!z.1.toList == s.toList) = true := by
                have : ¬ z.1.toList = s.toList := fun q => hx ((str_dec _ _).1 q)
                simpa using this
              have E := Lib.hid (show nodP s = (zN, 6) from Q.out.trans (if_neg (fun q => hx q.2.2.2)))
              clear Q
              go_wp2
              refine bodyPost_ret (res6 rfl _ _ w.heap.size 25 #[.int .i64 0, .int .i64 0, .int .i64 0, .int .i64 0, .int .i64 0, .int .i32 0] (0, 0) _ rfl (blk_put (blk_put (blk_put (blk_put (blk_put (blk_put D6.out 0 _ rfl) 1 _ rfl) 2 _ rfl) 3 _ rfl) 4 _ rfl) 5 _ rfl) Tryz.underlying25 rfl (by kernel_rfl)) rfl ?_
              unfold PrP
              rw [E.out]
              exact ⟨rfl, ((((((K6.out).setCell (Nat.le_refl _) _).setCell (Nat.le_refl _) _).setCell (Nat.le_refl _) _).setCell (Nat.le_refl _) _).setCell (Nat.le_refl _) _).setCell (Nat.le_refl _) _⟩
          · skip
            have E := Lib.hid (show nodP s = (zN, 6) from Q.out.trans (if_neg (fun q => absurd q.2.1 (by decide))))
            clear Q
            go_wp2
            refine bodyPost_ret (res6 rfl _ _ w.heap.size 25 #[.int .i64 0, .int .i64 0, .int .i64 0, .int .i64 0, .int .i64 0, .int .i32 0] (0, 0) _ rfl (blk_put (blk_put (blk_put (blk_put (blk_put (blk_put D6.out 0 _ rfl) 1 _ rfl) 2 _ rfl) 3 _ rfl) 4 _ rfl) 5 _ rfl) Tryz.underlying25 rfl (by kernel_rfl)) rfl ?_
            unfold PrP
            rw [E.out]
            exact ⟨rfl, ((((((K6.out).setCell (Nat.le_refl _) _).setCell (Nat.le_refl _) _).setCell (Nat.le_refl _) _).setCell (Nat.le_refl _) _).setCell (Nat.le_refl _) _).setCell (Nat.le_refl _) _⟩
        · skip
          have E := Lib.hid (show nodP s = (zN, 6) from Q.out.trans (if_neg (fun q => absurd q.1.1 (by decide))))
          clear Q
          go_wp2
          refine bodyPost_ret (res6 rfl _ _ w.heap.size 25 #[.int .i64 0, .int .i64 0, .int .i64 0, .int .i64 0, .int .i64 0, .int .i32 0] (0, 0) _ rfl (blk_put (blk_put (blk_put (blk_put (blk_put (blk_put D6.out 0 _ rfl) 1 _ rfl) 2 _ rfl) 3 _ rfl) 4 _ rfl) 5 _ rfl) Tryz.underlying25 rfl (by kernel_rfl)) rfl ?_
          unfold PrP
          rw [E.out]
          exact ⟨rfl, ((((((K6.out).setCell (Nat.le_refl _) _).setCell (Nat.le_refl _) _).setCell (Nat.le_refl _) _).setCell (Nat.le_refl _) _).setCell (Nat.le_refl _) _).setCell (Nat.le_refl _) _⟩
      ·
        have Q := Lib.hid (PB.out v (bynP d).1 (bynP d).2 True inferInstance (.inl ⟨hok, trivial⟩) (.inr ⟨hdash, rfl, rfl⟩))
        have hdd : (d.toList == [45]) = false := beq_eq_false_iff_ne.2 fun q => hdash (by rw [← Lib.toList_data]; exact q)
        clear HAT hdash PB hok
        have TN := Lib.hid (TX.out ⟨(dotP a).1, (dotP a).2.1, (dotP b).1, (dotP b).2.1, v, (bynP d).1⟩)
        clear TX
        go_upto_region 13 with (first
          | (go_at_call 52; refine (ND.out _ (below_alloc K4.out _)).mono ?_; rintro en w5 ⟨rfl, hb⟩; have B5 := Lib.hid (blk_below (blk_new w4 _) hb); have D5 := Lib.hid (blk_below (blk_below D4.out (below_alloc (Below.refl _ _) _)) hb); have K5 := Lib.hid (below_step (below_alloc K4.out _) hb); obtain ⟨n0, n1, n2, n3, n4, n5⟩ := cells6 B5.out; have m5 := blk_frozen B5.out 5; clear hb)
          | (go_at_call 15; refine (TN.out _ (K5.out.setCell (Nat.le_of_lt LT.out) _)).mono ?_; rintro en w6 ⟨rfl, hb⟩; have B6 := Lib.hid (blk_below (blk_put B5.out 5 _ rfl) hb); have D6 := Lib.hid (blk_below ((Fr.set w5 w4.heap.size 5 _).blk D5.out (Nat.ne_of_lt LT.out)) hb); have K6 := Lib.hid (below_step (K5.out.setCell (Nat.le_of_lt LT.out) _) hb); clear hb n0 n1 n2 n3 n4 n5 m5))
        obtain ⟨n0, n1, n2, n3, n4, n5⟩ := cells6 B6.out
        obtain ⟨d0, d1, d2, d3, d4, d5⟩ := cells6 D6.out
        have g0 := blk_frozen D6.out 0
        have g1 := blk_frozen D6.out 1
        have g2 := blk_frozen D6.out 2
        have g3 := blk_frozen D6.out 3
        have g4 := blk_frozen D6.out 4
        have g5 := blk_frozen D6.out 5
        generalize hz : nodT ⟨(dotP a).1, (dotP a).2.1, (dotP b).1, (dotP b).2.1, v, (bynP d).1⟩ = z at *
        clear D4 K4 TN ND s3 LT hz D5 K5 B5 hdd
        generalize (dotP a).2.2 = e1 at *
        generalize (dotP b).2.2 = e2 at *
        generalize (bynP d).2 = e3 at *
        rcases e6d with rfl | rfl
        · skip
          rcases e6a with rfl | rfl
          · skip
            rcases e6b with rfl | rfl
            · skip
              by_cases hx : z.1 = s
              · have E := Lib.hid (show nodP s = (⟨(dotP a).1, (dotP a).2.1, (dotP b).1, (dotP b).2.1, v, (bynP d).1⟩, 0) from Q.out.trans (if_pos ⟨⟨by first | rfl | trivial, by first | rfl | trivial⟩, by first | rfl | trivial, trivial, hx⟩))
                have hxx : decide (s.toList = s.toList) = true := decide_eq_true rfl
                rw [hx]
                clear Q hx
                go_wp2
                refine bodyPost_ret (res6 rfl _ _ w.heap.size 25 #[.int .i64 (dotP a).1, .int .i64 (dotP a).2.1, .int .i64 (dotP b).1, .int .i64 (dotP b).2.1, .int .i64 v, .int .i32 (bynP d).1] (0, 0) _ rfl (blk_put (blk_put (blk_put (blk_put (blk_put (blk_put D6.out 0 _ rfl) 1 _ rfl) 2 _ rfl) 3 _ rfl) 4 _ rfl) 5 _ rfl) Tryz.underlying25 rfl (by kernel_rfl)) rfl ?_
                unfold PrP
                rw [E.out]
                exact ⟨rfl, ((((((K6.out).setCell (Nat.le_refl _) _).setCell (Nat.le_refl _) _).setCell (Nat.le_refl _) _).setCell (Nat.le_refl _) _).setCell (Nat.le_refl _) _).setCell (Nat.le_refl _) _⟩
              · have hxx : (!z.1.toList == s.toList) = true := by
                  have : ¬ z.1.toList = s.toList := fun q => hx ((str_dec _ _).1 q)
                  simpa using this
                have E := Lib.hid (show nodP s = (zN, 6) from Q.out.trans (if_neg (fun q => hx q.2.2.2)))
                clear Q
                go_wp2
                refine bodyPost_ret (res6 rfl _ _ w.heap.size 25 #[.int .i64 0, .int .i64 0, .int .i64 0, .int .i64 0, .int .i64 0, .int .i32 0] (0, 0) _ rfl (blk_put (blk_put (blk_put (blk_put (blk_put (blk_put D6.out 0 _ rfl) 1 _ rfl) 2 _ rfl) 3 _ rfl) 4 _ rfl) 5 _ rfl) Tryz.underlying25 rfl (by kernel_rfl)) rfl ?_
                unfold PrP
                rw [E.out]
                exact ⟨rfl, ((((((K6.out).setCell (Nat.le_refl _) _).setCell (Nat.le_refl _) _).setCell (Nat.le_refl _) _).setCell (Nat.le_refl _) _).setCell (Nat.le_refl _) _).setCell (Nat.le_refl _) _⟩
            · skip
              have E := Lib.hid (show nodP s = (zN, 6) from Q.out.trans (if_neg (fun q => absurd q.2.1 (by decide))))
              clear Q
              go_wp2
              refine bodyPost_ret (res6 rfl _ _ w.heap.size 25 #[.int .i64 0, .int .i64 0, .int .i64 0, .int .i64 0, .int .i64 0, .int .i32 0] (0, 0) _ rfl (blk_put (blk_put (blk_put (blk_put (blk_put (blk_put D6.out 0 _ rfl) 1 _ rfl) 2 _ rfl) 3 _ rfl) 4 _ rfl) 5 _ rfl) Tryz.underlying25 rfl (by kernel_rfl)) rfl ?_
              unfold PrP
              rw [E.out]
              exact ⟨rfl, ((((((K6.out).setCell (Nat.le_refl _) _).setCell (Nat.le_refl _) _).setCell (Nat.le_refl _) _).setCell (Nat.le_refl _) _).setCell (Nat.le_refl _) _).setCell (Nat.le_refl _) _⟩
          · skip
            have E := Lib.hid (show nodP s = (zN, 6) from Q.out.trans (if_neg (fun q => absurd q.1.1 (by decide))))
            clear Q
            go_wp2
            refine bodyPost_ret (res6 rfl _ _ w.heap.size 25 #[.int .i64 0, .int .i64 0, .int .i64 0, .int .i64 0, .int .i64 0, .int .i32 0] (0, 0) _ rfl (blk_put (blk_put (blk_put (blk_put (blk_put (blk_put D6.out 0 _ rfl) 1 _ rfl) 2 _ rfl) 3 _ rfl) 4 _ rfl) 5 _ rfl) Tryz.underlying25 rfl (by kernel_rfl)) rfl ?_
            unfold PrP
            rw [E.out]
            exact ⟨rfl, ((((((K6.out).setCell (Nat.le_refl _) _).setCell (Nat.le_refl _) _).setCell (Nat.le_refl _) _).setCell (Nat.le_refl _) _).setCell (Nat.le_refl _) _).setCell (Nat.le_refl _) _⟩
        · skip
          rcases e6a with rfl | rfl
          · skip
            have E := Lib.hid (show nodP s = (zN, 6) from Q.out.trans (if_neg (fun q => absurd q.1.2 (by decide))))
            clear Q
            go_wp2
            refine bodyPost_ret (res6 rfl _ _ w.heap.size 25 #[.int .i64 0, .int .i64 0, .int .i64 0, .int .i64 0, .int .i64 0, .int .i32 0] (0, 0) _ rfl (blk_put (blk_put (blk_put (blk_put (blk_put (blk_put D6.out 0 _ rfl) 1 _ rfl) 2 _ rfl) 3 _ rfl) 4 _ rfl) 5 _ rfl) Tryz.underlying25 rfl (by kernel_rfl)) rfl ?_
            unfold PrP
            rw [E.out]
            exact ⟨rfl, ((((((K6.out).setCell (Nat.le_refl _) _).setCell (Nat.le_refl _) _).setCell (Nat.le_refl _) _).setCell (Nat.le_refl _) _).setCell (Nat.le_refl _) _).setCell (Nat.le_refl _) _⟩
          · skip
            have E := Lib.hid (show nodP s = (zN, 6) from Q.out.trans (if_neg (fun q => absurd q.1.2 (by decide))))
            clear Q
            go_wp2
            refine bodyPost_ret (res6 rfl _ _ w.heap.size 25 #[.int .i64 0, .int .i64 0, .int .i64 0, .int .i64 0, .int .i64 0, .int .i32 0] (0, 0) _ rfl (blk_put (blk_put (blk_put (blk_put (blk_put (blk_put D6.out 0 _ rfl) 1 _ rfl) 2 _ rfl) 3 _ rfl) 4 _ rfl) 5 _ rfl) Tryz.underlying25 rfl (by kernel_rfl)) rfl ?_
            unfold PrP
            rw [E.out]
            exact ⟨rfl, ((((((K6.out).setCell (Nat.le_refl _) _).setCell (Nat.le_refl _) _).setCell (Nat.le_refl _) _).setCell (Nat.le_refl _) _).setCell (Nat.le_refl _) _).setCell (Nat.le_refl _) _⟩
    ·
      by_cases hdash : d.data.toList = [45]
      ·
        have Q := Lib.hid (PB.out v 0 0 False inferInstance (.inr ⟨hno, fun h => h⟩) (.inl ⟨hdash, rfl, rfl⟩))
        obtain rfl : d = ⟨#[45]⟩ := bytes_eq hdash
        clear HAT hdash PB hno
        have TN := Lib.hid (TX.out ⟨(dotP a).1, (dotP a).2.1, (dotP b).1, (dotP b).2.1, v, 0⟩)
        clear TX
        go_upto_region 13 with (go_at_call 15; refine (TN.out _ (below_alloc K4.out _)).mono ?_; rintro en w6 ⟨rfl, hb⟩; have B6 := Lib.hid (blk_below (blk_new w4 _) hb); have D6 := Lib.hid (blk_below (blk_below D4.out (below_alloc (Below.refl _ _) _)) hb); have K6 := Lib.hid (below_step (below_alloc K4.out _) hb); clear hb)
        obtain ⟨n0, n1, n2, n3, n4, n5⟩ := cells6 B6.out
        obtain ⟨d0, d1, d2, d3, d4, d5⟩ := cells6 D6.out
        have g0 := blk_frozen D6.out 0
        have g1 := blk_frozen D6.out 1
        have g2 := blk_frozen D6.out 2
        have g3 := blk_frozen D6.out 3
        have g4 := blk_frozen D6.out 4
        have g5 := blk_frozen D6.out 5
        generalize hz : nodT ⟨(dotP a).1, (dotP a).2.1, (dotP b).1, (dotP b).2.1, v, 0⟩ = z at *
        clear D4 K4 TN ND s3 LT hz
        generalize (dotP a).2.2 = e1 at *
        generalize (dotP b).2.2 = e2 at *
        rcases e6a with rfl | rfl
        · skip
          rcases e6b with rfl | rfl
          · skip
            have E := Lib.hid (show nodP s = (zN, 6) from Q.out.trans (if_neg (fun q => q.2.2.1)))
            clear Q
            go_wp2
            refine bodyPost_ret (res6 rfl _ _ w.heap.size 25 #[.int .i64 0, .int .i64 0, .int .i64 0, .int .i64 0, .int .i64 0, .int .i32 0] (0, 0) _ rfl (blk_put (blk_put (blk_put (blk_put (blk_put (blk_put D6.out 0 _ rfl) 1 _ rfl) 2 _ rfl) 3 _ rfl) 4 _ rfl) 5 _ rfl) Tryz.underlying25 rfl (by kernel_rfl)) rfl ?_
            unfold PrP
            rw [E.out]
            exact ⟨rfl, ((((((K6.out).setCell (Nat.le_refl _) _).setCell (Nat.le_refl _) _).setCell (Nat.le_refl _) _).setCell (Nat.le_refl _) _).setCell (Nat.le_refl _) _).setCell (Nat.le_refl _) _⟩
          · skip
            have E := Lib.hid (show nodP s = (zN, 6) from Q.out.trans (if_neg (fun q => absurd q.2.1 (by decide))))
            clear Q
            go_wp2
            refine bodyPost_ret (res6 rfl _ _ w.heap.size 25 #[.int .i64 0, .int .i64 0, .int .i64 0, .int .i64 0, .int .i64 0, .int .i32 0] (0, 0) _ rfl (blk_put (blk_put (blk_put (blk_put (blk_put (blk_put D6.out 0 _ rfl) 1 _ rfl) 2 _ rfl) 3 _ rfl) 4 _ rfl) 5 _ rfl) Tryz.underlying25 rfl (by kernel_rfl)) rfl ?_
            unfold PrP
            rw [E.out]
            exact ⟨rfl, ((((((K6.out).setCell (Nat.le_refl _) _).setCell (Nat.le_refl _) _).setCell (Nat.le_refl _) _).setCell (Nat.le_refl _) _).setCell (Nat.le_refl _) _).setCell (Nat.le_refl _) _⟩
        · skip
          have E := Lib.hid (show nodP s = (zN, 6) from Q.out.trans (if_neg (fun q => absurd q.1.1 (by decide))))
          clear Q
          go_wp2
          refine bodyPost_ret (res6 rfl _ _ w.heap.size 25 #[.int .i64 0, .int .i64 0, .int .i64 0, .int .i64 0, .int .i64 0, .int .i32 0] (0, 0) _ rfl (blk_put (blk_put (blk_put (blk_put (blk_put (blk_put D6.out 0 _ rfl) 1 _ rfl) 2 _ rfl) 3 _ rfl) 4 _ rfl) 5 _ rfl) Tryz.underlying25 rfl (by kernel_rfl)) rfl ?_
          unfold PrP
          rw [E.out]
          exact ⟨rfl, ((((((K6.out).setCell (Nat.le_refl _) _).setCell (Nat.le_refl _) _).setCell (Nat.le_refl _) _).setCell (Nat.le_refl _) _).setCell (Nat.le_refl _) _).setCell (Nat.le_refl _) _⟩
      ·
        have Q := Lib.hid (PB.out v (bynP d).1 (bynP d).2 False inferInstance (.inr ⟨hno, fun h => h⟩) (.inr ⟨hdash, rfl, rfl⟩))
        have hdd : (d.toList == [45]) = false := beq_eq_false_iff_ne.2 fun q => hdash (by rw [← Lib.toList_data]; exact q)
        clear HAT hdash PB hno
        have TN := Lib.hid (TX.out ⟨(dotP a).1, (dotP a).2.1, (dotP b).1, (dotP b).2.1, v, (bynP d).1⟩)
        clear TX
        go_upto_region 13 with (first
          | (go_at_call 52; refine (ND.out _ (below_alloc K4.out _)).mono ?_; rintro en w5 ⟨rfl, hb⟩; have B5 := Lib.hid (blk_below (blk_new w4 _) hb); have D5 := Lib.hid (blk_below (blk_below D4.out (below_alloc (Below.refl _ _) _)) hb); have K5 := Lib.hid (below_step (below_alloc K4.out _) hb); obtain ⟨n0, n1, n2, n3, n4, n5⟩ := cells6 B5.out; have m5 := blk_frozen B5.out 5; clear hb)
          | (go_at_call 15; refine (TN.out _ (K5.out.setCell (Nat.le_of_lt LT.out) _)).mono ?_; rintro en w6 ⟨rfl, hb⟩; have B6 := Lib.hid (blk_below (blk_put B5.out 5 _ rfl) hb); have D6 := Lib.hid (blk_below ((Fr.set w5 w4.heap.size 5 _).blk D5.out (Nat.ne_of_lt LT.out)) hb); have K6 := Lib.hid (below_step (K5.out.setCell (Nat.le_of_lt LT.out) _) hb); clear hb n0 n1 n2 n3 n4 n5 m5))
        obtain ⟨n0, n1, n2, n3, n4, n5⟩ := cells6 B6.out
        obtain ⟨d0, d1, d2, d3, d4, d5⟩ := cells6 D6.out
        have g0 := blk_frozen D6.out 0
        have g1 := blk_frozen D6.out 1
        have g2 := blk_frozen D6.out 2
        have g3 := blk_frozen D6.out 3
        have g4 := blk_frozen D6.out 4
        have g5 := blk_frozen D6.out 5
        generalize hz : nodT ⟨(dotP a).1, (dotP a).2.1, (dotP b).1, (dotP b).2.1, v, (bynP d).1⟩ = z at *
        clear D4 K4 TN ND s3 LT hz D5 K5 B5 hdd
        generalize (dotP a).2.2 = e1 at *
        generalize (dotP b).2.2 = e2 at *
        generalize (bynP d).2 = e3 at *
        rcases e6d with rfl | rfl
        · skip
          rcases e6a with rfl | rfl
          · skip
            rcases e6b with rfl | rfl
            · skip
              have E := Lib.hid (show nodP s = (zN, 6) from Q.out.trans (if_neg (fun q => q.2.2.1)))
              clear Q
              go_wp2
              refine bodyPost_ret (res6 rfl _ _ w.heap.size 25 #[.int .i64 0, .int .i64 0, .int .i64 0, .int .i64 0, .int .i64 0, .int .i32 0] (0, 0) _ rfl (blk_put (blk_put (blk_put (blk_put (blk_put (blk_put D6.out 0 _ rfl) 1 _ rfl) 2 _ rfl) 3 _ rfl) 4 _ rfl) 5 _ rfl) Tryz.underlying25 rfl (by kernel_rfl)) rfl ?_
              unfold PrP
              rw [E.out]
              exact ⟨rfl, ((((((K6.out).setCell (Nat.le_refl _) _).setCell (Nat.le_refl _) _).setCell (Nat.le_refl _) _).setCell (Nat.le_refl _) _).setCell (Nat.le_refl _) _).setCell (Nat.le_refl _) _⟩
            · skip
              have E := Lib.hid (show nodP s = (zN, 6) from Q.out.trans (if_neg (fun q => absurd q.2.1 (by decide))))
              clear Q
              go_wp2
              refine bodyPost_ret (res6 rfl _ _ w.heap.size 25 #[.int .i64 0, .int .i64 0, .int .i64 0, .int .i64 0, .int .i64 0, .int .i32 0] (0, 0) _ rfl (blk_put (blk_put (blk_put (blk_put (blk_put (blk_put D6.out 0 _ rfl) 1 _ rfl) 2 _ rfl) 3 _ rfl) 4 _ rfl) 5 _ rfl) Tryz.underlying25 rfl (by kernel_rfl)) rfl ?_
              unfold PrP
              rw [E.out]
              exact ⟨rfl, ((((((K6.out).setCell (Nat.le_refl _) _).setCell (Nat.le_refl _) _).setCell (Nat.le_refl _) _).setCell (Nat.le_refl _) _).setCell (Nat.le_refl _) _).setCell (Nat.le_refl _) _⟩
          · skip
            have E := Lib.hid (show nodP s = (zN, 6) from Q.out.trans (if_neg (fun q => absurd q.1.1 (by decide))))
            clear Q
            go_wp2
            refine bodyPost_ret (res6 rfl _ _ w.heap.size 25 #[.int .i64 0, .int .i64 0, .int .i64 0, .int .i64 0, .int .i64 0, .int .i32 0] (0, 0) _ rfl (blk_put (blk_put (blk_put (blk_put (blk_put (blk_put D6.out 0 _ rfl) 1 _ rfl) 2 _ rfl) 3 _ rfl) 4 _ rfl) 5 _ rfl) Tryz.underlying25 rfl (by kernel_rfl)) rfl ?_
            unfold PrP
            rw [E.out]
            exact ⟨rfl, ((((((K6.out).setCell (Nat.le_refl _) _).setCell (Nat.le_refl _) _).setCell (Nat.le_refl _) _).setCell (Nat.le_refl _) _).setCell (Nat.le_refl _) _).setCell (Nat.le_refl _) _⟩
        · skip
          rcases e6a with rfl | rfl
          · skip
            have E := Lib.hid (show nodP s = (zN, 6) from Q.out.trans (if_neg (fun q => absurd q.1.2 (by decide))))
            clear Q
            go_wp2
            refine bodyPost_ret (res6 rfl _ _ w.heap.size 25 #[.int .i64 0, .int .i64 0, .int .i64 0, .int .i64 0, .int .i64 0, .int .i32 0] (0, 0) _ rfl (blk_put (blk_put (blk_put (blk_put (blk_put (blk_put D6.out 0 _ rfl) 1 _ rfl) 2 _ rfl) 3 _ rfl) 4 _ rfl) 5 _ rfl) Tryz.underlying25 rfl (by kernel_rfl)) rfl ?_
            unfold PrP
            rw [E.out]
            exact ⟨rfl, ((((((K6.out).setCell (Nat.le_refl _) _).setCell (Nat.le_refl _) _).setCell (Nat.le_refl _) _).setCell (Nat.le_refl _) _).setCell (Nat.le_refl _) _).setCell (Nat.le_refl _) _⟩
          · skip
            have E := Lib.hid (show nodP s = (zN, 6) from Q.out.trans (if_neg (fun q => absurd q.1.2 (by decide))))
            clear Q
            go_wp2
            refine bodyPost_ret (res6 rfl _ _ w.heap.size 25 #[.int .i64 0, .int .i64 0, .int .i64 0, .int .i64 0, .int .i64 0, .int .i32 0] (0, 0) _ rfl (blk_put (blk_put (blk_put (blk_put (blk_put (blk_put D6.out 0 _ rfl) 1 _ rfl) 2 _ rfl) 3 _ rfl) 4 _ rfl) 5 _ rfl) Tryz.underlying25 rfl (by kernel_rfl)) rfl ?_
            unfold PrP
            rw [E.out]
            exact ⟨rfl, ((((((K6.out).setCell (Nat.le_refl _) _).setCell (Nat.le_refl _) _).setCell (Nat.le_refl _) _).setCell (Nat.le_refl _) _).setCell (Nat.le_refl _) _).setCell (Nat.le_refl _) _⟩
  · have E := Lib.hid (nodP_len (s := s) (by rw [← PS.out, List.length_map]; exact h4))
    have hne : ((ps.length : Int) != 4) = true := bne_iff_ne.2 (by omega)
    obtain ⟨d0, d1, d2, d3, d4, d5⟩ := cells6 D0.out
    have g0 := blk_frozen D0.out 0
    have g1 := blk_frozen D0.out 1
    have g2 := blk_frozen D0.out 2
    have g3 := blk_frozen D0.out 3
    have g4 := blk_frozen D0.out 4
    have g5 := blk_frozen D0.out 5
    clear DP AT BN TX SB PS PL W1
    go_wp2
    refine bodyPost_ret (res6 rfl _ _ w.heap.size 25 #[.int .i64 0, .int .i64 0, .int .i64 0, .int .i64 0, .int .i64 0, .int .i32 0] (0, 0) _ rfl (blk_put (blk_put (blk_put (blk_put (blk_put (blk_put D0.out 0 _ rfl) 1 _ rfl) 2 _ rfl) 3 _ rfl) 4 _ rfl) 5 _ rfl) Tryz.underlying25 rfl (by kernel_rfl)) rfl ?_
    unfold PrP
    rw [E.out]
    exact ⟨rfl, ((((((K1.out).setCell (Nat.le_refl _) _).setCell (Nat.le_refl _) _).setCell (Nat.le_refl _) _).setCell (Nat.le_refl _) _).setCell (Nat.le_refl _) _).setCell (Nat.le_refl _) _⟩
end Go.Proofs.YtamggklblaigpaaGreatDoor.Nx

namespace Go.Proofs.YtamggklblaigpaaGreatDoor.Nx
open Go Go.RowKit Go.Proofs Go.Proofs.YtamggklblaigpaaGreatDoorW.PrintWords Go.Proofs.YtamggklblaigpaaGreatDoor.Kit Go.Proofs.YtamggklblaigpaaGreatDoor.PAll
set_option linter.unusedSimpArgs false
set_option linter.unusedVariables false
def ofV (a0 a1 a2 a3 a4 : Int) : Int × Int × Int × Int × Int × Int := if a2 > 0 then (a0, a1, 1, a2, a3, a4) else (a0, a1, 0, 0, a3, a4)
set_option maxHeartbeats 4000000 in
set_option maxRecDepth 100000 in
theorem of_any (a0 a1 a2 a3 a4 : Int) (w : World) : Calls Tryz.prog 24 #[.int .i64 a0, .int .i64 a1, .int .i64 a2, .int .i64 a3, .int .i32 a4] w fun e w' => e = .returned (.agg #[.int .i64 (ofV a0 a1 a2 a3 a4).1, .int .i64 (ofV a0 a1 a2 a3 a4).2.1, .int .i64 (ofV a0 a1 a2 a3 a4).2.2.1, .int .i64 (ofV a0 a1 a2 a3 a4).2.2.2.1, .int .i64 (ofV a0 a1 a2 a3 a4).2.2.2.2.1, .int .i32 (ofV a0 a1 a2 a3 a4).2.2.2.2.2]) ∧ Below w.heap.size w w' := by
  by_cases h : 0 < a2
  · have E := Lib.hid (show ofV a0 a1 a2 a3 a4 = (a0, a1, 1, a2, a3, a4) from if_pos h)
    have hd : decide (0 < a2) = true := decide_eq_true h
    go_enter Tryz.func24, Tryz.ntmps24
    go_wp2
    refine bodyPost_ret (results_cell_row rfl _ _ w.heap.size 25 #[.int .i64 a0, .int .i64 a1, .int .i64 1, .int .i64 a2, .int .i64 a3, .int .i32 a4] (0, 0) _ rfl (blk_below (blk_new w _) (below_alloc (Below.refl _ _) _)) Tryz.underlying25 rfl (by kernel_rfl)) rfl ?_
    rw [E.out]
    exact ⟨rfl, below_alloc (below_alloc (Below.refl _ _) _) _⟩
  · have E := Lib.hid (show ofV a0 a1 a2 a3 a4 = (a0, a1, 0, 0, a3, a4) from if_neg h)
    have hd : decide (0 < a2) = false := decide_eq_false h
    go_enter Tryz.func24, Tryz.ntmps24
    go_wp2
    refine bodyPost_ret (results_cell_row rfl _ _ w.heap.size 25 #[.int .i64 a0, .int .i64 a1, .int .i64 0, .int .i64 0, .int .i64 a3, .int .i32 a4] (0, 0) _ rfl (blk_below (blk_new w _) (below_alloc (Below.refl _ _) _)) Tryz.underlying25 rfl (by kernel_rfl)) rfl ?_
    rw [E.out]
    exact ⟨rfl, below_alloc (below_alloc (Below.refl _ _) _) _⟩
end Go.Proofs.YtamggklblaigpaaGreatDoor.Nx

/- Layer 9: the contracts of node.Text, node.Parse, of the reference's Parse of dots and of the statements' own of, as the printed texts call them. -/
namespace Go.Proofs.YtamggklblaigpaaGreatDoor.PAll
open Go Go.RowKit Go.Proofs Go.Proofs.YtamggklblaigpaaGreatDoorW.PrintWords Go.Proofs.YtamggklblaigpaaGreatDoor.Dx Go.Proofs.YtamggklblaigpaaGreatDoor.Nx

abbrev GOK (w : World) : Prop := NOK w
theorem GOK_below {w w' : World} (h : GOK w) (hb : Below w.heap.size w w') : GOK w' := h.below hb
def node_Text.f (a b c d e f : Int) : Option (ByteArray × Int) := some (nodT ⟨a, b, c, d, e, f⟩)
def node_Parse.f (s : ByteArray) : Option (Int × Int × Int × Int × Int × Int × Int) := if s.size ≤ 1000000 then some ((nodP s).1.r, (nodP s).1.c, (nodP s).1.p, (nodP s).1.q, (nodP s).1.t, (nodP s).1.u, (nodP s).2) else none
def redpencilref04_Parse.f (s : ByteArray) : Option (Int × Int × Bool) := if s.size ≤ 1000000 then some (refP s) else none
def redpencillaw09_of.f (a0 a1 a2 a3 a4 : Int) : Option (Int × Int × Int × Int × Int × Int) := some (ofV a0 a1 a2 a3 a4)
theorem node_Text.calls (a0_0 a0_1 a0_2 a0_3 a0_4 a0_5 : Int) (r1 : ByteArray) (r2 : Int) (w : World) (hG : GOK w) (h : node_Text.f a0_0 a0_1 a0_2 a0_3 a0_4 a0_5 = some (r1, r2)) :
    Calls Tryz.prog 15 #[.agg #[.int .i64 a0_0, .int .i64 a0_1, .int .i64 a0_2, .int .i64 a0_3, .int .i64 a0_4, .int .i32 a0_5]] w fun e w' => e = .returned (.tuple #[.string r1, .int .i64 r2]) ∧ Below w.heap.size w w' := by
  injection h with h
  have h1 : (nodT ⟨a0_0, a0_1, a0_2, a0_3, a0_4, a0_5⟩).1 = r1 := by rw [h]
  have h2 : (nodT ⟨a0_0, a0_1, a0_2, a0_3, a0_4, a0_5⟩).2 = r2 := by rw [h]
  subst h1 h2
  exact nText_any ⟨a0_0, a0_1, a0_2, a0_3, a0_4, a0_5⟩ w hG
theorem node_Parse.calls (a0 : ByteArray) (r1 r2 r3 r4 r5 r6 r7 : Int) (w : World) (hG : GOK w) (h : node_Parse.f a0 = some (r1, r2, r3, r4, r5, r6, r7)) :
    Calls Tryz.prog 35 #[.string a0] w fun e w' => e = .returned (.tuple #[.agg #[.int .i64 r1, .int .i64 r2, .int .i64 r3, .int .i64 r4, .int .i64 r5, .int .i32 r6], .int .i64 r7]) ∧ Below w.heap.size w w' := by
  unfold node_Parse.f at h
  split at h
  · simp only [Option.some.injEq, Prod.mk.injEq] at h
    obtain ⟨rfl, rfl, rfl, rfl, rfl, rfl, rfl⟩ := h
    exact nParse_any a0 ‹_› w hG
  · cases h
theorem redpencilref04_Parse.calls (a0 : ByteArray) (r1 r2 : Int) (r3 : Bool) (w : World) (h : redpencilref04_Parse.f a0 = some (r1, r2, r3)) :
    Calls Tryz.prog 32 #[.string a0] w fun e w' => e = .returned (.tuple #[.agg #[.int .i64 r1, .int .i64 r2], .bool r3]) ∧ Below w.heap.size w w' := by
  unfold redpencilref04_Parse.f at h
  split at h
  · injection h with h
    have h1 : (refP a0).1 = r1 := by rw [h]
    have h2 : (refP a0).2.1 = r2 := by rw [h]
    have h3 : (refP a0).2.2 = r3 := by rw [h]
    subst h1 h2 h3
    exact rparse_any a0 ‹_› w
  · cases h
theorem redpencillaw09_of.calls (a0 a1 a2 a3 a4 : Int) (r1 r2 r3 r4 r5 r6 : Int) (w : World) (h : redpencillaw09_of.f a0 a1 a2 a3 a4 = some (r1, r2, r3, r4, r5, r6)) :
    Calls Tryz.prog 24 #[.int .i64 a0, .int .i64 a1, .int .i64 a2, .int .i64 a3, .int .i32 a4] w fun e w' => e = .returned (.agg #[.int .i64 r1, .int .i64 r2, .int .i64 r3, .int .i64 r4, .int .i64 r5, .int .i32 r6]) ∧ Below w.heap.size w w' := by
  injection h with h
  have e : ofV a0 a1 a2 a3 a4 = (r1, r2, r3, r4, r5, r6) := h
  have := of_any a0 a1 a2 a3 a4 w
  rw [e] at this
  exact this
end Go.Proofs.YtamggklblaigpaaGreatDoor.PAll
