/- Numbers in hexadecimal, and the names of runes, plain law; no program is named here. -/
import Derived.Test.YtphgoaacmkagmaaDoorLe
import Derived.Lib.Case
namespace Go.Proofs.YtphgoaacmkagmaaDoor.Hx
open Go Go.Proofs Go.RowKit Go.Proofs.YtphgoaacmkagmaaDoor.Rn

/-- A digit, in small and in great letters. -/
def dlo (n : Nat) : UInt8 := if n < 10 then UInt8.ofNat (48 + n) else UInt8.ofNat (87 + n)
def dup (n : Nat) : UInt8 := if n < 10 then UInt8.ofNat (48 + n) else UInt8.ofNat (55 + n)
/-- The digits of a number, at most so many. -/
def hexD : Nat → Nat → List Nat
  | 0, _ => []
  | k + 1, n => if n < 16 then [n] else hexD k (n / 16) ++ [n % 16]
def hexL (n : Nat) : List UInt8 := (hexD 8 n).map dlo
def hexU (n : Nat) : List UInt8 := (hexD 8 n).map dup
def nameL (n : Nat) : List UInt8 := [85, 43] ++ (List.replicate (4 - (hexD 8 n).length) 48 ++ hexU n)
def nameP (n : Nat) : ByteArray := ⟨(nameL n).toArray⟩
/-- What a digit is worth. -/
def hv (c : UInt8) : Option Nat := if 48 ≤ c.toNat ∧ c.toNat ≤ 57 then some (c.toNat - 48) else if 65 ≤ c.toNat ∧ c.toNat ≤ 70 then some (c.toNat - 55) else none
def hexV (l : List UInt8) : Nat := l.foldl (fun n c => 16 * n + (hv c).getD 0) 0
/-- What Name returns. -/
def namP (r : Int) : ByteArray × Int := if okRune r then (nameP r.toNat, 0) else (⟨#[]⟩, 13)
/-- What ByName returns. -/
def bynP (s : ByteArray) : Int × Int :=
  if okRune (hexV (s.data.toList.drop 2)) ∧ s.size ≤ 8 ∧ (nameP (hexV (s.data.toList.drop 2))).data.toList = s.data.toList then ((hexV (s.data.toList.drop 2) : Nat), 0) else (0, 6)

theorem hexD_lt : ∀ (k n : Nat), ∀ d ∈ hexD k n, d < 16
  | 0, _, d, h => by simp [hexD] at h
  | k + 1, n, d, h => by
    unfold hexD at h
    split at h
    · simp at h; omega
    · rcases List.mem_append.1 h with h | h
      · exact hexD_lt k _ d h
      · simp at h; omega
theorem up_lo : ∀ n, n < 16 → Lib.upperB (dlo n) = dup n := by decide
theorem lo_small : ∀ n, n < 16 → (dlo n).toNat < 128 := by decide
theorem hv_dup : ∀ n, n < 16 → hv (dup n) = some n := by decide
theorem hv_zero : hv 48 = some 0 := by decide
theorem upper (n : Nat) : (hexL n).map Lib.upperB = hexU n := by
  unfold hexL hexU
  rw [List.map_map]
  apply List.map_congr_left
  intro d hd
  exact up_lo d (hexD_lt 8 n d hd)
theorem ascii (n : Nat) : ∀ (j : Nat) (b : UInt8), (hexL n)[j]? = some b → b.toNat < 128 := by
  intro j b hj
  have hb := List.mem_of_getElem? hj
  unfold hexL at hb
  obtain ⟨d, hd, rfl⟩ := List.mem_map.1 hb
  exact lo_small d (hexD_lt 8 n d hd)
theorem hexV_app (a b : List UInt8) : hexV (a ++ b) = b.foldl (fun n c => 16 * n + (hv c).getD 0) (hexV a) := by unfold hexV; rw [List.foldl_append]
theorem hexV_zeros : ∀ k, hexV (List.replicate k 48) = 0
  | 0 => rfl
  | k + 1 => by rw [List.replicate_succ', hexV_app, hexV_zeros k]; rfl
theorem fold_hex : ∀ (k n : Nat), n < 16 ^ k → ((hexD k n).map dup).foldl (fun n c => 16 * n + (hv c).getD 0) 0 = n
  | 0, n, h => by simp at h; subst h; rfl
  | k + 1, n, h => by
    unfold hexD
    by_cases q : n < 16
    · rw [if_pos q]
      simp [hv_dup n q]
    · rw [if_neg q, List.map_append, List.foldl_append, fold_hex k (n / 16) (by rw [Nat.pow_succ] at h; omega)]
      simp [hv_dup (n % 16) (by omega)]
      omega
theorem hexV_pad (k n : Nat) (h : n < 4294967296) : hexV (List.replicate k 48 ++ hexU n) = n := by
  rw [hexV_app, hexV_zeros]
  exact fold_hex 8 n (by omega)
theorem all_pad (k n : Nat) : ∀ c ∈ List.replicate k 48 ++ hexU n, (hv c).isSome = true := by
  intro c hc
  rcases List.mem_append.1 hc with h | h
  · rw [(List.mem_replicate.1 h).2, hv_zero]; rfl
  · unfold hexU at h
    obtain ⟨d, hd, rfl⟩ := List.mem_map.1 h
    rw [hv_dup d (hexD_lt 8 n d hd)]
    rfl
theorem nameL_drop (n : Nat) : (nameL n).drop 2 = List.replicate (4 - (hexD 8 n).length) 48 ++ hexU n := rfl
theorem hexD_six {n : Nat} (h : n < 16777216) : (hexD 8 n).length ≤ 6 := by
  have key : ∀ (k n : Nat), n < 16 ^ k → ∀ f, (hexD f n).length ≤ max k 1 := by
    intro k
    induction k with
    | zero => intro n h f; have : n = 0 := by simpa using h
              subst this; cases f <;> simp [hexD]
    | succ k ih =>
      intro n h f
      cases f with
      | zero => simp [hexD]
      | succ f =>
        unfold hexD
        split
        · simp
        · have := ih (n / 16) (by rw [Nat.pow_succ] at h; omega) f
          have hk : 0 < k := by
            rcases Nat.eq_zero_or_pos k with rfl | q
            · simp at h; omega
            · exact q
          simp; omega
  exact key 6 n h 8
theorem nameL_len {n : Nat} (h : n < 16777216) : (nameL n).length ≤ 8 ∧ 6 ≤ (nameL n).length := by
  have h1 := hexD_six h
  unfold nameL hexU
  simp
  omega
theorem byn_yes {r : Nat} (h : okRune (r : Int)) : bynP (nameP r) = ((r : Int), 0) := by
  have hr : r < 16777216 := by have := h.2.1; omega
  have e : hexV ((nameP r).data.toList.drop 2) = r := by
    show hexV ((nameL r).drop 2) = r
    rw [nameL_drop]
    exact hexV_pad _ r (by omega)
  unfold bynP
  rw [e, if_pos ⟨h, (nameL_len hr).1, rfl⟩]
theorem byn_no {s : ByteArray} (h : ∀ r : Nat, okRune (r : Int) → nameP r ≠ s) : bynP s = (0, 6) := by
  unfold bynP
  rw [if_neg]
  rintro ⟨h1, _, h2⟩
  refine h _ h1 ?_
  apply ByteArray.ext
  rw [← Array.toList_inj]
  exact h2
end Go.Proofs.YtphgoaacmkagmaaDoor.Hx
