/- Numbers in decimal and the texts of dots, plain law; no program is named here. -/
/- The reference's Text of dots (plain law of the printed walk). -/
/- The walk of the reference's Parse of dots. -/
/- Texts of dots: the walks of dot.Text and dot.Parse. -/
import Derived.Lib.AtoiAll
import Derived.Lib.ItoaNum
import Derived.Lib.IndexMore
import Derived.Lib.Strings
import Derived.Test.YtamggklblaigpaaGreatDoorPAllx5
import Derived.Test.YtamggklblaigpaaGreatDoorNma
import Derived.BigCall
import Derived.Laws.ResultCell
import Derived.Laws.Rows
import Derived.Test.YtamggklblaigpaaGreatDoorShelf
import Derived.Test.YtamggklblaigpaaGreatDoorPAllx3
import Derived.Lib.BufferKept
import Derived.Lib.AppendIntMem
import Derived.Lib.AtoiAllCases
namespace Go.Proofs.YtamggklblaigpaaGreatDoor.Dx
open Go

def okDot (r c : Int) : Prop := 1 ≤ r ∧ r ≤ 64 ∧ 1 ≤ c ∧ c ≤ 4294967295
instance (r c : Int) : Decidable (okDot r c) := by unfold okDot; infer_instance
def rootL : List UInt8 := [114, 111, 111, 116]
/-- The text of a dot. -/
def dtL (r c : Int) : List UInt8 := if r = 0 ∧ c = 0 then rootL else Lib.decDigits r.toNat ++ (46 :: Lib.decDigits c.toNat)
def dtP (r c : Int) : ByteArray := ⟨(dtL r c).toArray⟩
/-- What Text returns. -/
def dotT (r c : Int) : ByteArray × Int := if okDot r c ∨ (r = 0 ∧ c = 0) then (dtP r c, 0) else (⟨#[]⟩, 2)
def decV (l : List UInt8) : Nat := l.foldl (fun n c => 10 * n + (c.toNat - 48)) 0
/-- What Parse returns. -/
def dotP (s : ByteArray) : Int × Int × Int :=
  if s.data.toList = rootL then (0, 0, 0)
  else if okDot (decV (Lib.cut s.data.toList [46]).1) (decV (Lib.cut s.data.toList [46]).2.1) ∧ dtL (decV (Lib.cut s.data.toList [46]).1) (decV (Lib.cut s.data.toList [46]).2.1) = s.data.toList then ((decV (Lib.cut s.data.toList [46]).1 : Nat), (decV (Lib.cut s.data.toList [46]).2.1 : Nat), 0)
  else (0, 0, 6)

theorem dec_step {u : Nat} (h : ¬ u < 10) : Lib.decDigits u = Lib.decDigits (u / 10) ++ [UInt8.ofNat (48 + u % 10)] := by
  conv => lhs; unfold Lib.decDigits
  rw [dif_neg h]
theorem dec_one {u : Nat} (h : u < 10) : Lib.decDigits u = [UInt8.ofNat (48 + u)] := by unfold Lib.decDigits; rw [dif_pos h]
theorem ofNat_toNat {n : Nat} (h : n < 256) : (UInt8.ofNat n).toNat = n := by rw [UInt8.toNat_ofNat']; omega
theorem dec_digit : ∀ u, ∀ c ∈ Lib.decDigits u, 48 ≤ c.toNat ∧ c.toNat ≤ 57 := by
  intro u
  induction u using Nat.strongRecOn with
  | _ u ih =>
    intro c hc
    by_cases h : u < 10
    · rw [dec_one h] at hc
      obtain rfl : c = UInt8.ofNat (48 + u) := by simpa using hc
      rw [ofNat_toNat (by omega)]
      omega
    · rw [dec_step h] at hc
      rcases List.mem_append.1 hc with hc | hc
      · exact ih (u / 10) (by omega) c hc
      · obtain rfl : c = UInt8.ofNat (48 + u % 10) := by simpa using hc
        rw [ofNat_toNat (by omega)]
        omega
theorem dec_ne (u : Nat) : Lib.decDigits u ≠ [] := by
  by_cases h : u < 10
  · rw [dec_one h]; simp
  · rw [dec_step h]; simp
theorem decV_app (l : List UInt8) (c : UInt8) : decV (l ++ [c]) = 10 * decV l + (c.toNat - 48) := by unfold decV; rw [List.foldl_append]; rfl
theorem decV_dec : ∀ u, decV (Lib.decDigits u) = u := by
  intro u
  induction u using Nat.strongRecOn with
  | _ u ih =>
    by_cases h : u < 10
    · rw [dec_one h]
      show 10 * 0 + ((UInt8.ofNat (48 + u)).toNat - 48) = u
      rw [ofNat_toNat (by omega)]
      omega
    · rw [dec_step h, decV_app, ih (u / 10) (by omega), ofNat_toNat (by omega)]
      omega
theorem pu_app : ∀ (a : List UInt8) (b : List UInt8) (acc v : Nat), Lib.parseUint10 acc a = .ok v → Lib.parseUint10 acc (a ++ b) = Lib.parseUint10 v b
  | [], b, acc, v, h => by
    simp only [Lib.parseUint10] at h
    injection h with h
    subst h
    rfl
  | c :: a, b, acc, v, h => by
    simp only [Lib.parseUint10] at h
    rw [List.cons_append]
    simp only [Lib.parseUint10]
    split at h
    · split at h
      · cases h
      · split at h
        · cases h
        · rename_i h1 h2 h3
          rw [if_pos h1, if_neg h2, if_neg h3]
          exact pu_app a b _ v h
    · cases h
theorem pu_one (acc d : Nat) (hd : d < 10) (h : acc * 10 + d < 9223372036854775808) : Lib.parseUint10 acc [UInt8.ofNat (48 + d)] = .ok (acc * 10 + d) := by
  have e : (UInt8.ofNat (48 + d)).toNat = 48 + d := ofNat_toNat (by omega)
  simp only [Lib.parseUint10, e]
  rw [if_pos (by omega), if_neg (by omega), if_neg (by omega)]
  congr 1
  omega
theorem pu_dec : ∀ u, u < 9223372036854775808 → Lib.parseUint10 0 (Lib.decDigits u) = .ok u := by
  intro u
  induction u using Nat.strongRecOn with
  | _ u ih =>
    intro hu
    by_cases h : u < 10
    · rw [dec_one h, pu_one 0 u h (by omega)]
      congr 1
      omega
    · rw [dec_step h, pu_app _ _ 0 (u / 10) (ih (u / 10) (by omega) (by omega)), pu_one _ _ (by omega) (by omega)]
      congr 1
      omega
theorem atoi_dec (u : Nat) (hu : u < 9223372036854775808) : Lib.atoiAll (Lib.decDigits u) = .ok (u : Int) := by
  cases hd : Lib.decDigits u with
  | nil => exact absurd hd (dec_ne u)
  | cons c r =>
    have hc := dec_digit u c (by rw [hd]; exact List.mem_cons_self)
    have hp := pu_dec u hu
    rw [hd] at hp
    unfold Lib.atoiAll
    have e : Lib.parseMag (c :: r) = .ok u := by unfold Lib.parseMag; rw [if_neg (by simp)]; exact hp
    have n43 : ¬ (c.toNat = 43 ∨ c.toNat = 45) := by omega
    simp only [if_neg n43, e]
    have n45 : ¬ c.toNat = 45 := by omega
    simp only [n45]
    simp
    omega
theorem cut_at (a b : List UInt8) (h : ∀ c ∈ a, c ≠ 46) : Lib.cut (a ++ (46 :: b)) [46] = (a, b, true) := by
  have hi : Lib.index (a ++ (46 :: b)) [46] = (a.length : Int) := by
    refine Lib.index_first (by simp) ?_ fun j hj => ?_
    · unfold Lib.occAt
      rw [List.drop_left]
      simp
    · unfold Lib.occAt
      rw [List.drop_append_of_le_length (by omega), List.drop_eq_getElem_cons hj]
      have := h _ (List.getElem_mem hj)
      have e : ((46 : UInt8) == a[j]) = false := beq_eq_false_iff_ne.2 (fun q => this q.symm)
      show (((46 : UInt8) == a[j]) && _) = false
      rw [e]
      rfl
  unfold Lib.cut
  rw [hi, if_pos (by omega)]
  simp
theorem cut_dec (r c : Nat) : Lib.cut (Lib.decDigits r ++ (46 :: Lib.decDigits c)) [46] = (Lib.decDigits r, Lib.decDigits c, true) :=
  cut_at _ _ fun d hd => by
    have := dec_digit r d hd
    intro q
    rw [q] at this
    exact absurd this (by decide)
theorem dtL_dot {r c : Int} (h : okDot r c) : dtL r c = Lib.decDigits r.toNat ++ (46 :: Lib.decDigits c.toNat) := by
  unfold dtL
  rw [if_neg (by have := h.1; omega)]
theorem dot_not_root {r c : Int} (h : okDot r c) : dtL r c ≠ rootL := by
  rw [dtL_dot h]
  intro q
  cases hd : Lib.decDigits r.toNat with
  | nil => exact dec_ne _ hd
  | cons x l =>
    rw [hd] at q
    have hx := dec_digit r.toNat x (by rw [hd]; exact List.mem_cons_self)
    have : x = 114 := (List.cons.inj q).1
    rw [this] at hx
    exact absurd hx (by decide)
theorem dotP_yes {r c : Int} (h : okDot r c) : dotP (dtP r c) = (r, c, 0) := by
  have e : (dtP r c).data.toList = dtL r c := rfl
  have hr : ((r.toNat : Nat) : Int) = r := Int.toNat_of_nonneg (by have := h.1; omega)
  have hc : ((c.toNat : Nat) : Int) = c := Int.toNat_of_nonneg (by have := h.2.2.1; omega)
  unfold dotP
  rw [e, if_neg (dot_not_root h)]
  have hcut : Lib.cut (dtL r c) [46] = (Lib.decDigits r.toNat, Lib.decDigits c.toNat, true) := by rw [dtL_dot h]; exact cut_dec _ _
  rw [hcut]
  simp only [decV_dec, hr, hc]
  rw [if_pos ⟨h, trivial⟩]
theorem dotP_root : dotP ⟨rootL.toArray⟩ = (0, 0, 0) := if_pos rfl
theorem dotP_no {s : ByteArray} (h0 : s.data.toList ≠ rootL) (h : ∀ r c, okDot r c → dtL r c ≠ s.data.toList) : dotP s = (0, 0, 6) := by
  unfold dotP
  rw [if_neg h0, if_neg (fun q => h _ _ q.1 q.2)]
theorem dec_len : ∀ (k u : Nat), u < 10 ^ (k + 1) → (Lib.decDigits u).length ≤ k + 1
  | 0, u, h => by rw [dec_one (by simpa using h)]; simp
  | k + 1, u, h => by
    by_cases q : u < 10
    · rw [dec_one q]; simp
    · have := dec_len k (u / 10) (by rw [Nat.pow_succ] at h; omega)
      rw [dec_step q, List.length_append]
      simp; omega
theorem dtL_len {r c : Int} (h : okDot r c ∨ (r = 0 ∧ c = 0)) : (dtL r c).length ≤ 20 := by
  rcases h with h | h
  · have h1 := dec_len 1 r.toNat (by have := h.2.1; omega)
    have h2 := dec_len 9 c.toNat (by have := h.2.2.2; omega)
    rw [dtL_dot h, List.length_append, List.length_cons]
    omega
  · unfold dtL
    rw [if_pos h]
    decide
end Go.Proofs.YtamggklblaigpaaGreatDoor.Dx

/- The reference's Parse of dots, plain law; no program is named here. -/
namespace Go.Proofs.YtamggklblaigpaaGreatDoor.Dx
open Go

def capM : Nat := 1099511627776
/-- One byte of a text: the number that is read (the first, or behind the point the second) grows, or the point comes. -/
def pst (st : Nat × Nat × Bool) (c : UInt8) : Option (Nat × Nat × Bool) :=
  if 48 ≤ c.toNat ∧ c.toNat ≤ 57 then some (if st.2.2 = true then (st.1, min capM (10 * st.2.1 + (c.toNat - 48)), true) else (min capM (10 * st.1 + (c.toNat - 48)), st.2.1, false))
  else if c.toNat = 46 ∧ st.2.2 = false then some (st.1, st.2.1, true) else none
def prun : List UInt8 → Nat × Nat × Bool → Option (Nat × Nat × Bool)
  | [], st => some st
  | c :: l, st => (pst st c).bind (prun l)
/-- What the reference's Parse returns. -/
def refP (s : ByteArray) : Int × Int × Bool :=
  if s.data.toList = rootL then (0, 0, true)
  else match prun s.data.toList (0, 0, false) with
    | none => (0, 0, false)
    | some st => if okDot st.1 st.2.1 ∧ dtL st.1 st.2.1 = s.data.toList then (st.1, st.2.1, true) else (0, 0, false)
theorem pst_d0 (a b : Nat) (c : UInt8) (h : 48 ≤ c.toNat) (h2 : c.toNat ≤ 57) : pst (a, b, false) c = some (min capM (10 * a + (c.toNat - 48)), b, false) := by
  unfold pst; rw [if_pos ⟨h, h2⟩]; rfl
theorem pst_d1 (a b : Nat) (c : UInt8) (h : 48 ≤ c.toNat) (h2 : c.toNat ≤ 57) : pst (a, b, true) c = some (a, min capM (10 * b + (c.toNat - 48)), true) := by
  unfold pst; rw [if_pos ⟨h, h2⟩]; rfl
theorem pst_p (a b : Nat) (c : UInt8) (h : c.toNat = 46) : pst (a, b, false) c = some (a, b, true) := by
  unfold pst; rw [if_neg (by omega), if_pos ⟨h, rfl⟩]
theorem pst_no (a b : Nat) (k : Bool) (c : UInt8) (h : ¬ (48 ≤ c.toNat ∧ c.toNat ≤ 57)) (h2 : ¬ (c.toNat = 46 ∧ k = false)) : pst (a, b, k) c = none := by
  unfold pst; rw [if_neg h, if_neg h2]
theorem refP_none {s : ByteArray} (h0 : s.data.toList ≠ rootL) (h : prun s.data.toList (0, 0, false) = none) : refP s = (0, 0, false) := by
  unfold refP; rw [if_neg h0, h]
theorem refP_some {s : ByteArray} {a b : Nat} {k : Bool} (h0 : s.data.toList ≠ rootL) (h : prun s.data.toList (0, 0, false) = some (a, b, k)) : refP s = if okDot a b ∧ dtL a b = s.data.toList then ((a : Int), (b : Int), true) else (0, 0, false) := by
  unfold refP; rw [if_neg h0, h]
theorem cap_min (n q : Nat) (h : 48 ≤ q) : (if 10 * (n : Int) + q - 48 < 1099511627776 then 10 * (n : Int) + q - 48 else 1099511627776) = ((min capM (10 * n + (q - 48)) : Nat) : Int) := by
  unfold capM
  split <;> omega
theorem cap_min2 (n q : Nat) (h : 48 ≤ q) : min (1099511627776 : Int) (10 * (n : Int) + q - 48) = ((min capM (10 * n + (q - 48)) : Nat) : Int) := by
  unfold capM
  omega
theorem bytes_eq {s t : ByteArray} (h : s.data.toList = t.data.toList) : s = t := ByteArray.ext (Array.toList_inj.1 h)
end Go.Proofs.YtamggklblaigpaaGreatDoor.Dx

namespace Go.Proofs.YtamggklblaigpaaGreatDoor.Dx
open Go Go.RowKit Go.Proofs.YtamggklblaigpaaGreatDoorW.PrintWords Go.Proofs.YtamggklblaigpaaGreatDoor.PAll

theorem wr64 {n : Int} (h0 : -9000000000000000000 ≤ n) (h1 : n ≤ 9000000000000000000) : wrap64 n = n := by simp only [wrap64]; omega
theorem dig_one : ∀ n : Fin 10, (⟨#[48, 49, 50, 51, 52, 53, 54, 55, 56, 57]⟩ : ByteArray).extract n.1 (n.1 + 1) = ⟨#[UInt8.ofNat (48 + n.1)]⟩ := by decide +kernel
theorem digits_val : ∀ (k n : Nat), n < 10 ^ (k + 1) → k < 20 → n < 9000000000000000000 → redpencilref04_Digits.f (k + 1) (n : Int) = some ⟨(Lib.decDigits n).toArray⟩ := by
  have one : ∀ (k n : Nat), n < 10 → redpencilref04_Digits.f (k + 1) (n : Int) = some ⟨(Lib.decDigits n).toArray⟩ := by
    intro k n h
    rw [redpencilref04_Digits.f, if_pos (by omega), if_pos (by omega), wr64 (by omega) (by omega), if_pos (by omega), if_pos (by omega), dec_one h, Int.toNat_natCast, show ((n : Int) + 1).toNat = n + 1 by omega, dig_one ⟨n, h⟩]
  intro k
  induction k with
  | zero => intro n h _ _; exact one 0 n (by simpa using h)
  | succ k ih =>
    intro n h hk hn
    by_cases q : n < 10
    · exact one (k + 1) n q
    · have e1 : wrap64 (Int.tdiv (n : Int) 10) = ((n / 10 : Nat) : Int) := by
        rw [Int.tdiv_eq_ediv_of_nonneg (by omega), wr64 (by omega) (by omega)]
        omega
      have e2 : Int.tmod (n : Int) 10 = ((n % 10 : Nat) : Int) := by
        rw [Int.tmod_eq_emod_of_nonneg (by omega)]
        omega
      have h10 : n / 10 < 10 ^ (k + 1) := by rw [Nat.pow_succ] at h; omega
      have l1 := dec_len k (n / 10) h10
      have hs : (⟨(Lib.decDigits (n / 10)).toArray⟩ : ByteArray).size + (⟨(Lib.decDigits (n % 10)).toArray⟩ : ByteArray).size ≤ 9223372036854775807 := by
        show (Lib.decDigits (n / 10)).toArray.size + (Lib.decDigits (n % 10)).toArray.size ≤ _
        rw [List.size_toArray, List.size_toArray, dec_one (show n % 10 < 10 by omega), List.length_singleton]
        omega
      rw [redpencilref04_Digits.f, if_neg (by omega), e1, e2, ih (n / 10) h10 (by omega) (by omega), Option.bind_some, one k (n % 10) (by omega), Option.bind_some, if_pos hs, dec_step q, dec_one (show n % 10 < 10 by omega)]
      congr 1
theorem text_val {r c : Int} (h : okDot r c ∨ (r = 0 ∧ c = 0)) : redpencilref04_Text.f 20 r c = some (dtP r c) := by
  unfold redpencilref04_Text.f redpencilref04_Root.f
  rcases h with h | ⟨rfl, rfl⟩
  · obtain ⟨h1, h2, h3, h4⟩ := h
    have E := dtL_dot ⟨h1, h2, h3, h4⟩
    obtain ⟨m, rfl⟩ : ∃ m : Nat, r = m := ⟨r.toNat, by omega⟩
    obtain ⟨n, rfl⟩ : ∃ n : Nat, c = n := ⟨c.toNat, by omega⟩
    have l1 := dec_len 1 m (by omega)
    have l2 := dec_len 9 n (by omega)
    have s1 : (⟨(Lib.decDigits m).toArray⟩ : ByteArray).size = (Lib.decDigits m).length := List.size_toArray ..
    have s2 : (⟨(Lib.decDigits n).toArray⟩ : ByteArray).size = (Lib.decDigits n).length := List.size_toArray ..
    rw [if_neg (by omega), Option.bind_some, if_neg (by simp), digits_val 19 m (by omega) (by omega) (by omega), Option.bind_some, if_pos (by omega), digits_val 19 n (by omega) (by omega) (by omega), Option.bind_some, if_pos (by rw [ByteArray.size_append, s1, s2]; show _ + 1 + _ ≤ _; omega)]
    congr 1
    unfold dtP
    rw [E, Int.toNat_natCast, Int.toNat_natCast]
    apply ByteArray.ext
    simp [ByteArray.data_append]
  · rfl
end Go.Proofs.YtamggklblaigpaaGreatDoor.Dx

namespace Go.Proofs.YtamggklblaigpaaGreatDoor.Dx
open Go Go.RowKit Go.Proofs Go.Proofs.YtamggklblaigpaaGreatDoorW.PrintWords Go.Proofs.YtamggklblaigpaaGreatDoor.Kit Go.Proofs.YtamggklblaigpaaGreatDoor.PAll
set_option linter.unusedSimpArgs false
set_option linter.unusedVariables false

def RpP (s : ByteArray) (w : World) (en : Ending) (w' : World) : Prop := en = .returned (.tuple #[.agg #[.int .i64 (refP s).1, .int .i64 (refP s).2.1], .bool (refP s).2.2]) ∧ Below w.heap.size w w'
theorem rvalid_be (r c : Int) (w : World) : Calls Tryz.prog 25 #[.agg #[.int .i64 r, .int .i64 c]] w fun e w' => e = .returned (.bool (decide (okDot r c))) ∧ Below w.heap.size w w' := by
  refine redpencilref04_Valid.calls r c _ w ?_
  unfold redpencilref04_Valid.f
  by_cases h1 : r > 0
  · rw [if_pos h1]
    by_cases h2 : r ≤ 64
    · rw [if_pos h2]
      by_cases h3 : c > 0
      · rw [if_pos h3]; congr 1; exact decide_eq_decide.2 (by unfold okDot; omega)
      · rw [if_neg h3, decide_eq_false (by unfold okDot; omega)]
    · rw [if_neg h2, decide_eq_false (by unfold okDot; omega)]
  · rw [if_neg h1, decide_eq_false (by unfold okDot; omega)]
theorem rtext_be (r c : Int) (h : okDot r c) (w : World) : Calls Tryz.prog 29 #[.agg #[.int .i64 r, .int .i64 c]] w fun e w' => e = .returned (.string (dtP r c)) ∧ Below w.heap.size w w' :=
  redpencilref04_Text.calls 20 r c _ w (text_val (.inl h))
theorem str_dec (a b : ByteArray) : (a.toList = b.toList) ↔ a = b := ⟨fun q => ByteArray.ext (Array.toList_inj.1 (by rw [← Lib.toList_data, ← Lib.toList_data]; exact q)), fun q => by rw [q]⟩
theorem res_ct {P : Program} {fn : Func} {p u : Tmp} {ty : TypeId} (h : fn.results = #[.cell p ty, .tmp u]) (tmps : Array Value) (w : World) (g : Nat) (t : TypeId) (cs : Array Value) (fr : Nat × Nat) (d : TypeDesc)
    (hp : tmps.getD p undef = .pointer (some ⟨g, 0, none⟩)) (hg : w.heap[g]? = some (.cells cs t fr))
    (hu : P.underlying ty = some d) (hd : (match d with | .struct _ | .array _ _ => true | _ => false) = true) (hi : (P.info? ty).map (·.size) = some cs.size) :
    (results fn tmps).run P w = .ok (.tuple #[.agg cs, tmps.getD u undef]) w := by
  rw [results_cell_tmp h, hp]
  simp only [asAddr, Sem.run_pure, Result.andThen]
  rw [run_loadVar_row w g t ty cs fr d hg hu hd hi]
set_option maxHeartbeats 8000000 in
set_option maxRecDepth 100000 in
theorem rparse_any (s : ByteArray) (hl : s.size ≤ 1000000) (w : World) : Calls Tryz.prog 32 #[.string s] w (RpP s w) := by
  by_cases h0 : s.data.toList = rootL
  · have E := Lib.hid (show refP s = (0, 0, true) from if_pos h0)
    obtain rfl : s = ⟨#[114, 111, 111, 116]⟩ := bytes_eq h0
    clear hl h0
    go_enter Tryz.func32, Tryz.ntmps32
    go_wp2
    refine bodyPost_ret (res_ct rfl _ _ w.heap.size 23 #[.int .i64 0, .int .i64 0] (0, 0) _ rfl (blk_new w _) Tryz.underlying23 rfl (by kernel_rfl)) rfl ?_
    unfold RpP
    rw [E.out]
    exact ⟨rfl, below_alloc (Below.refl _ _) _⟩
  · have hd : (s.toList == [114, 111, 111, 116]) = false := beq_eq_false_iff_ne.2 fun q => h0 (by rw [← Lib.toList_data]; exact q)
    have H0 := Lib.hid h0
    clear h0
    go_enter Tryz.func32, Tryz.ntmps32
    go_wp2
    go_loopw [5, 6] (fun vk vi wr => ∃ (i a b : Nat) (k : Bool), vk = .int .i64 (if k = true then 1 else 0) ∧ vi = .int .i64 i ∧ i ≤ s.size ∧ a ≤ capM ∧ b ≤ capM ∧ prun (s.data.toList.drop i) (a, b, k) = prun s.data.toList (0, 0, false) ∧ wr.heap[w.heap.size + 1]? = some (.cells #[.int .i64 a, .int .i64 b] 67 (0, 0)) ∧ wr.heap[w.heap.size]? = some (.cells #[.int .i64 0, .int .i64 0] 23 (0, 0)) ∧ Below w.heap.size w wr) (fun _ vi _ => s.size - (intOf vi).toNat)
    case atStart => exact ⟨0, 0, 0, false, rfl, rfl, by omega, by unfold capM; omega, by unfold capM; omega, rfl, (by have h := blk_new (w.alloc (.cells #[.int .i64 0, .int .i64 0] 23)) (.cells #[.int .i64 0, .int .i64 0] 67); rw [show (w.alloc (.cells #[.int .i64 0, .int .i64 0] 23)).heap.size = w.heap.size + 1 from Array.size_push ..] at h; exact h), blk_below (blk_new w _) (below_alloc (Below.refl _ _) _), below_alloc (below_alloc (Below.refl _ _) _) _⟩
    case round =>
      obtain ⟨i, a, b, k, rfl, rfl, hi, ha, hb, hr, hG, hD, hB⟩ := hrel
      by_cases hlt : i < s.size
      · have hlt2 : i < s.data.toList.length := by rw [← Lib.size_eq]; exact hlt
        have hc : ∀ W, (Instr.index 9 (.string s) (.int .i64 (i : Int))).run Tryz.prog W = .ok (.int .u8 ((s.data.toList[i]).toNat : Int)) W := fun W => by
          rw [run_index_string W 9 s .i64 _ Tryz.underlying9, dif_pos ⟨by omega, by omega⟩]
          simp [ByteArray.getElem_eq_getElem_data]
        generalize hq : s.data.toList[i] = c at hc
        have hdrop : s.data.toList.drop i = c :: s.data.toList.drop (i + 1) := by rw [← hq]; exact (List.drop_eq_getElem_cons hlt2)
        have hc256 : c.toNat ≤ 255 := by have := c.toNat_lt; omega
        rw [hdrop, prun] at hr
        have HB := Lib.hid hB
        have HG := Lib.hid hG
        have HD := Lib.hid hD
        have HR := Lib.hid hr
        have hfz : ∀ m, wr.frozen? ⟨w.heap.size + 1, m, none⟩ = false := fun m => blk_frozen hG m
        have f0 := hfz 0
        have f1 := hfz 1
        have p0 : wr.cell? ⟨w.heap.size + 1, 0, none⟩ = some (.int .i64 a) := (blk_cell hG 0).trans rfl
        have p1 : wr.cell? ⟨w.heap.size + 1, 1, none⟩ = some (.int .i64 b) := (blk_cell hG 1).trans rfl
        clear hfz hB hG hD hr hdrop hq hlt2
        unfold capM at ha hb
        generalize hqn : c.toNat = q at hc hc256
        have HQ := Lib.hid hqn
        by_cases hdig : 48 ≤ q ∧ q ≤ 57
        · obtain ⟨hd0, hd1⟩ := hdig
          cases k with
          | false =>
            go_wp2
            go_big_region
            first | rw [cap_min a q hd0] | rw [cap_min2 a q hd0]
            go_wp2
            go_roundw
            case rel => exact ⟨i + 1, min capM (10 * a + (q - 48)), b, false, rfl, by go_num, by omega, Nat.min_le_left _ _, hb, by have := HR.out; rw [pst_d0 a b c (by omega) (by omega), hqn] at this; exact this, blk_drew (blk_put HG.out 0 _ rfl), blk_drew ((Fr.set wr _ 0 _).blk HD.out (by omega)), below_drew (HB.out.setCell (Nat.le_succ _) _)⟩
            case measure => simp [intOf]; omega
          | true =>
            go_wp2
            go_big_region
            first | rw [cap_min b q hd0] | rw [cap_min2 b q hd0]
            go_wp2
            go_roundw
            case rel => exact ⟨i + 1, a, min capM (10 * b + (q - 48)), true, rfl, by go_num, by omega, ha, Nat.min_le_left _ _, by have := HR.out; rw [pst_d1 a b c (by omega) (by omega), hqn] at this; exact this, blk_drew (blk_put HG.out 1 _ rfl), blk_drew ((Fr.set wr _ 1 _).blk HD.out (by omega)), below_drew (HB.out.setCell (Nat.le_succ _) _)⟩
            case measure => simp [intOf]; omega
        · by_cases hpt : q = 46 ∧ k = false
          · obtain ⟨rfl, rfl⟩ := hpt
            go_wp2
            go_roundw
            case rel => exact ⟨i + 1, a, b, true, rfl, by go_num, by omega, ha, hb, by have := HR.out; rw [pst_p a b c hqn] at this; exact this, HG.out, HD.out, HB.out⟩
            case measure => simp [intOf]; omega
          · have E := Lib.hid (show refP s = (0, 0, false) from refP_none H0.out (by have := HR.out; rw [pst_no a b k c (by omega) (by rw [hqn]; exact hpt)] at this; exact this.symm))
            have d0 : wr.cell? ⟨w.heap.size, 0, none⟩ = some (.int .i64 0) := (blk_cell HD.out 0).trans rfl
            have d1 : wr.cell? ⟨w.heap.size, 1, none⟩ = some (.int .i64 0) := (blk_cell HD.out 1).trans rfl
            have g0 := blk_frozen HD.out 0
            have g1 := blk_frozen HD.out 1
            rcases (show (q = 46 ∧ k = true) ∨ q < 48 ∧ q ≠ 46 ∨ 57 < q by
              rcases Nat.lt_or_ge q 48 with h | h
              · by_cases h2 : q = 46
                · refine .inl ⟨h2, ?_⟩
                  cases k with
                  | true => rfl
                  | false => exact absurd ⟨h2, rfl⟩ hpt
                · exact .inr (.inl ⟨h, h2⟩)
              · exact .inr (.inr (by omega))) with ⟨rfl, rfl⟩ | ⟨h1, h2⟩ | h1
            all_goals clear hpt
            all_goals try cases k
            all_goals
              go_wp2
              refine bodyPost_ret (res_ct rfl _ _ w.heap.size 23 #[.int .i64 0, .int .i64 0] (0, 0) _ rfl (blk_put (blk_put HD.out 0 _ rfl) 1 _ rfl) Tryz.underlying23 rfl (by kernel_rfl)) rfl ?_
              unfold RpP
              rw [E.out]
              exact ⟨rfl, (HB.out.setCell (Nat.le_refl _) _).setCell (Nat.le_refl _) _⟩
      · have hi2 : i = s.size := by omega
        subst hi2
        clear hi hlt
        rw [Lib.size_eq, List.drop_length, prun] at hr
        have HB := Lib.hid hB
        have HG := Lib.hid hG
        have HD := Lib.hid hD
        have RP := Lib.hid (refP_some H0.out hr.symm)
        have p0 : wr.cell? ⟨w.heap.size + 1, 0, none⟩ = some (.int .i64 a) := (blk_cell hG 0).trans rfl
        have p1 : wr.cell? ⟨w.heap.size + 1, 1, none⟩ = some (.int .i64 b) := (blk_cell hG 1).trans rfl
        clear hB hG hD hr ha hb
        generalize (if k = true then (1 : Int) else 0) = kk
        have VB := Lib.hid (rvalid_be a b)
        by_cases hok : okDot a b
        · have TX := Lib.hid (rtext_be a b hok)
          rw [decide_eq_true hok] at VB
          by_cases hs : dtP a b = s
          · have E := Lib.hid (show refP s = ((a : Int), (b : Int), true) from by rw [RP.out, if_pos ⟨hok, by rw [← hs]; rfl⟩])
            have hee : decide (s.toList = s.toList) = true := decide_eq_true rfl
            rw [hs] at TX
            clear RP hok hs
            go_wp2_with (first | (go_at_call 25; refine (VB.out _).mono ?_; rintro en w1 ⟨rfl, hb⟩; have KB := Lib.hid (below_step (below_alloc HB.out _) hb); have B7 := Lib.hid (blk_below (blk_new wr _) hb); have HD1 := Lib.hid (blk_below (blk_below HD.out (below_alloc (Below.refl _ _) _)) hb); have b0 : w1.cell? ⟨wr.heap.size, 0, none⟩ = some (.int .i64 a) := (blk_cell B7.out 0).trans rfl; have b1 : w1.cell? ⟨wr.heap.size, 1, none⟩ = some (.int .i64 b) := (blk_cell B7.out 1).trans rfl; clear hb) | (go_at_call 29; refine (TX.out _).mono ?_; rintro en w2 ⟨rfl, hb⟩; have KB := Lib.hid (below_step KB.out hb); have B8 := Lib.hid (blk_below B7.out hb); have HD1 := Lib.hid (blk_below HD1.out hb); have b0 : w2.cell? ⟨wr.heap.size, 0, none⟩ = some (.int .i64 a) := (blk_cell B8.out 0).trans rfl; have b1 : w2.cell? ⟨wr.heap.size, 1, none⟩ = some (.int .i64 b) := (blk_cell B8.out 1).trans rfl; have d0 : w2.cell? ⟨w.heap.size, 0, none⟩ = some (.int .i64 0) := (blk_cell HD1.out 0).trans rfl; have d1 : w2.cell? ⟨w.heap.size, 1, none⟩ = some (.int .i64 0) := (blk_cell HD1.out 1).trans rfl; have g0 := blk_frozen HD1.out 0; have g1 := blk_frozen HD1.out 1; clear hb))
            refine bodyPost_ret (res_ct rfl _ _ w.heap.size 23 #[.int .i64 a, .int .i64 b] (0, 0) _ rfl (blk_put (blk_put HD1.out 0 _ rfl) 1 _ rfl) Tryz.underlying23 rfl (by kernel_rfl)) rfl ?_
            unfold RpP
            rw [E.out]
            exact ⟨rfl, (KB.out.setCell (Nat.le_refl _) _).setCell (Nat.le_refl _) _⟩
          · have E := Lib.hid (show refP s = (0, 0, false) from by rw [RP.out, if_neg (fun q => hs (bytes_eq q.2))])
            generalize dtP (a : Int) (b : Int) = z at *
            have hd2 : (!z.toList == s.toList) = true := by
              have : ¬ z.toList = s.toList := fun q => hs ((str_dec _ _).1 q)
              simpa using this
            clear RP hok hs
            go_wp2_with (first | (go_at_call 25; refine (VB.out _).mono ?_; rintro en w1 ⟨rfl, hb⟩; have KB := Lib.hid (below_step (below_alloc HB.out _) hb); have B7 := Lib.hid (blk_below (blk_new wr _) hb); have HD1 := Lib.hid (blk_below (blk_below HD.out (below_alloc (Below.refl _ _) _)) hb); have b0 : w1.cell? ⟨wr.heap.size, 0, none⟩ = some (.int .i64 a) := (blk_cell B7.out 0).trans rfl; have b1 : w1.cell? ⟨wr.heap.size, 1, none⟩ = some (.int .i64 b) := (blk_cell B7.out 1).trans rfl; clear hb) | (go_at_call 29; refine (TX.out _).mono ?_; rintro en w2 ⟨rfl, hb⟩; have KB := Lib.hid (below_step KB.out hb); have B8 := Lib.hid (blk_below B7.out hb); have HD1 := Lib.hid (blk_below HD1.out hb); have b0 : w2.cell? ⟨wr.heap.size, 0, none⟩ = some (.int .i64 a) := (blk_cell B8.out 0).trans rfl; have b1 : w2.cell? ⟨wr.heap.size, 1, none⟩ = some (.int .i64 b) := (blk_cell B8.out 1).trans rfl; have d0 : w2.cell? ⟨w.heap.size, 0, none⟩ = some (.int .i64 0) := (blk_cell HD1.out 0).trans rfl; have d1 : w2.cell? ⟨w.heap.size, 1, none⟩ = some (.int .i64 0) := (blk_cell HD1.out 1).trans rfl; have g0 := blk_frozen HD1.out 0; have g1 := blk_frozen HD1.out 1; clear hb))
            refine bodyPost_ret (res_ct rfl _ _ w.heap.size 23 #[.int .i64 0, .int .i64 0] (0, 0) _ rfl (blk_put (blk_put HD1.out 0 _ rfl) 1 _ rfl) Tryz.underlying23 rfl (by kernel_rfl)) rfl ?_
            unfold RpP
            rw [E.out]
            exact ⟨rfl, (KB.out.setCell (Nat.le_refl _) _).setCell (Nat.le_refl _) _⟩
        · have E := Lib.hid (show refP s = (0, 0, false) from by rw [RP.out, if_neg (fun q => hok q.1)])
          rw [decide_eq_false hok] at VB
          clear RP hok
          go_wp2_with (go_at_call 25; refine (VB.out _).mono ?_; rintro en w1 ⟨rfl, hb⟩; have KB := Lib.hid (below_step (below_alloc HB.out _) hb); have B7 := Lib.hid (blk_below (blk_new wr _) hb); have HD1 := Lib.hid (blk_below (blk_below HD.out (below_alloc (Below.refl _ _) _)) hb); have d0 : w1.cell? ⟨w.heap.size, 0, none⟩ = some (.int .i64 0) := (blk_cell HD1.out 0).trans rfl; have d1 : w1.cell? ⟨w.heap.size, 1, none⟩ = some (.int .i64 0) := (blk_cell HD1.out 1).trans rfl; have g0 := blk_frozen HD1.out 0; have g1 := blk_frozen HD1.out 1; clear hb)
          refine bodyPost_ret (res_ct rfl _ _ w.heap.size 23 #[.int .i64 0, .int .i64 0] (0, 0) _ rfl (blk_put (blk_put HD1.out 0 _ rfl) 1 _ rfl) Tryz.underlying23 rfl (by kernel_rfl)) rfl ?_
          unfold RpP
          rw [E.out]
          exact ⟨rfl, (KB.out.setCell (Nat.le_refl _) _).setCell (Nat.le_refl _) _⟩
end Go.Proofs.YtamggklblaigpaaGreatDoor.Dx

namespace Go.Proofs.YtamggklblaigpaaGreatDoor.Dx
open Go Go.RowKit Go.Proofs Go.Proofs.YtamggklblaigpaaGreatDoorW.PrintWords Go.Proofs.YtamggklblaigpaaGreatDoor.Kit Go.Proofs.YtamggklblaigpaaGreatDoor.PAll
set_option linter.unusedSimpArgs false
set_option linter.unusedVariables false

/-- What the walks ask of package variables. -/
structure DOK (w : World) : Prop where
  p10 : Lib.TabIs Tryz.prog w "internal/strconv.uint64pow10" .u64 Lib.pow10Tab
  max : ∃ m, w.cell? ⟨4, 0, none⟩ = some (.int .i64 m)
  syn : ∃ t p, w.cell? ⟨0, 0, none⟩ = some (.iface t p)
  rng : ∃ t p, w.cell? ⟨1, 0, none⟩ = some (.iface t p)
theorem cell_keep {w w' : World} {b i : Nat} {v : Value} (h : w.cell? ⟨b, i, none⟩ = some v) (hb : Below w.heap.size w w') : w'.cell? ⟨b, i, none⟩ = some v :=
  (hb.cell (p := ⟨b, i, none⟩) (World.block_lt_of_cell? w _ h)).trans h
theorem tab_keep {w w' : World} {name : String} {k : IntKind} {zs : List Int} (h : Lib.TabIs Tryz.prog w name k zs) (hb : Below w.heap.size w w') : Lib.TabIs Tryz.prog w' name k zs := by
  unfold Lib.TabIs World.var? at h ⊢
  cases hg : Tryz.prog.globalNamed name with
  | none => rw [hg] at h; cases h
  | some g =>
    rw [hg, Option.bind_some] at h
    rw [Option.bind_some]
    have hlt : g < w.heap.size := by
      rcases Nat.lt_or_ge g w.heap.size with q | q
      · exact q
      · rw [Array.getElem?_eq_none q] at h; cases h
    rw [hb.block g hlt]
    exact h
theorem DOK.below {w w' : World} (h : DOK w) (hb : Below w.heap.size w w') : DOK w' :=
  ⟨tab_keep h.p10 hb, h.max.imp fun _ q => cell_keep q hb, h.syn.imp fun _ q => q.imp fun _ q => cell_keep q hb, h.rng.imp fun _ q => q.imp fun _ q => cell_keep q hb⟩
def BeP (v : Value) (w : World) (en : Ending) (w' : World) : Prop := en = .returned v ∧ Below w.heap.size w w'
theorem itoa_be (n : Nat) (hn : n < 9223372036854775808) (w : World) (h : DOK w) : Calls Tryz.prog 42 #[.int .i64 n] w (BeP (.string ⟨(Lib.decDigits n).toArray⟩) w) := by
  refine (Tryz.strconv_Itoa (n : Int) (by omega) (by omega) w h.p10).mono ?_
  rintro e w' ⟨rfl, k, os, rfl⟩
  refine ⟨?_, Lib.below_grow _ _ (Nat.le_refl _) k os⟩
  unfold Lib.itoa
  rw [if_neg (by omega), Int.toNat_natCast]
theorem valid_be (r c : Int) (w : World) : Calls Tryz.prog 43 #[.agg #[.int .i64 r, .int .i64 c]] w (BeP (.bool (decide (okDot r c))) w) := by
  refine dot_Valid.calls r c _ w ?_
  unfold dot_Valid.f
  by_cases h1 : r ≥ 1
  · rw [if_pos h1]
    by_cases h2 : r ≤ 64
    · rw [if_pos h2]
      by_cases h3 : c ≥ 1
      · rw [if_pos h3]; congr 1; exact decide_eq_decide.2 (by unfold okDot; omega)
      · rw [if_neg h3, decide_eq_false (by unfold okDot; omega)]
    · rw [if_neg h2, decide_eq_false (by unfold okDot; omega)]
  · rw [if_neg h1, decide_eq_false (by unfold okDot; omega)]
theorem root_be (r c : Int) (w : World) : Calls Tryz.prog 44 #[.agg #[.int .i64 r, .int .i64 c]] w (BeP (.bool (decide (r = 0 ∧ c = 0))) w) := by
  refine dot_Root.calls r c _ w ?_
  unfold dot_Root.f
  congr 1
  by_cases a : r = 0 <;> by_cases b : c = 0 <;> simp [a, b]
set_option maxHeartbeats 4000000 in
set_option maxRecDepth 100000 in
theorem text_any (r c : Int) (h : okDot r c) (w : World) (hG : DOK w) : Calls Tryz.prog 54 #[.agg #[.int .i64 r, .int .i64 c]] w (BeP (.string (dtP r c)) w) := by
  obtain ⟨h1, h2, h3, h4⟩ := h
  have E := Lib.hid (show dtP r c = ⟨(Lib.decDigits r.toNat ++ (46 :: Lib.decDigits c.toNat)).toArray⟩ from by unfold dtP; rw [dtL_dot ⟨h1, h2, h3, h4⟩])
  obtain ⟨m, rfl⟩ : ∃ m : Nat, r = m := ⟨r.toNat, by omega⟩
  obtain ⟨n, rfl⟩ : ∃ n : Nat, c = n := ⟨c.toNat, by omega⟩
  have RO := Lib.hid (root_be (m : Int) (n : Int))
  rw [decide_eq_false (by omega)] at RO
  have I1 := Lib.hid (fun W (hW : Below w.heap.size w W) => itoa_be m (by omega) W (hG.below hW))
  have I2 := Lib.hid (fun W (hW : Below w.heap.size w W) => itoa_be n (by omega) W (hG.below hW))
  rw [Int.toNat_natCast, Int.toNat_natCast] at E
  have l1 : (⟨(Lib.decDigits m).toArray⟩ : ByteArray).size ≤ 2 := by show (Lib.decDigits m).toArray.size ≤ 2; rw [List.size_toArray]; exact dec_len 1 m (by omega)
  have l2 : (⟨(Lib.decDigits n).toArray⟩ : ByteArray).size ≤ 10 := by show (Lib.decDigits n).toArray.size ≤ 10; rw [List.size_toArray]; exact dec_len 9 n (by omega)
  have E2 : dtP (m : Int) (n : Int) = ⟨(Lib.decDigits m).toArray⟩ ++ (⟨#[46]⟩ : ByteArray) ++ ⟨(Lib.decDigits n).toArray⟩ := by
    rw [E.out]
    apply ByteArray.ext
    simp [ByteArray.data_append]
  generalize (⟨(Lib.decDigits m).toArray⟩ : ByteArray) = sm at I1 l1 E2
  generalize (⟨(Lib.decDigits n).toArray⟩ : ByteArray) = sn at I2 l2 E2
  have E2 := Lib.hid E2
  have c1 : (9223372036854775807 < sm.size + 1) = False := eq_false (by omega)
  have c2 : (9223372036854775807 < sm.size + 1 + sn.size) = False := eq_false (by omega)
  clear hG h1 h2 h3 h4 E l1 l2
  go_enter Tryz.func54, Tryz.ntmps54
  go_wp2_with (go_at_call 44; refine (RO.out _).mono ?_; rintro en w1 ⟨rfl, hb⟩; have BK := Lib.hid (blk_below (blk_new w _) hb); have KB := Lib.hid (below_step (below_alloc (Below.refl _ _) _) hb); clear hb)
  have p0 : w1.drew.cell? ⟨w.heap.size, 0, none⟩ = some (.int .i64 m) := (blk_cell (blk_drew BK.out) 0).trans rfl
  have p1 : w1.drew.cell? ⟨w.heap.size, 1, none⟩ = some (.int .i64 n) := (blk_cell (blk_drew BK.out) 1).trans rfl
  have KD := Lib.hid (below_drew KB.out)
  have BD := Lib.hid (blk_drew BK.out)
  go_region_held3 (fun w' => w'.cell? ⟨w.heap.size, 0, none⟩ = some (.int .i64 m) ∧ w'.cell? ⟨w.heap.size, 1, none⟩ = some (.int .i64 n)) (refine ⟨?_, ?_⟩ <;> assumption) (first
    | (go_at_call 42; (refine (I1.out _ KD.out).mono ?_); rintro en w2 ⟨rfl, hb⟩; have p0 := cell_keep p0 hb; have p1 := cell_keep p1 hb; have KD := Lib.hid (below_step KD.out hb); clear hb)
    | (go_at_call 42; (refine (I2.out _ KD.out).mono ?_); rintro en w3 ⟨rfl, hb⟩; have p0 := cell_keep p0 hb; have p1 := cell_keep p1 hb; have KD := Lib.hid (below_step KD.out hb); clear hb))
  go_wp2
  go_ret
  rw [E2.out]
  exact ⟨rfl, KD.out⟩
theorem text_root (w : World) : Calls Tryz.prog 54 #[.agg #[.int .i64 0, .int .i64 0]] w (BeP (.string (dtP 0 0)) w) := by
  have RO := Lib.hid (root_be 0 0)
  rw [decide_eq_true ⟨rfl, rfl⟩] at RO
  go_enter Tryz.func54, Tryz.ntmps54
  go_wp2_with (go_at_call 44; refine (RO.out _).mono ?_; rintro en w1 ⟨rfl, hb⟩; have KB := Lib.hid (below_step (below_alloc (Below.refl _ _) _) hb); clear hb)
  go_ret
  exact ⟨rfl, KB.out⟩
set_option maxHeartbeats 4000000 in
set_option maxRecDepth 100000 in
theorem Text_any (r c : Int) (w : World) (hG : DOK w) : Calls Tryz.prog 39 #[.agg #[.int .i64 r, .int .i64 c]] w (BeP (.tuple #[.string (dotT r c).1, .int .i64 (dotT r c).2]) w) := by
  have VB := Lib.hid (valid_be r c)
  have RO := Lib.hid (root_be r c)
  by_cases hv : okDot r c
  · have TX := Lib.hid (fun W (hW : Below w.heap.size w W) => text_any r c hv W (hG.below hW))
    have E := Lib.hid (show dotT r c = (dtP r c, 0) from if_pos (.inl hv))
    rw [decide_eq_true hv] at VB
    clear hG hv RO
    generalize dtP r c = z at *
    go_enter Tryz.func39, Tryz.ntmps39
    go_wp2_with (first
      | (go_at_call 43; refine (VB.out _).mono ?_; rintro en w1 ⟨rfl, hb⟩; have BK := Lib.hid (blk_below (blk_new w _) hb); have KB := Lib.hid (below_step (below_alloc (Below.refl _ _) _) hb); have p0 : w1.cell? ⟨w.heap.size, 0, none⟩ = some (.int .i64 r) := (blk_cell BK.out 0).trans rfl; have p1 : w1.cell? ⟨w.heap.size, 1, none⟩ = some (.int .i64 c) := (blk_cell BK.out 1).trans rfl; clear hb)
      | (go_at_call 54; refine (TX.out _ KB.out).mono ?_; rintro en w2 ⟨rfl, hb⟩; have KB := Lib.hid (below_step KB.out hb); clear hb))
    go_ret2
    rw [E.out]
    exact ⟨rfl, KB.out⟩
  · rw [decide_eq_false hv] at VB
    by_cases h0 : r = 0 ∧ c = 0
    · have E := Lib.hid (show dotT r c = (dtP r c, 0) from if_pos (.inr h0))
      rw [decide_eq_true h0] at RO
      obtain ⟨rfl, rfl⟩ := h0
      have TX := Lib.hid text_root
      clear hG hv
      generalize dtP 0 0 = z at *
      go_enter Tryz.func39, Tryz.ntmps39
      go_wp2_with (first
        | (go_at_call 43; refine (VB.out _).mono ?_; rintro en w1 ⟨rfl, hb⟩; have BK := Lib.hid (blk_below (blk_new w _) hb); have KB := Lib.hid (below_step (below_alloc (Below.refl _ _) _) hb); have p0 : w1.cell? ⟨w.heap.size, 0, none⟩ = some (.int .i64 0) := (blk_cell BK.out 0).trans rfl; have p1 : w1.cell? ⟨w.heap.size, 1, none⟩ = some (.int .i64 0) := (blk_cell BK.out 1).trans rfl; clear hb)
        | (go_at_call 44; refine (RO.out _).mono ?_; rintro en w2 ⟨rfl, hb⟩; have BK := Lib.hid (blk_below BK.out hb); have KB := Lib.hid (below_step KB.out hb); have p0 : w2.cell? ⟨w.heap.size, 0, none⟩ = some (.int .i64 0) := (blk_cell BK.out 0).trans rfl; have p1 : w2.cell? ⟨w.heap.size, 1, none⟩ = some (.int .i64 0) := (blk_cell BK.out 1).trans rfl; clear hb)
        | (go_at_call 54; refine (TX.out _).mono ?_; rintro en w3 ⟨rfl, hb⟩; have KB := Lib.hid (below_step KB.out hb); clear hb))
      go_ret2
      rw [E.out]
      exact ⟨rfl, KB.out⟩
    · have E := Lib.hid (show dotT r c = (⟨#[]⟩, 2) from if_neg (fun q => q.elim hv h0))
      rw [decide_eq_false h0] at RO
      clear hG hv h0
      go_enter Tryz.func39, Tryz.ntmps39
      go_wp2_with (first
        | (go_at_call 43; refine (VB.out _).mono ?_; rintro en w1 ⟨rfl, hb⟩; have BK := Lib.hid (blk_below (blk_new w _) hb); have KB := Lib.hid (below_step (below_alloc (Below.refl _ _) _) hb); have p0 : w1.cell? ⟨w.heap.size, 0, none⟩ = some (.int .i64 r) := (blk_cell BK.out 0).trans rfl; have p1 : w1.cell? ⟨w.heap.size, 1, none⟩ = some (.int .i64 c) := (blk_cell BK.out 1).trans rfl; clear hb)
        | (go_at_call 44; refine (RO.out _).mono ?_; rintro en w2 ⟨rfl, hb⟩; have KB := Lib.hid (below_step KB.out hb); clear hb))
      go_ret2
      rw [E.out]
      exact ⟨rfl, KB.out⟩
def AtP (l : List UInt8) (w : World) (en : Ending) (w' : World) : Prop :=
  ∃ (v : Int) (ev : Value), en = .returned (.tuple #[.int .i64 v, ev]) ∧ (∀ u, Lib.atoiAll l = .ok u → v = u) ∧ (Lib.atoiAll l = .«syntax» → v = 0) ∧ Below w.heap.size w w'
theorem atoi_be (s : ByteArray) (hl : s.size ≤ 1000000) (w : World) (hG : DOK w) : Calls Tryz.prog 51 #[.string s] w (AtP s.data.toList w) := by
  cases h : Lib.atoiAll s.data.toList with
  | ok v =>
    refine (Tryz.strconv_Atoi_ok s (by omega) v h w).mono ?_
    rintro e w' ⟨rfl, hw⟩
    refine ⟨v, _, rfl, ?_, ?_, ?_⟩
    · intro u q; rw [h] at q; injection q
    · intro q; rw [h] at q; cases q
    · rcases hw with rfl | ⟨t, rfl⟩
      · exact Below.refl _ _
      · exact Lib.bytesWorld_below _ _ _
  | «syntax» =>
    obtain ⟨t, p, hc⟩ := hG.syn
    refine (Tryz.strconv_Atoi_syntax s (by omega) h _ w hc (.inr ⟨t, p, rfl⟩)).mono ?_
    rintro e w' ⟨N, rfl, _, _, hb⟩
    refine ⟨0, _, rfl, ?_, ?_, hb⟩
    · intro u q; rw [h] at q; cases q
    · intro _; rfl
  | range =>
    obtain ⟨t, p, hc⟩ := hG.rng
    refine (Tryz.strconv_Atoi_range s (by omega) h _ w hc (.inr ⟨t, p, rfl⟩)).mono ?_
    rintro e w' ⟨N, rfl, _, _, hb⟩
    refine ⟨_, _, rfl, ?_, ?_, hb⟩
    · intro u q; rw [h] at q; cases q
    · intro q; rw [h] at q; cases q
theorem cut_be (s : ByteArray) (hl : s.size ≤ 1000000) (w : World) (hG : DOK w) : Calls Tryz.prog 64 #[.string s, .string ⟨#[46]⟩] w (BeP (.tuple #[.string ⟨(Lib.cut s.data.toList [46]).1.toArray⟩, .string ⟨(Lib.cut s.data.toList [46]).2.1.toArray⟩, .bool (Lib.cut s.data.toList [46]).2.2]) w) := by
  obtain ⟨m, hm⟩ := hG.max
  refine (Tryz.strings_Cut s ⟨#[46]⟩ m w (by omega) hm).mono ?_
  rintro e w' ⟨rfl, n, rfl⟩
  exact ⟨rfl, below_alike (Below.refl _ _) n⟩
theorem cut_len (l sep : List UInt8) : (Lib.cut l sep).1.length ≤ l.length ∧ (Lib.cut l sep).2.1.length ≤ l.length := by
  unfold Lib.cut
  split
  · refine ⟨?_, ?_⟩ <;> simp <;> omega
  · simp
/-- What Parse makes of the two numbers that it reads. -/
theorem dotP_by (s : ByteArray) (v1 v2 : Int) (h1 : ∀ u, Lib.atoiAll (Lib.cut s.data.toList [46]).1 = .ok u → v1 = u) (s1 : Lib.atoiAll (Lib.cut s.data.toList [46]).1 = .«syntax» → v1 = 0) (h2 : ∀ u, Lib.atoiAll (Lib.cut s.data.toList [46]).2.1 = .ok u → v2 = u) (s2 : Lib.atoiAll (Lib.cut s.data.toList [46]).2.1 = .«syntax» → v2 = 0) :
    dotP s = if (okDot v1 v2 ∨ (v1 = 0 ∧ v2 = 0)) ∧ dtP v1 v2 = s then (v1, v2, 0) else (0, 0, 6) := by
  by_cases h0 : s.data.toList = rootL
  · obtain rfl : s = ⟨rootL.toArray⟩ := bytes_eq h0
    obtain rfl : v1 = 0 := s1 (by decide)
    obtain rfl : v2 = 0 := s2 (by decide)
    rw [dotP_root, if_pos ⟨.inr ⟨rfl, rfl⟩, rfl⟩]
  · by_cases h : ∃ r c, okDot r c ∧ dtL r c = s.data.toList
    · obtain ⟨r, c, hr, he⟩ := h
      have es : s = dtP r c := bytes_eq he.symm
      have er : ((r.toNat : Nat) : Int) = r := Int.toNat_of_nonneg (by have := hr.1; omega)
      have ec : ((c.toNat : Nat) : Int) = c := Int.toNat_of_nonneg (by have := hr.2.2.1; omega)
      have q2 := hr.2.1
      have q4 := hr.2.2.2
      rw [← he, dtL_dot hr, cut_dec] at h1 h2
      obtain rfl : v1 = r := (h1 _ (atoi_dec _ (by omega))).trans er
      obtain rfl : v2 = c := (h2 _ (atoi_dec _ (by omega))).trans ec
      subst es
      rw [dotP_yes hr, if_pos ⟨.inl hr, rfl⟩]
    · have h : ∀ r c, okDot r c → dtL r c ≠ s.data.toList := fun r c a b => h ⟨r, c, a, b⟩
      rw [dotP_no h0 h, if_neg]
      rintro ⟨q | ⟨rfl, rfl⟩, rfl⟩
      · exact h _ _ q rfl
      · exact h0 rfl
set_option maxHeartbeats 8000000 in
set_option maxRecDepth 100000 in
theorem parse_any (s : ByteArray) (hl : s.size ≤ 1000000) (w : World) (hG : DOK w) : Calls Tryz.prog 50 #[.string s] w (BeP (.tuple #[.agg #[.int .i64 (dotP s).1, .int .i64 (dotP s).2.1], .int .i64 (dotP s).2.2]) w) := by
  have CU := Lib.hid (fun W (hW : Below w.heap.size w W) => cut_be s hl W (hG.below hW))
  obtain ⟨sa, ha⟩ : ∃ x : ByteArray, x = ⟨(Lib.cut s.data.toList [46]).1.toArray⟩ := ⟨_, rfl⟩
  obtain ⟨sb, hb⟩ : ∃ x : ByteArray, x = ⟨(Lib.cut s.data.toList [46]).2.1.toArray⟩ := ⟨_, rfl⟩
  have lc := cut_len s.data.toList [46]
  have hl2 : s.data.toList.length ≤ 1000000 := by rw [← Lib.size_eq]; exact hl
  have la : sa.size ≤ 1000000 := by rw [ha]; show (Lib.cut s.data.toList [46]).1.toArray.size ≤ _; rw [List.size_toArray]; omega
  have lb : sb.size ≤ 1000000 := by rw [hb]; show (Lib.cut s.data.toList [46]).2.1.toArray.size ≤ _; rw [List.size_toArray]; omega
  clear lc hl2
  have DB := Lib.hid (dotP_by s)
  have ea : sa.data.toList = (Lib.cut s.data.toList [46]).1 := by rw [ha]
  have eb : sb.data.toList = (Lib.cut s.data.toList [46]).2.1 := by rw [hb]
  rw [← ea, ← eb] at DB
  rw [← ha, ← hb] at CU
  generalize (Lib.cut s.data.toList [46]).2.2 = kk at CU
  have A1 := Lib.hid (fun W (hW : Below w.heap.size w W) => atoi_be sa la W (hG.below hW))
  have A2 := Lib.hid (fun W (hW : Below w.heap.size w W) => atoi_be sb lb W (hG.below hW))
  have TX := Lib.hid (fun r c W (hW : Below w.heap.size w W) => Text_any r c W (hG.below hW))
  clear hG ha hb la lb ea eb hl
  go_enter Tryz.func50, Tryz.ntmps50
  go_upto_region 5 with (first
    | (go_at_call 64; refine (CU.out _ (below_alloc (Below.refl _ _) _)).mono ?_; rintro en w1 ⟨rfl, hb⟩; have D0 := Lib.hid (blk_below (blk_new w _) hb); have KB := Lib.hid (below_step (below_alloc (Below.refl _ _) _) hb); clear hb)
    | (go_at_call 51; (with_reducible refine (A1.out _ KB.out).mono ?_); rintro en w2 ⟨v1, ev1, rfl, h1, s1, hb⟩; have H1 := Lib.hid (And.intro h1 s1); have D0 := Lib.hid (blk_below D0.out hb); have KB := Lib.hid (below_step KB.out hb); clear hb h1 s1)
    | (go_at_call 51; (with_reducible refine (A2.out _ KB.out).mono ?_); rintro en w3 ⟨v2, ev2, rfl, h2, s2, hb⟩; have DE := Lib.hid (DB.out v1 v2 H1.out.1 H1.out.2 h2 s2); have D0 := Lib.hid (blk_below D0.out hb); have KB := Lib.hid (below_step KB.out hb); clear hb h2 s2))
  have TW := Lib.hid (fun W hW => TX.out v1 v2 W hW)
  by_cases hv : okDot v1 v2 ∨ (v1 = 0 ∧ v2 = 0)
  · have ET : dotT v1 v2 = (dtP v1 v2, 0) := if_pos hv
    rw [ET] at TW
    by_cases hs : dtP v1 v2 = s
    · have E := Lib.hid (show dotP s = (v1, v2, 0) from DE.out.trans (if_pos ⟨hv, hs⟩))
      rw [hs] at TW
      have hee : decide (s.toList = s.toList) = true := decide_eq_true rfl
      clear hv hs ET DE TX H1 DB CU A1 A2
      go_wp2_with (go_at_call 39; refine (TW.out _ (below_alloc KB.out _)).mono ?_; rintro en w4 ⟨rfl, hb⟩; have D7 := Lib.hid (blk_below (blk_new w3 _) hb); have D0 := Lib.hid (blk_below (blk_below D0.out (below_alloc (Below.refl _ _) _)) hb); have KB := Lib.hid (below_step (below_alloc KB.out _) hb); have p0 : w4.cell? ⟨w3.heap.size, 0, none⟩ = some (.int .i64 v1) := (blk_cell D7.out 0).trans rfl; have p1 : w4.cell? ⟨w3.heap.size, 1, none⟩ = some (.int .i64 v2) := (blk_cell D7.out 1).trans rfl; have d0 : w4.cell? ⟨w.heap.size, 0, none⟩ = some (.int .i64 0) := (blk_cell D0.out 0).trans rfl; have d1 : w4.cell? ⟨w.heap.size, 1, none⟩ = some (.int .i64 0) := (blk_cell D0.out 1).trans rfl; have g0 := blk_frozen D0.out 0; have g1 := blk_frozen D0.out 1; clear hb)
      refine bodyPost_ret (res_ct rfl _ _ w.heap.size 23 #[.int .i64 v1, .int .i64 v2] (0, 0) _ rfl (blk_put (blk_put D0.out 0 _ rfl) 1 _ rfl) Tryz.underlying23 rfl (by kernel_rfl)) rfl ?_
      rw [E.out]
      exact ⟨rfl, (KB.out.setCell (Nat.le_refl _) _).setCell (Nat.le_refl _) _⟩
    · have E := Lib.hid (show dotP s = (0, 0, 6) from DE.out.trans (if_neg (fun q => hs q.2)))
      clear ET DE
      generalize dtP v1 v2 = z at *
      have hd2 : (!z.toList == s.toList) = true := by
        have : ¬ z.toList = s.toList := fun q => hs ((str_dec _ _).1 q)
        simpa using this
      clear hv hs TX H1 DB CU A1 A2
      go_wp2_with (go_at_call 39; refine (TW.out _ (below_alloc KB.out _)).mono ?_; rintro en w4 ⟨rfl, hb⟩; have D7 := Lib.hid (blk_below (blk_new w3 _) hb); have D0 := Lib.hid (blk_below (blk_below D0.out (below_alloc (Below.refl _ _) _)) hb); have KB := Lib.hid (below_step (below_alloc KB.out _) hb); have p0 : w4.cell? ⟨w3.heap.size, 0, none⟩ = some (.int .i64 v1) := (blk_cell D7.out 0).trans rfl; have p1 : w4.cell? ⟨w3.heap.size, 1, none⟩ = some (.int .i64 v2) := (blk_cell D7.out 1).trans rfl; have d0 : w4.cell? ⟨w.heap.size, 0, none⟩ = some (.int .i64 0) := (blk_cell D0.out 0).trans rfl; have d1 : w4.cell? ⟨w.heap.size, 1, none⟩ = some (.int .i64 0) := (blk_cell D0.out 1).trans rfl; have g0 := blk_frozen D0.out 0; have g1 := blk_frozen D0.out 1; clear hb)
      refine bodyPost_ret (res_ct rfl _ _ w.heap.size 23 #[.int .i64 0, .int .i64 0] (0, 0) _ rfl (blk_put (blk_put D0.out 0 _ rfl) 1 _ rfl) Tryz.underlying23 rfl (by kernel_rfl)) rfl ?_
      rw [E.out]
      exact ⟨rfl, (KB.out.setCell (Nat.le_refl _) _).setCell (Nat.le_refl _) _⟩
  · have ET : dotT v1 v2 = (⟨#[]⟩, 2) := if_neg hv
    rw [ET] at TW
    have E := Lib.hid (show dotP s = (0, 0, 6) from DE.out.trans (if_neg (fun q => hv q.1)))
    clear hv ET DE TX H1 DB CU A1 A2
    go_wp2_with (go_at_call 39; refine (TW.out _ (below_alloc KB.out _)).mono ?_; rintro en w4 ⟨rfl, hb⟩; have D7 := Lib.hid (blk_below (blk_new w3 _) hb); have D0 := Lib.hid (blk_below (blk_below D0.out (below_alloc (Below.refl _ _) _)) hb); have KB := Lib.hid (below_step (below_alloc KB.out _) hb); have p0 : w4.cell? ⟨w3.heap.size, 0, none⟩ = some (.int .i64 v1) := (blk_cell D7.out 0).trans rfl; have p1 : w4.cell? ⟨w3.heap.size, 1, none⟩ = some (.int .i64 v2) := (blk_cell D7.out 1).trans rfl; have d0 : w4.cell? ⟨w.heap.size, 0, none⟩ = some (.int .i64 0) := (blk_cell D0.out 0).trans rfl; have d1 : w4.cell? ⟨w.heap.size, 1, none⟩ = some (.int .i64 0) := (blk_cell D0.out 1).trans rfl; have g0 := blk_frozen D0.out 0; have g1 := blk_frozen D0.out 1; clear hb)
    refine bodyPost_ret (res_ct rfl _ _ w.heap.size 23 #[.int .i64 0, .int .i64 0] (0, 0) _ rfl (blk_put (blk_put D0.out 0 _ rfl) 1 _ rfl) Tryz.underlying23 rfl (by kernel_rfl)) rfl ?_
    rw [E.out]
    exact ⟨rfl, (KB.out.setCell (Nat.le_refl _) _).setCell (Nat.le_refl _) _⟩
end Go.Proofs.YtamggklblaigpaaGreatDoor.Dx
