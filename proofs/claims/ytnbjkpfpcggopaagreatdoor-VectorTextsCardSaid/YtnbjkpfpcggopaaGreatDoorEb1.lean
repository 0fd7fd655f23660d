/- Small facts on worlds, blocks and rows that the walks of this seat share; no program is named here. -/
/- Frames: what a call that writes some blocks of the caller's leaves alone; rows of bytes under frames; no program is named here. -/
/- Numbers in decimal and the texts of dots, plain law; no program is named here. -/
/- Sets of dots, plain law; no program is named here. -/
/- Version vectors: what the map of made holds, key by key; what was collected out of it; no program is named here. -/
/- The reference's Text of dots (plain law of the printed walk). -/
/- The walk of the reference's Parse of dots. -/
/- Texts of dots: the walks of dot.Text and dot.Parse. -/
import Derived.Test.YtnbjkpfpcggopaaGreatDoorWWords
import Derived.WalkKit
import Derived.WalkSpells
import Derived.WalkLawsBesides
import Derived.Lib.Hide
import Derived.BigQuiet
import Derived.Deep.QuietTactic
import Derived.Deep.RegionHeld3
import Derived.Deep.AppendLies
import Derived.BigRegion
import Derived.Deep.RegionLaw
import Derived.Test.YtnbjkpfpcggopaaGreatDoorWMore
import Derived.Lib.AtoiAll
import Derived.Lib.ItoaNum
import Derived.Lib.IndexMore
import Derived.Lib.Strings
import Derived.Test.YtnbjkpfpcggopaaGreatDoorPAllx0
import Derived.Lib.SlicesCompact
import Derived.Maps.OwnOps
import Derived.Maps.OwnSet
import Derived.Maps.RangeWalk
import Derived.Maps.Ext
import Derived.Test.YtnbjkpfpcggopaaGreatDoorPAllx2
import Derived.BigCall
import Derived.Laws.ResultCell
import Derived.Laws.Rows
import Derived.Test.YtnbjkpfpcggopaaGreatDoorShelf
import Derived.Test.YtnbjkpfpcggopaaGreatDoorPAllx9
import Derived.Lib.BufferKept
import Derived.Lib.AppendIntMem
import Derived.Lib.AtoiAllCases
namespace Go.Proofs.YtnbjkpfpcggopaaGreatDoor.Kit
open Go.RowKit Go.Proofs.YtnbjkpfpcggopaaGreatDoorW.PrintWords

theorem grown_set (w : World) (b i : Nat) (v : Value) : w.grownBy (w.setCell ⟨b, i, none⟩ v) (some b) :=
  ⟨rfl, rfl, rfl, by simp [World.setCell], fun _ _ hk => Below.heap_setCell _ _ _ _ (fun e => hk (by rw [e]))⟩
theorem below_grown {w w1 : World} (h : Below w.heap.size w w1) (row : Option Nat) : w.grownBy w1 row := ⟨h.os, h.tape, h.output, h.size, fun i hi _ => h.block i hi⟩
theorem below_alike {B : Nat} {w0 w : World} (h : Below B w0 w) (n : Nat) : Below B w0 (w.drewN n) := ⟨h.os, h.tape, h.output, h.size, h.block⟩
end Go.Proofs.YtnbjkpfpcggopaaGreatDoor.Kit

namespace Go.Proofs.YtnbjkpfpcggopaaGreatDoor.Kit
open Go.RowKit Go.Proofs.YtnbjkpfpcggopaaGreatDoorW.PrintWords

/-- From w to w1 only blocks in S, and new ones, have turned. -/
structure Fr (w w1 : World) (S : Nat → Prop) : Prop where
  os : w1.os = w.os
  tape : w1.tape = w.tape
  output : w1.output = w.output
  size : w.heap.size ≤ w1.heap.size
  block : ∀ i, i < w.heap.size → ¬ S i → w1.heap[i]? = w.heap[i]?
section
variable {w0 w w1 w2 : World} {S S' : Nat → Prop}
theorem Fr.refl (w : World) (S : Nat → Prop) : Fr w w S := ⟨rfl, rfl, rfl, Nat.le_refl _, fun _ _ _ => rfl⟩
theorem Fr.below (h : Below w.heap.size w w1) (S : Nat → Prop) : Fr w w1 S := ⟨h.os, h.tape, h.output, h.size, fun i hi _ => h.block i hi⟩
theorem Fr.grown {row : Option Nat} (h : w.grownBy w1 row) : Fr w w1 (fun i => some i = row) := ⟨h.os, h.tape, h.output, h.size, fun i hi hn => h.block i hi hn⟩
theorem Fr.mono (h : Fr w w1 S) (k : ∀ i, i < w.heap.size → S i → S' i) : Fr w w1 S' := ⟨h.os, h.tape, h.output, h.size, fun i hi hn => h.block i hi (fun q => hn (k i hi q))⟩
theorem Fr.then (h : Fr w w1 S) (k : Fr w1 w2 S') (hs : ∀ i, i < w.heap.size → S' i → S i) : Fr w w2 S :=
  ⟨k.os.trans h.os, k.tape.trans h.tape, k.output.trans h.output, Nat.le_trans h.size k.size, fun i hi hn => (k.block i (Nat.lt_of_lt_of_le hi h.size) (fun q => hn (hs i hi q))).trans (h.block i hi hn)⟩
theorem Fr.set (w : World) (g i : Nat) (v : Value) : Fr w (w.setCell ⟨g, i, none⟩ v) (fun j => j = g) := (Fr.grown (grown_set w g i v)).mono fun _ _ q => by injection q
theorem Fr.blk (k : Fr w w1 S) {g : Nat} {o : Obj} (h : w.heap[g]? = some o) (hg : ¬ S g) : w1.heap[g]? = some o := (k.block g (blk_lt h) hg).trans h
end
end Go.Proofs.YtnbjkpfpcggopaaGreatDoor.Kit

namespace Go.Proofs.YtnbjkpfpcggopaaGreatDoor.Dx
open Go

def okDot (r c : Int) : Prop := 1 ≤ r ∧ r ≤ 64 ∧ 1 ≤ c ∧ c ≤ 4294967295
instance (r c : Int) : Decidable (okDot r c) := by unfold okDot; infer_instance
def rootL : List UInt8 := [114, 111, 111, 116]
/-- The text of a dot. -/
def dtL (r c : Int) : List UInt8 := if r = 0 ∧ c = 0 then rootL else Lib.decDigits r.toNat ++ (46 :: Lib.decDigits c.toNat)
def dtP (r c : Int) : ByteArray := ⟨(dtL r c).toArray⟩
/-- What Text returns. -/
def dotT (r c : Int) : ByteArray × Int := if okDot r c ∨ (r = 0 ∧ c = 0) then (dtP r c, 0) else (⟨#[]⟩, 2)
def decV (l : List UInt8) : Nat := l.foldl (fun n c => 10 * n + (c.toNat - 48)) 0
/-- What Parse returns. -/
def dotP (s : ByteArray) : Int × Int × Int :=
  if s.data.toList = rootL then (0, 0, 0)
  else if okDot (decV (Lib.cut s.data.toList [46]).1) (decV (Lib.cut s.data.toList [46]).2.1) ∧ dtL (decV (Lib.cut s.data.toList [46]).1) (decV (Lib.cut s.data.toList [46]).2.1) = s.data.toList then ((decV (Lib.cut s.data.toList [46]).1 : Nat), (decV (Lib.cut s.data.toList [46]).2.1 : Nat), 0)
  else (0, 0, 6)

theorem dec_step {u : Nat} (h : ¬ u < 10) : Lib.decDigits u = Lib.decDigits (u / 10) ++ [UInt8.ofNat (48 + u % 10)] := by
  conv => lhs; unfold Lib.decDigits
  rw [dif_neg h]
theorem dec_one {u : Nat} (h : u < 10) : Lib.decDigits u = [UInt8.ofNat (48 + u)] := by unfold Lib.decDigits; rw [dif_pos h]
theorem ofNat_toNat {n : Nat} (h : n < 256) : (UInt8.ofNat n).toNat = n := by rw [UInt8.toNat_ofNat']; omega
theorem dec_digit : ∀ u, ∀ c ∈ Lib.decDigits u, 48 ≤ c.toNat ∧ c.toNat ≤ 57 := by
  intro u
  induction u using Nat.strongRecOn with
  | _ u ih =>
    intro c hc
    by_cases h : u < 10
    · rw [dec_one h] at hc
      obtain rfl : c = UInt8.ofNat (48 + u) := by simpa using hc
      rw [ofNat_toNat (by omega)]
      omega
    · rw [dec_step h] at hc
      rcases List.mem_append.1 hc with hc | hc
      · exact ih (u / 10) (by omega) c hc
      · obtain rfl : c = UInt8.ofNat (48 + u % 10) := by simpa using hc
        rw [ofNat_toNat (by omega)]
        omega
theorem dec_ne (u : Nat) : Lib.decDigits u ≠ [] := by
  by_cases h : u < 10
  · rw [dec_one h]; simp
  · rw [dec_step h]; simp
theorem decV_app (l : List UInt8) (c : UInt8) : decV (l ++ [c]) = 10 * decV l + (c.toNat - 48) := by unfold decV; rw [List.foldl_append]; rfl
theorem decV_dec : ∀ u, decV (Lib.decDigits u) = u := by
  intro u
  induction u using Nat.strongRecOn with
  | _ u ih =>
    by_cases h : u < 10
    · rw [dec_one h]
      show 10 * 0 + ((UInt8.ofNat (48 + u)).toNat - 48) = u
      rw [ofNat_toNat (by omega)]
      omega
    · rw [dec_step h, decV_app, ih (u / 10) (by omega), ofNat_toNat (by omega)]
      omega
theorem pu_app : ∀ (a : List UInt8) (b : List UInt8) (acc v : Nat), Lib.parseUint10 acc a = .ok v → Lib.parseUint10 acc (a ++ b) = Lib.parseUint10 v b
  | [], b, acc, v, h => by
    simp only [Lib.parseUint10] at h
    injection h with h
    subst h
    rfl
  | c :: a, b, acc, v, h => by
    simp only [Lib.parseUint10] at h
    rw [List.cons_append]
    simp only [Lib.parseUint10]
    split at h
    · split at h
      · cases h
      · split at h
        · cases h
        · rename_i h1 h2 h3
          rw [if_pos h1, if_neg h2, if_neg h3]
          exact pu_app a b _ v h
    · cases h
theorem pu_one (acc d : Nat) (hd : d < 10) (h : acc * 10 + d < 9223372036854775808) : Lib.parseUint10 acc [UInt8.ofNat (48 + d)] = .ok (acc * 10 + d) := by
  have e : (UInt8.ofNat (48 + d)).toNat = 48 + d := ofNat_toNat (by omega)
  simp only [Lib.parseUint10, e]
  rw [if_pos (by omega), if_neg (by omega), if_neg (by omega)]
  congr 1
  omega
theorem pu_dec : ∀ u, u < 9223372036854775808 → Lib.parseUint10 0 (Lib.decDigits u) = .ok u := by
  intro u
  induction u using Nat.strongRecOn with
  | _ u ih =>
    intro hu
    by_cases h : u < 10
    · rw [dec_one h, pu_one 0 u h (by omega)]
      congr 1
      omega
    · rw [dec_step h, pu_app _ _ 0 (u / 10) (ih (u / 10) (by omega) (by omega)), pu_one _ _ (by omega) (by omega)]
      congr 1
      omega
theorem atoi_dec (u : Nat) (hu : u < 9223372036854775808) : Lib.atoiAll (Lib.decDigits u) = .ok (u : Int) := by
  cases hd : Lib.decDigits u with
  | nil => exact absurd hd (dec_ne u)
  | cons c r =>
    have hc := dec_digit u c (by rw [hd]; exact List.mem_cons_self)
    have hp := pu_dec u hu
    rw [hd] at hp
    unfold Lib.atoiAll
    have e : Lib.parseMag (c :: r) = .ok u := by unfold Lib.parseMag; rw [if_neg (by simp)]; exact hp
    have n43 : ¬ (c.toNat = 43 ∨ c.toNat = 45) := by omega
    simp only [if_neg n43, e]
    have n45 : ¬ c.toNat = 45 := by omega
    simp only [n45]
    simp
    omega
theorem cut_at (a b : List UInt8) (h : ∀ c ∈ a, c ≠ 46) : Lib.cut (a ++ (46 :: b)) [46] = (a, b, true) := by
  have hi : Lib.index (a ++ (46 :: b)) [46] = (a.length : Int) := by
    refine Lib.index_first (by simp) ?_ fun j hj => ?_
    · unfold Lib.occAt
      rw [List.drop_left]
      simp
    · unfold Lib.occAt
      rw [List.drop_append_of_le_length (by omega), List.drop_eq_getElem_cons hj]
      have := h _ (List.getElem_mem hj)
      have e : ((46 : UInt8) == a[j]) = false := beq_eq_false_iff_ne.2 (fun q => this q.symm)
      show (((46 : UInt8) == a[j]) && _) = false
      rw [e]
      rfl
  unfold Lib.cut
  rw [hi, if_pos (by omega)]
  simp
theorem cut_dec (r c : Nat) : Lib.cut (Lib.decDigits r ++ (46 :: Lib.decDigits c)) [46] = (Lib.decDigits r, Lib.decDigits c, true) :=
  cut_at _ _ fun d hd => by
    have := dec_digit r d hd
    intro q
    rw [q] at this
    exact absurd this (by decide)
theorem dtL_dot {r c : Int} (h : okDot r c) : dtL r c = Lib.decDigits r.toNat ++ (46 :: Lib.decDigits c.toNat) := by
  unfold dtL
  rw [if_neg (by have := h.1; omega)]
theorem dot_not_root {r c : Int} (h : okDot r c) : dtL r c ≠ rootL := by
  rw [dtL_dot h]
  intro q
  cases hd : Lib.decDigits r.toNat with
  | nil => exact dec_ne _ hd
  | cons x l =>
    rw [hd] at q
    have hx := dec_digit r.toNat x (by rw [hd]; exact List.mem_cons_self)
    have : x = 114 := (List.cons.inj q).1
    rw [this] at hx
    exact absurd hx (by decide)
theorem dotP_yes {r c : Int} (h : okDot r c) : dotP (dtP r c) = (r, c, 0) := by
  have e : (dtP r c).data.toList = dtL r c := rfl
  have hr : ((r.toNat : Nat) : Int) = r := Int.toNat_of_nonneg (by have := h.1; omega)
  have hc : ((c.toNat : Nat) : Int) = c := Int.toNat_of_nonneg (by have := h.2.2.1; omega)
  unfold dotP
  rw [e, if_neg (dot_not_root h)]
  have hcut : Lib.cut (dtL r c) [46] = (Lib.decDigits r.toNat, Lib.decDigits c.toNat, true) := by rw [dtL_dot h]; exact cut_dec _ _
  rw [hcut]
  simp only [decV_dec, hr, hc]
  rw [if_pos ⟨h, trivial⟩]
theorem dotP_root : dotP ⟨rootL.toArray⟩ = (0, 0, 0) := if_pos rfl
theorem dotP_no {s : ByteArray} (h0 : s.data.toList ≠ rootL) (h : ∀ r c, okDot r c → dtL r c ≠ s.data.toList) : dotP s = (0, 0, 6) := by
  unfold dotP
  rw [if_neg h0, if_neg (fun q => h _ _ q.1 q.2)]
theorem dec_len : ∀ (k u : Nat), u < 10 ^ (k + 1) → (Lib.decDigits u).length ≤ k + 1
  | 0, u, h => by rw [dec_one (by simpa using h)]; simp
  | k + 1, u, h => by
    by_cases q : u < 10
    · rw [dec_one q]; simp
    · have := dec_len k (u / 10) (by rw [Nat.pow_succ] at h; omega)
      rw [dec_step q, List.length_append]
      simp; omega
theorem dtL_len {r c : Int} (h : okDot r c ∨ (r = 0 ∧ c = 0)) : (dtL r c).length ≤ 20 := by
  rcases h with h | h
  · have h1 := dec_len 1 r.toNat (by have := h.2.1; omega)
    have h2 := dec_len 9 c.toNat (by have := h.2.2.2; omega)
    rw [dtL_dot h, List.length_append, List.length_cons]
    omega
  · unfold dtL
    rw [if_pos h]
    decide
end Go.Proofs.YtnbjkpfpcggopaaGreatDoor.Dx

namespace Go.Proofs.YtnbjkpfpcggopaaGreatDoor.Dl
open Go Go.Lib Go.Proofs.YtnbjkpfpcggopaaGreatDoor.PAll

def ltD (a b : S25) : Prop := a.f1 < b.f1 ∨ (a.f1 = b.f1 ∧ a.f0 < b.f0)
instance (a b : S25) : Decidable (ltD a b) := inferInstanceAs (Decidable (a.f1 < b.f1 ∨ (a.f1 = b.f1 ∧ a.f0 < b.f0)))
theorem ext_D {a b : S25} (h0 : a.f0 = b.f0) (h1 : a.f1 = b.f1) : a = b := by cases a; cases b; simp_all
instance : DecidableEq S25 := fun a b => if h : a.f0 = b.f0 ∧ a.f1 = b.f1 then isTrue (ext_D h.1 h.2) else isFalse (fun e => h ⟨by rw [e], by rw [e]⟩)
instance : Inhabited S25 := ⟨z25⟩
theorem lt_irrefl (a : S25) : ¬ ltD a a := by unfold ltD; omega
theorem lt_trans {a b c : S25} (h : ltD a b) (k : ltD b c) : ltD a c := by unfold ltD at *; omega
def Srt (l : List S25) : Prop := l.Pairwise ltD
instance (l : List S25) : Decidable (Srt l) := inferInstanceAs (Decidable (l.Pairwise ltD))
/-! What Compact does to a sorted row. -/
end Go.Proofs.YtnbjkpfpcggopaaGreatDoor.Dl

/- Version vectors, plain law; no program is named here. -/
namespace Go.Proofs.YtnbjkpfpcggopaaGreatDoor.Ev
open Go Go.Lib Go.Proofs.YtnbjkpfpcggopaaGreatDoor.PAll Go.Proofs.YtnbjkpfpcggopaaGreatDoor.Dl Go.Proofs.YtnbjkpfpcggopaaGreatDoor.Dx

abbrev okS (x : S25) : Prop := okDot x.f0 x.f1
/-- The counter of a replica in a vector, 0 if there is none. -/
def getV : List S25 → Int → Int
  | [], _ => 0
  | x :: xs, r => if x.f0 = r then x.f1 else getV xs r
/-- The greatest counter of a replica in a list, 0 if there is none. -/
def mx : List S25 → Int → Int
  | [], _ => 0
  | x :: xs, r => if x.f0 = r then max x.f1 (mx xs r) else mx xs r
def SrtV (l : List S25) : Prop := l.Pairwise (fun a b => a.f0 < b.f0)
instance (l : List S25) : Decidable (SrtV l) := inferInstanceAs (Decidable (l.Pairwise fun a b => a.f0 < b.f0))
def VOk (l : List S25) : Prop := SrtV l ∧ ∀ x ∈ l, okS x
instance (l : List S25) : Decidable (VOk l) := inferInstanceAs (Decidable (SrtV l ∧ ∀ x ∈ l, okS x))
/-- A vector with one more dot. -/
def raiseP : List S25 → S25 → List S25
  | [], d => [d]
  | x :: v, d => if x.f0 < d.f0 then x :: raiseP v d else if x.f0 = d.f0 then ⟨d.f0, max x.f1 d.f1⟩ :: v else d :: x :: v
def mergeV (a b : List S25) : List S25 := b.foldl raiseP a
def madeV (l : List S25) : List S25 := mergeV [] l
theorem merge_app (a b c : List S25) : mergeV (mergeV a b) c = mergeV a (b ++ c) := by unfold mergeV; rw [List.foldl_append]
theorem merge_snoc (a b : List S25) (x : S25) : mergeV a (b ++ [x]) = raiseP (mergeV a b) x := by rw [← merge_app]; rfl

theorem len_raise (v : List S25) (d : S25) : (raiseP v d).length ≤ v.length + 1 := by
  induction v with
  | nil => exact Nat.le_refl _
  | cons x v ih =>
    unfold raiseP
    split
    · simp; omega
    · split <;> simp
theorem len_merge (a b : List S25) : (mergeV a b).length ≤ a.length + b.length := by
  induction b generalizing a with
  | nil => exact Nat.le_refl _
  | cons x b ih =>
    have h1 := ih (raiseP a x)
    have h2 := len_raise a x
    show (mergeV (raiseP a x) b).length ≤ a.length + (b.length + 1)
    omega
theorem mem_raise {v : List S25} {d y : S25} (h : y ∈ raiseP v d) : y ∈ v ∨ y = d ∨ ∃ x ∈ v, x.f0 = d.f0 ∧ y = ⟨d.f0, max x.f1 d.f1⟩ := by
  induction v with
  | nil => right; left; simpa [raiseP] using h
  | cons x v ih =>
    unfold raiseP at h
    split at h
    · rcases List.mem_cons.1 h with rfl | h
      · exact .inl List.mem_cons_self
      · rcases ih h with q | q | ⟨z, hz, q⟩
        · exact .inl (List.mem_cons_of_mem _ q)
        · exact .inr (.inl q)
        · exact .inr (.inr ⟨z, List.mem_cons_of_mem _ hz, q⟩)
    · split at h
      · rename_i e
        rcases List.mem_cons.1 h with rfl | h
        · exact .inr (.inr ⟨x, List.mem_cons_self, e, rfl⟩)
        · exact .inl (List.mem_cons_of_mem _ h)
      · rcases List.mem_cons.1 h with rfl | h
        · exact .inr (.inl rfl)
        · exact .inl h
theorem srt_raise {v : List S25} (h : SrtV v) (d : S25) : SrtV (raiseP v d) := by
  induction v with
  | nil => exact List.pairwise_singleton _ _
  | cons x v ih =>
    obtain ⟨h1, h2⟩ := List.pairwise_cons.1 h
    unfold raiseP
    split
    · rename_i hl
      refine List.pairwise_cons.2 ⟨fun y hy => ?_, ih h2⟩
      rcases mem_raise hy with q | rfl | ⟨z, hz, e, rfl⟩
      · exact h1 y q
      · exact hl
      · exact hl
    · split
      · rename_i e
        exact List.pairwise_cons.2 ⟨fun y hy => by have := h1 y hy; show d.f0 < y.f0; omega, h2⟩
      · refine List.pairwise_cons.2 ⟨fun y hy => ?_, h⟩
        rcases List.mem_cons.1 hy with rfl | hy
        · omega
        · have := h1 y hy; omega
theorem ok_max {x d : S25} (hx : okS x) (hd : okS d) : okS ⟨d.f0, max x.f1 d.f1⟩ := by
  unfold okS okDot at *
  dsimp only
  omega
theorem ok_raise {v : List S25} (h : VOk v) {d : S25} (hd : okS d) : VOk (raiseP v d) := by
  refine ⟨srt_raise h.1 d, fun y hy => ?_⟩
  rcases mem_raise hy with q | rfl | ⟨z, hz, e, rfl⟩
  · exact h.2 y q
  · exact hd
  · exact ok_max (h.2 z hz) hd
theorem ok_merge {a : List S25} (h : VOk a) {b : List S25} (hb : ∀ x ∈ b, okS x) : VOk (mergeV a b) := by
  induction b generalizing a with
  | nil => exact h
  | cons x b ih => exact ih (ok_raise h (hb x List.mem_cons_self)) (fun y hy => hb y (List.mem_cons_of_mem _ hy))
theorem ok_nil : VOk [] := ⟨List.Pairwise.nil, fun _ h => absurd h (by simp)⟩
theorem ok_made {l : List S25} (h : ∀ x ∈ l, okS x) : VOk (madeV l) := ok_merge ok_nil h
theorem ok_tail {x : S25} {v : List S25} (h : VOk (x :: v)) : VOk v := ⟨(List.pairwise_cons.1 h.1).2, fun y hy => h.2 y (List.mem_cons_of_mem _ hy)⟩

theorem get_nneg {v : List S25} (h : ∀ x ∈ v, okS x) (r : Int) : 0 ≤ getV v r := by
  induction v with
  | nil => exact Int.le_refl _
  | cons x v ih =>
    unfold getV
    split
    · have := h x List.mem_cons_self; unfold okS okDot at this; omega
    · exact ih (fun y hy => h y (List.mem_cons_of_mem _ hy))
theorem get_other {v : List S25} {r : Int} (h : ∀ x ∈ v, x.f0 ≠ r) : getV v r = 0 := by
  induction v with
  | nil => rfl
  | cons x v ih => unfold getV; rw [if_neg (h x List.mem_cons_self)]; exact ih (fun y hy => h y (List.mem_cons_of_mem _ hy))
theorem get_mem {v : List S25} (hs : SrtV v) {x : S25} (hx : x ∈ v) : getV v x.f0 = x.f1 := by
  induction v with
  | nil => simp at hx
  | cons y v ih =>
    obtain ⟨h1, h2⟩ := List.pairwise_cons.1 hs
    unfold getV
    rcases List.mem_cons.1 hx with rfl | hx
    · rw [if_pos rfl]
    · have := h1 x hx
      rw [if_neg (by omega)]
      exact ih h2 hx
theorem get_pos {v : List S25} (h : VOk v) {r : Int} (hp : 0 < getV v r) : (⟨r, getV v r⟩ : S25) ∈ v := by
  induction v with
  | nil => simp [getV] at hp
  | cons y v ih =>
    unfold getV at hp ⊢
    by_cases e : y.f0 = r
    · rw [if_pos e]
      have : y = ⟨r, y.f1⟩ := ext_D e rfl
      rw [← this]
      exact List.mem_cons_self
    · rw [if_neg e] at hp ⊢
      exact List.mem_cons_of_mem _ (ih (ok_tail h) hp)
theorem get_raise {v : List S25} (h : VOk v) {d : S25} (hd : okS d) (r : Int) : getV (raiseP v d) r = if d.f0 = r then max (getV v r) d.f1 else getV v r := by
  have hd1 : 1 ≤ d.f1 := hd.2.2.1
  induction v with
  | nil =>
    show (if d.f0 = r then d.f1 else 0) = _
    by_cases e : d.f0 = r
    · rw [if_pos e, if_pos e]; show d.f1 = max 0 d.f1; omega
    · rw [if_neg e, if_neg e]; rfl
  | cons x v ih =>
    obtain ⟨h1, h2⟩ := List.pairwise_cons.1 h.1
    unfold raiseP
    by_cases hl : x.f0 < d.f0
    · rw [if_pos hl]
      show (if x.f0 = r then x.f1 else getV (raiseP v d) r) = _
      rw [ih (ok_tail h)]
      show _ = if d.f0 = r then max (if x.f0 = r then x.f1 else getV v r) d.f1 else (if x.f0 = r then x.f1 else getV v r)
      by_cases e : x.f0 = r
      · rw [if_pos e, if_neg (by omega), if_pos e]
      · rw [if_neg e, if_neg e]
    · rw [if_neg hl]
      by_cases he : x.f0 = d.f0
      · rw [if_pos he]
        show (if d.f0 = r then max x.f1 d.f1 else getV v r) = if d.f0 = r then max (if x.f0 = r then x.f1 else getV v r) d.f1 else (if x.f0 = r then x.f1 else getV v r)
        by_cases e : d.f0 = r
        · rw [if_pos e, if_pos e, if_pos (he.trans e)]
        · rw [if_neg e, if_neg e, if_neg (fun q => e (he ▸ q))]
      · rw [if_neg he]
        show (if d.f0 = r then d.f1 else getV (x :: v) r) = _
        by_cases e : d.f0 = r
        · rw [if_pos e, if_pos e]
          have : getV (x :: v) r = 0 := get_other fun y hy => by
            rcases List.mem_cons.1 hy with rfl | hy
            · omega
            · have := h1 y hy; omega
          rw [this]
          omega
        · rw [if_neg e, if_neg e]
theorem get_merge {a : List S25} (ha : VOk a) {b : List S25} (hb : ∀ x ∈ b, okS x) (r : Int) : getV (mergeV a b) r = max (getV a r) (mx b r) := by
  induction b generalizing a with
  | nil => show getV a r = max (getV a r) 0; have := get_nneg ha.2 r; omega
  | cons x b ih =>
    have hx := hb x List.mem_cons_self
    show getV (mergeV (raiseP a x) b) r = _
    rw [ih (ok_raise ha hx) (fun y hy => hb y (List.mem_cons_of_mem _ hy)), get_raise ha hx]
    show _ = max (getV a r) (if x.f0 = r then max x.f1 (mx b r) else mx b r)
    by_cases e : x.f0 = r
    · rw [if_pos e, if_pos e]; omega
    · rw [if_neg e, if_neg e]
theorem mx_nneg (l : List S25) (r : Int) : 0 ≤ mx l r := by
  induction l with
  | nil => exact Int.le_refl _
  | cons x l ih => unfold mx; split <;> omega
theorem mx_ok {v : List S25} (h : VOk v) (r : Int) : mx v r = getV v r := by
  induction v with
  | nil => rfl
  | cons x v ih =>
    obtain ⟨h1, h2⟩ := List.pairwise_cons.1 h.1
    have hx := h.2 x List.mem_cons_self
    have ht := ih (ok_tail h)
    unfold mx getV
    by_cases e : x.f0 = r
    · rw [if_pos e, if_pos e, ht, get_other (fun y hy => by have := h1 y hy; omega)]
      unfold okS okDot at hx
      omega
    · rw [if_neg e, if_neg e, ht]
theorem mx_app (a b : List S25) (r : Int) : mx (a ++ b) r = max (mx a r) (mx b r) := by
  induction a with
  | nil => show mx b r = max 0 (mx b r); have := mx_nneg b r; omega
  | cons x a ih =>
    show (if x.f0 = r then max x.f1 (mx (a ++ b) r) else mx (a ++ b) r) = max (if x.f0 = r then max x.f1 (mx a r) else mx a r) (mx b r)
    rw [ih]
    by_cases e : x.f0 = r
    · rw [if_pos e, if_pos e]; omega
    · rw [if_neg e, if_neg e]
theorem mx_one (x : S25) (r : Int) : mx [x] r = if x.f0 = r then max x.f1 0 else 0 := rfl
theorem get_made {l : List S25} (h : ∀ x ∈ l, okS x) (r : Int) : getV (madeV l) r = mx l r := by
  rw [madeV, get_merge ok_nil h]
  show max 0 (mx l r) = _
  have := mx_nneg l r
  omega
/-- Valid vectors with the same counters are equal. -/
theorem v_ext : ∀ {a b : List S25}, VOk a → VOk b → (∀ r, getV a r = getV b r) → a = b
  | [], [], _, _, _ => rfl
  | [], y :: b, _, hb, h => by
    have := h y.f0
    have hy := hb.2 y List.mem_cons_self
    rw [get_mem hb.1 List.mem_cons_self] at this
    unfold okS okDot at hy
    have e : (0 : Int) = y.f1 := this
    omega
  | x :: a, [], ha, _, h => by
    have := h x.f0
    have hx := ha.2 x List.mem_cons_self
    rw [get_mem ha.1 List.mem_cons_self] at this
    unfold okS okDot at hx
    have e : x.f1 = (0 : Int) := this
    omega
  | x :: a, y :: b, ha, hb, h => by
    obtain ⟨a1, a2⟩ := List.pairwise_cons.1 ha.1
    obtain ⟨b1, b2⟩ := List.pairwise_cons.1 hb.1
    have hx := ha.2 x List.mem_cons_self
    have hy := hb.2 y List.mem_cons_self
    unfold okS okDot at hx hy
    have e : x.f0 = y.f0 := by
      rcases Int.lt_trichotomy x.f0 y.f0 with q | q | q
      · have h1 := h x.f0
        rw [get_mem ha.1 List.mem_cons_self, get_other (fun z hz => by
          rcases List.mem_cons.1 hz with rfl | hz
          · omega
          · have := b1 z hz; omega)] at h1
        omega
      · exact q
      · have h1 := h y.f0
        rw [get_mem hb.1 List.mem_cons_self, get_other (fun z hz => by
          rcases List.mem_cons.1 hz with rfl | hz
          · omega
          · have := a1 z hz; omega)] at h1
        omega
    have e1 : x.f1 = y.f1 := by
      have h1 := h x.f0
      rw [get_mem ha.1 List.mem_cons_self, e, get_mem hb.1 List.mem_cons_self] at h1
      exact h1
    rw [ext_D e e1, v_ext (ok_tail ha) (ok_tail hb) fun r => ?_]
    have h1 := h r
    unfold getV at h1
    by_cases k : x.f0 = r
    · rw [get_other (fun z hz => by have := a1 z hz; omega), get_other (fun z hz => by have := b1 z hz; omega)]
    · rw [if_neg k, if_neg (by omega)] at h1
      exact h1
theorem made_ok {v : List S25} (h : VOk v) : madeV v = v := v_ext (ok_made h.2) h fun r => by rw [get_made h.2, mx_ok h]
theorem made_two {a b : List S25} (ha : VOk a) : madeV (a ++ b) = mergeV a b := by
  show mergeV [] (a ++ b) = _
  rw [← merge_app]
  show mergeV (madeV a) b = _
  rw [made_ok ha]
theorem get_merge' {a b : List S25} (ha : VOk a) (hb : VOk b) (r : Int) : getV (mergeV a b) r = max (getV a r) (getV b r) := by rw [get_merge ha hb.2, mx_ok hb]
theorem merge_comm {a b : List S25} (ha : VOk a) (hb : VOk b) : mergeV a b = mergeV b a :=
  v_ext (ok_merge ha hb.2) (ok_merge hb ha.2) fun r => by rw [get_merge' ha hb, get_merge' hb ha, Int.max_comm]
theorem merge_self {a : List S25} (ha : VOk a) : mergeV a a = a :=
  v_ext (ok_merge ha ha.2) ha fun r => by rw [get_merge' ha ha]; omega
theorem merge_assoc {a b c : List S25} (ha : VOk a) (hb : VOk b) (hc : VOk c) : mergeV (mergeV a b) c = mergeV a (mergeV b c) :=
  v_ext (ok_merge (ok_merge ha hb.2) hc.2) (ok_merge ha (ok_merge hb hc.2).2) fun r => by
    rw [get_merge' (ok_merge ha hb.2) hc, get_merge' ha hb, get_merge' ha (ok_merge hb hc.2), get_merge' hb hc]
    omega
/-- All dots of a vector are in another one. -/
def within (a b : List S25) : Prop := ∀ x ∈ a, x.f1 ≤ getV b x.f0
instance (a b : List S25) : Decidable (within a b) := inferInstanceAs (Decidable (∀ x ∈ a, x.f1 ≤ getV b x.f0))
theorem within_iff {a b : List S25} (ha : VOk a) (hb : VOk b) : within a b ↔ ∀ r, getV a r ≤ getV b r := by
  constructor
  · intro h r
    rcases Int.lt_or_le 0 (getV a r) with q | q
    · exact h _ (get_pos ha q)
    · have := get_nneg hb.2 r; omega
  · intro h x hx
    have := h x.f0
    rwa [get_mem ha.1 hx] at this
theorem within_merge {a b : List S25} (ha : VOk a) (hb : VOk b) : within a b ↔ mergeV a b = b := by
  rw [within_iff ha hb]
  constructor
  · intro h
    exact v_ext (ok_merge ha hb.2) hb fun r => by rw [get_merge' ha hb]; have := h r; omega
  · intro h r
    have := get_merge' ha hb r
    rw [h] at this
    omega
theorem within_anti {a b : List S25} (ha : VOk a) (hb : VOk b) (h : within a b) (k : within b a) : a = b :=
  v_ext ha hb fun r => by have h1 := (within_iff ha hb).1 h r; have h2 := (within_iff hb ha).1 k r; omega
/-- The order of two valid vectors. -/
def ordV (a b : List S25) : Int := if within a b ∧ within b a then 0 else if within a b then -1 else if within b a then 1 else 2
def hasV (v : List S25) (d : S25) : Prop := okS d ∧ d.f1 ≤ getV v d.f0
instance (v : List S25) (d : S25) : Decidable (hasV v d) := inferInstanceAs (Decidable (okS d ∧ d.f1 ≤ getV v d.f0))
theorem has_raise {v : List S25} (h : VOk v) {d : S25} (hd : hasV v d) : raiseP v d = v :=
  v_ext (ok_raise h hd.1) h fun r => by
    rw [get_raise h hd.1]
    by_cases e : d.f0 = r
    · subst e; rw [if_pos rfl]; have := hd.2; omega
    · rw [if_neg e]
theorem has_merge {a b : List S25} (ha : VOk a) (hb : VOk b) (d : S25) : hasV (mergeV a b) d ↔ hasV a d ∨ hasV b d := by
  unfold hasV
  rw [get_merge' ha hb]
  constructor
  · rintro ⟨h, k⟩
    rcases Int.le_total (getV a d.f0) (getV b d.f0) with q | q
    · exact .inr ⟨h, by omega⟩
    · exact .inl ⟨h, by omega⟩
  · rintro (⟨h, k⟩ | ⟨h, k⟩) <;> exact ⟨h, by omega⟩
/-- What was collected and sorted is the vector. -/
theorem made_of {l ys : List S25} (hl : ∀ x ∈ l, okS x) (hs : SrtV ys) (hm : ∀ y, y ∈ ys ↔ (∃ x ∈ l, x.f0 = y.f0) ∧ y.f1 = mx l y.f0) : ys = madeV l := by
  have pos : ∀ {l : List S25}, (∀ x ∈ l, okS x) → ∀ r, (∃ x ∈ l, x.f0 = r) → ∃ x ∈ l, x.f0 = r ∧ mx l r = x.f1 := by
    intro l
    induction l with
    | nil => rintro _ r ⟨x, hx, _⟩; simp at hx
    | cons z l ih =>
      intro hl r hr
      have hz := hl z List.mem_cons_self
      unfold okS okDot at hz
      by_cases hk : ∃ x ∈ l, x.f0 = r
      · obtain ⟨y, hy, e1, e2⟩ := ih (fun y hy => hl y (List.mem_cons_of_mem _ hy)) r hk
        by_cases e : z.f0 = r
        · by_cases q : mx l r ≤ z.f1
          · exact ⟨z, List.mem_cons_self, e, by unfold mx; rw [if_pos e]; omega⟩
          · exact ⟨y, List.mem_cons_of_mem _ hy, e1, by unfold mx; rw [if_pos e]; omega⟩
        · exact ⟨y, List.mem_cons_of_mem _ hy, e1, by unfold mx; rw [if_neg e]; exact e2⟩
      · obtain ⟨x, hx, e⟩ := hr
        rcases List.mem_cons.1 hx with rfl | hx
        · refine ⟨x, List.mem_cons_self, e, ?_⟩
          have : ∀ {l : List S25}, (¬ ∃ x ∈ l, x.f0 = r) → mx l r = 0 := by
            intro l
            induction l with
            | nil => intro _; rfl
            | cons y l ih2 =>
              intro h
              unfold mx
              rw [if_neg (fun q => h ⟨y, List.mem_cons_self, q⟩)]
              exact ih2 (fun ⟨x, hx, q⟩ => h ⟨x, List.mem_cons_of_mem _ hx, q⟩)
          unfold mx
          rw [if_pos e, this hk]
          omega
        · exact absurd ⟨x, hx, e⟩ hk
  have ok : VOk ys := ⟨hs, fun y hy => by
    obtain ⟨hr, e⟩ := (hm y).1 hy
    obtain ⟨x, hx, e1, e2⟩ := pos hl y.f0 hr
    have := hl x hx
    have e3 : y = x := ext_D e1.symm (by rw [e, e2])
    rw [e3]; exact this⟩
  refine v_ext ok (ok_made hl) fun r => ?_
  rw [get_made hl]
  by_cases hr : ∃ x ∈ l, x.f0 = r
  · have : (⟨r, mx l r⟩ : S25) ∈ ys := (hm _).2 ⟨hr, rfl⟩
    exact get_mem hs this
  · have e0 : mx l r = 0 := by
      rcases Int.lt_or_le 0 (mx l r) with q | q
      · have hg := get_made hl r
        have hp : 0 < getV (madeV l) r := by omega
        exfalso
        apply hr
        clear hg hp
        clear hm ok hs pos
        induction l with
        | nil => simp [mx] at q
        | cons z l ih =>
          by_cases e : z.f0 = r
          · exact ⟨z, List.mem_cons_self, e⟩
          · unfold mx at q
            rw [if_neg e] at q
            obtain ⟨x, hx, e'⟩ := ih (fun y hy => hl y (List.mem_cons_of_mem _ hy)) (fun ⟨x, hx, e'⟩ => hr ⟨x, List.mem_cons_of_mem _ hx, e'⟩) q
            exact ⟨x, List.mem_cons_of_mem _ hx, e'⟩
      · have := mx_nneg l r; omega
    rw [e0]
    refine get_other fun y hy e => hr ?_
    obtain ⟨⟨x, hx, e1⟩, _⟩ := (hm y).1 hy
    exact ⟨x, hx, e1.trans e⟩
end Go.Proofs.YtnbjkpfpcggopaaGreatDoor.Ev

namespace Go.Proofs.YtnbjkpfpcggopaaGreatDoor.Ev
open Go Go.Lib Go.Maps Go.Proofs.YtnbjkpfpcggopaaGreatDoor.PAll Go.Proofs.YtnbjkpfpcggopaaGreatDoor.Dl Go.Proofs.YtnbjkpfpcggopaaGreatDoor.Dx

section
variable {H : Type}
/-- The map holds the greatest counter of each replica. -/
def Mo (D : DataW H) (xs : List S25) : Prop := IsMap D ∧ (∀ r, has D (.int .i64 r) = decide (∃ x ∈ xs, x.f0 = r)) ∧ ∀ r, D.atKey (.int .i64 r) (.lit (.int .i64 0)) = .lit (.int .i64 (mx xs r))
theorem mo_nil : Mo (.map [] : DataW H) [] := by
  refine ⟨isMap_empty, fun r => ?_, fun r => ?_⟩
  · rw [has_eq]; simp
  · exact atKey_of_not_has (by rw [has_eq]; rfl) _
theorem keyI (r : Int) : WideAt.IsKeyLit (.int .i64 r) := trivial
theorem mo_snoc {D : DataW H} {xs : List S25} (h : Mo D xs) (x : S25) (c : Int) (hc : c = max (mx xs x.f0) x.f1) : Mo (D.put (.int .i64 x.f0) (.lit (.int .i64 c))) (xs ++ [x]) := by
  obtain ⟨h1, h2, h3⟩ := h
  refine ⟨h1.put _ _, fun r => ?_, fun r => ?_⟩
  · by_cases e : r = x.f0
    · subst e
      rw [has_put_same h1 (keyI _)]
      exact (decide_eq_true ⟨x, by simp, rfl⟩).symm
    · rw [has_put_other (fun q => e (by injection q)), h2]
      refine decide_eq_decide.2 ⟨?_, ?_⟩
      · rintro ⟨y, hy, q⟩; exact ⟨y, by simp [hy], q⟩
      · rintro ⟨y, hy, q⟩
        rcases List.mem_append.1 hy with hy | hy
        · exact ⟨y, hy, q⟩
        · rw [List.mem_singleton] at hy
          subst hy
          exact absurd q.symm e
  · rw [mx_app, mx_one]
    by_cases e : r = x.f0
    · subst e
      rw [atKey_put_same h1 (keyI _), if_pos rfl, hc]
      have := mx_nneg xs x.f0
      congr 2
      omega
    · rw [atKey_put_other (fun q => e (by injection q)), h3, if_neg (fun q => e q.symm)]
      have := mx_nneg xs r
      congr 2
      omega
/-- What has come out of the map. -/
def Cl (D : DataW H) (left : Lit → Bool) (out : List S25) : Prop := (∀ y : S25, y ∈ out ↔ has D (.int .i64 y.f0) = true ∧ left (.int .i64 y.f0) = false ∧ D.atKey (.int .i64 y.f0) (.lit (.int .i64 0)) = .lit (.int .i64 y.f1)) ∧ out.Pairwise (fun a b => a.f0 ≠ b.f0)
theorem cl_start (D : DataW H) : Cl D (has D) [] := by
  refine ⟨fun y => ⟨fun h => absurd h (by simp), fun ⟨h1, h2, _⟩ => ?_⟩, List.Pairwise.nil⟩
  rw [h1] at h2; cases h2
theorem cl_step {D : DataW H} {left : Lit → Bool} {out : List S25} (h : Cl D left out) (x c : Int) (hl : left (.int .i64 x) = true) (hat : ∀ zd, D.atKey (.int .i64 x) zd = .lit (.int .i64 c)) :
    Cl D (fun z => left z && !z.sameKey (.int .i64 x)) (out ++ [⟨x, c⟩]) := by
  obtain ⟨h1, h2⟩ := h
  have hx : ∀ y ∈ out, y.f0 ≠ x := fun y hy e => by
    have := ((h1 y).1 hy).2.1
    rw [e, hl] at this
    cases this
  refine ⟨fun y => ?_, ?_⟩
  · by_cases e : y.f0 = x
    · constructor
      · intro hy
        rcases List.mem_append.1 hy with hy | hy
        · exact absurd e (hx y hy)
        · rw [List.mem_singleton] at hy
          subst hy
          refine ⟨has_true_of_atKey hat, ?_, hat _⟩
          show (left (.int .i64 x) && !(Lit.int .i64 x).sameKey (.int .i64 x)) = false
          rw [WideAt.sameKey_self (keyI x)]
          simp
      · rintro ⟨_, _, q⟩
        rw [e, hat] at q
        have : y = ⟨x, c⟩ := ext_D e (by injection q with q; injection q with _ q; exact q.symm)
        rw [this]
        simp
    · have es : (left (.int .i64 y.f0) && !(Lit.int .i64 y.f0).sameKey (.int .i64 x)) = left (.int .i64 y.f0) := by
        rw [sameKey_ne (fun q => e (by injection q))]; simp
      show _ ↔ _ ∧ (left (.int .i64 y.f0) && !(Lit.int .i64 y.f0).sameKey (.int .i64 x)) = false ∧ _
      rw [es, ← h1 y]
      constructor
      · intro hy
        rcases List.mem_append.1 hy with hy | hy
        · exact hy
        · rw [List.mem_singleton] at hy
          subst hy
          exact absurd rfl e
      · intro hy
        exact List.mem_append.2 (.inl hy)
  · rw [List.pairwise_append]
    refine ⟨h2, List.pairwise_singleton _ _, fun a ha b hb => ?_⟩
    rw [List.mem_singleton] at hb
    subst hb
    exact hx a ha
theorem cl_end {D : DataW H} {left : Lit → Bool} {out l : List S25} (h : Cl D left out) (hm : Mo D l) (hl : ∀ kl, left kl = false) (y : S25) : y ∈ out ↔ (∃ x ∈ l, x.f0 = y.f0) ∧ y.f1 = mx l y.f0 := by
  rw [h.1 y, hm.2.1, hm.2.2, hl]
  constructor
  · rintro ⟨h1, _, h2⟩
    exact ⟨of_decide_eq_true h1, by injection h2 with h2; injection h2 with _ h2; exact h2.symm⟩
  · rintro ⟨h1, h2⟩
    exact ⟨decide_eq_true h1, rfl, by rw [h2]⟩
end
/-- Ordered by replicas, and no replica twice: strictly so. -/
theorem srt_of {ys : List S25} (h : ∀ i j, i < j → j < ys.length → ¬ ys.toArray[j]!.f0 < ys.toArray[i]!.f0) (hp : ys.Pairwise (fun a b => a.f0 ≠ b.f0)) : SrtV ys := by
  rw [SrtV, List.pairwise_iff_getElem]
  intro i j hi hj hij
  have h1 := h i j hij hj
  have h2 := List.pairwise_iff_getElem.1 hp i j hi hj hij
  rw [getElem!_pos ys.toArray i (by simpa using hi), getElem!_pos ys.toArray j (by simpa using hj)] at h1
  simp only [List.getElem_toArray] at h1
  omega
end Go.Proofs.YtnbjkpfpcggopaaGreatDoor.Ev

/- The reference's Parse of dots, plain law; no program is named here. -/
namespace Go.Proofs.YtnbjkpfpcggopaaGreatDoor.Dx
open Go

def capM : Nat := 1099511627776
/-- One byte of a text: the number that is read (the first, or behind the point the second) grows, or the point comes. -/
def pst (st : Nat × Nat × Bool) (c : UInt8) : Option (Nat × Nat × Bool) :=
  if 48 ≤ c.toNat ∧ c.toNat ≤ 57 then some (if st.2.2 = true then (st.1, min capM (10 * st.2.1 + (c.toNat - 48)), true) else (min capM (10 * st.1 + (c.toNat - 48)), st.2.1, false))
  else if c.toNat = 46 ∧ st.2.2 = false then some (st.1, st.2.1, true) else none
def prun : List UInt8 → Nat × Nat × Bool → Option (Nat × Nat × Bool)
  | [], st => some st
  | c :: l, st => (pst st c).bind (prun l)
/-- What the reference's Parse returns. -/
def refP (s : ByteArray) : Int × Int × Bool :=
  if s.data.toList = rootL then (0, 0, true)
  else match prun s.data.toList (0, 0, false) with
    | none => (0, 0, false)
    | some st => if okDot st.1 st.2.1 ∧ dtL st.1 st.2.1 = s.data.toList then (st.1, st.2.1, true) else (0, 0, false)
theorem prun_app : ∀ (a b : List UInt8) (st : Nat × Nat × Bool), prun (a ++ b) st = (prun a st).bind (prun b)
  | [], b, st => rfl
  | c :: a, b, st => by
    rw [List.cons_append, prun, prun]
    cases pst st c with
    | none => rfl
    | some st' => exact prun_app a b st'
theorem pst_digit (st : Nat × Nat × Bool) (d : Nat) (hd : d < 10) : pst st (UInt8.ofNat (48 + d)) = some (if st.2.2 = true then (st.1, min capM (10 * st.2.1 + d), true) else (min capM (10 * st.1 + d), st.2.1, false)) := by
  have e : (UInt8.ofNat (48 + d)).toNat = 48 + d := ofNat_toNat (by omega)
  unfold pst
  rw [e, if_pos (by omega), show 48 + d - 48 = d by omega]
theorem prun_dec0 (b : Nat) : ∀ u, u < capM → prun (Lib.decDigits u) (0, b, false) = some (u, b, false) := by
  intro u
  induction u using Nat.strongRecOn with
  | _ u ih =>
    intro hu
    by_cases h : u < 10
    · rw [dec_one h, prun, pst_digit _ _ h, if_neg (by simp)]
      show some (min capM (10 * 0 + u), b, false) = _
      rw [Nat.min_eq_right (by omega)]
      congr 2
      omega
    · rw [dec_step h, prun_app, ih (u / 10) (by omega) (by omega), Option.bind_some, prun, pst_digit _ _ (by omega), if_neg (by simp)]
      show some (min capM (10 * (u / 10) + u % 10), b, false) = _
      rw [Nat.min_eq_right (by omega)]
      congr 2
      omega
theorem prun_dec1 (a : Nat) : ∀ u, u < capM → prun (Lib.decDigits u) (a, 0, true) = some (a, u, true) := by
  intro u
  induction u using Nat.strongRecOn with
  | _ u ih =>
    intro hu
    by_cases h : u < 10
    · rw [dec_one h, prun, pst_digit _ _ h, if_pos (by simp)]
      show some (a, min capM (10 * 0 + u), true) = _
      rw [Nat.min_eq_right (by omega)]
      congr 3
      omega
    · rw [dec_step h, prun_app, ih (u / 10) (by omega) (by omega), Option.bind_some, prun, pst_digit _ _ (by omega), if_pos (by simp)]
      show some (a, min capM (10 * (u / 10) + u % 10), true) = _
      rw [Nat.min_eq_right (by omega)]
      congr 3
      omega
theorem prun_dot {r c : Int} (h : okDot r c) : prun (dtL r c) (0, 0, false) = some (r.toNat, c.toNat, true) := by
  have h2 := h.2.1
  have h4 := h.2.2.2
  rw [dtL_dot h, prun_app, prun_dec0 0 _ (by unfold capM; omega), Option.bind_some, prun]
  show (pst (r.toNat, 0, false) 46).bind _ = _
  have e : pst (r.toNat, 0, false) 46 = some (r.toNat, 0, true) := rfl
  rw [e, Option.bind_some, prun_dec1 _ _ (by unfold capM; omega)]
theorem pst_d0 (a b : Nat) (c : UInt8) (h : 48 ≤ c.toNat) (h2 : c.toNat ≤ 57) : pst (a, b, false) c = some (min capM (10 * a + (c.toNat - 48)), b, false) := by
  unfold pst; rw [if_pos ⟨h, h2⟩]; rfl
theorem pst_d1 (a b : Nat) (c : UInt8) (h : 48 ≤ c.toNat) (h2 : c.toNat ≤ 57) : pst (a, b, true) c = some (a, min capM (10 * b + (c.toNat - 48)), true) := by
  unfold pst; rw [if_pos ⟨h, h2⟩]; rfl
theorem pst_p (a b : Nat) (c : UInt8) (h : c.toNat = 46) : pst (a, b, false) c = some (a, b, true) := by
  unfold pst; rw [if_neg (by omega), if_pos ⟨h, rfl⟩]
theorem pst_no (a b : Nat) (k : Bool) (c : UInt8) (h : ¬ (48 ≤ c.toNat ∧ c.toNat ≤ 57)) (h2 : ¬ (c.toNat = 46 ∧ k = false)) : pst (a, b, k) c = none := by
  unfold pst; rw [if_neg h, if_neg h2]
theorem refP_none {s : ByteArray} (h0 : s.data.toList ≠ rootL) (h : prun s.data.toList (0, 0, false) = none) : refP s = (0, 0, false) := by
  unfold refP; rw [if_neg h0, h]
theorem refP_some {s : ByteArray} {a b : Nat} {k : Bool} (h0 : s.data.toList ≠ rootL) (h : prun s.data.toList (0, 0, false) = some (a, b, k)) : refP s = if okDot a b ∧ dtL a b = s.data.toList then ((a : Int), (b : Int), true) else (0, 0, false) := by
  unfold refP; rw [if_neg h0, h]
theorem cap_min (n q : Nat) (h : 48 ≤ q) : (if 10 * (n : Int) + q - 48 < 1099511627776 then 10 * (n : Int) + q - 48 else 1099511627776) = ((min capM (10 * n + (q - 48)) : Nat) : Int) := by
  unfold capM
  split <;> omega
theorem cap_min2 (n q : Nat) (h : 48 ≤ q) : min (1099511627776 : Int) (10 * (n : Int) + q - 48) = ((min capM (10 * n + (q - 48)) : Nat) : Int) := by
  unfold capM
  omega
theorem bytes_eq {s t : ByteArray} (h : s.data.toList = t.data.toList) : s = t := ByteArray.ext (Array.toList_inj.1 h)
theorem refP_eq (s : ByteArray) : refP s = ((dotP s).1, (dotP s).2.1, decide ((dotP s).2.2 = 0)) := by
  by_cases h0 : s.data.toList = rootL
  · unfold refP dotP
    rw [if_pos h0, if_pos h0]
    rfl
  · by_cases h : ∃ r c, okDot r c ∧ dtL r c = s.data.toList
    · obtain ⟨r, c, hr, he⟩ := h
      have es : s = dtP r c := bytes_eq he.symm
      have e2 : (dtP r c).data.toList = dtL r c := rfl
      have er : ((r.toNat : Nat) : Int) = r := Int.toNat_of_nonneg (by have := hr.1; omega)
      have ec : ((c.toNat : Nat) : Int) = c := Int.toNat_of_nonneg (by have := hr.2.2.1; omega)
      subst es
      unfold refP
      rw [dotP_yes hr, if_neg h0, e2, prun_dot hr]
      show (if okDot ((r.toNat : Nat) : Int) ((c.toNat : Nat) : Int) ∧ dtL ((r.toNat : Nat) : Int) ((c.toNat : Nat) : Int) = dtL r c then (((r.toNat : Nat) : Int), ((c.toNat : Nat) : Int), true) else (0, 0, false)) = _
      rw [er, ec, if_pos ⟨hr, rfl⟩]
      rfl
    · have h : ∀ r c, okDot r c → dtL r c ≠ s.data.toList := fun r c h1 h2 => h ⟨r, c, h1, h2⟩
      rw [dotP_no h0 h]
      unfold refP
      rw [if_neg h0]
      split
      · rfl
      · rw [if_neg (fun q => h _ _ q.1 q.2)]
        rfl
end Go.Proofs.YtnbjkpfpcggopaaGreatDoor.Dx

namespace Go.Proofs.YtnbjkpfpcggopaaGreatDoor.Dx
open Go Go.RowKit Go.Proofs.YtnbjkpfpcggopaaGreatDoorW.PrintWords Go.Proofs.YtnbjkpfpcggopaaGreatDoor.PAll

theorem wr64 {n : Int} (h0 : -9000000000000000000 ≤ n) (h1 : n ≤ 9000000000000000000) : wrap64 n = n := by simp only [wrap64]; omega
theorem dig_one : ∀ n : Fin 10, (⟨#[48, 49, 50, 51, 52, 53, 54, 55, 56, 57]⟩ : ByteArray).extract n.1 (n.1 + 1) = ⟨#[UInt8.ofNat (48 + n.1)]⟩ := by decide +kernel
theorem digits_val : ∀ (k n : Nat), n < 10 ^ (k + 1) → k < 20 → n < 9000000000000000000 → redpencilref04_Digits.f (k + 1) (n : Int) = some ⟨(Lib.decDigits n).toArray⟩ := by
  have one : ∀ (k n : Nat), n < 10 → redpencilref04_Digits.f (k + 1) (n : Int) = some ⟨(Lib.decDigits n).toArray⟩ := by
    intro k n h
    rw [redpencilref04_Digits.f, if_pos (by omega), if_pos (by omega), wr64 (by omega) (by omega), if_pos (by omega), if_pos (by omega), dec_one h, Int.toNat_natCast, show ((n : Int) + 1).toNat = n + 1 by omega, dig_one ⟨n, h⟩]
  intro k
  induction k with
  | zero => intro n h _ _; exact one 0 n (by simpa using h)
  | succ k ih =>
    intro n h hk hn
    by_cases q : n < 10
    · exact one (k + 1) n q
    · have e1 : wrap64 (Int.tdiv (n : Int) 10) = ((n / 10 : Nat) : Int) := by
        rw [Int.tdiv_eq_ediv_of_nonneg (by omega), wr64 (by omega) (by omega)]
        omega
      have e2 : Int.tmod (n : Int) 10 = ((n % 10 : Nat) : Int) := by
        rw [Int.tmod_eq_emod_of_nonneg (by omega)]
        omega
      have h10 : n / 10 < 10 ^ (k + 1) := by rw [Nat.pow_succ] at h; omega
      have l1 := dec_len k (n / 10) h10
      have hs : (⟨(Lib.decDigits (n / 10)).toArray⟩ : ByteArray).size + (⟨(Lib.decDigits (n % 10)).toArray⟩ : ByteArray).size ≤ 9223372036854775807 := by
        show (Lib.decDigits (n / 10)).toArray.size + (Lib.decDigits (n % 10)).toArray.size ≤ _
        rw [List.size_toArray, List.size_toArray, dec_one (show n % 10 < 10 by omega), List.length_singleton]
        omega
      rw [redpencilref04_Digits.f, if_neg (by omega), e1, e2, ih (n / 10) h10 (by omega) (by omega), Option.bind_some, one k (n % 10) (by omega), Option.bind_some, if_pos hs, dec_step q, dec_one (show n % 10 < 10 by omega)]
      congr 1
theorem text_val {r c : Int} (h : okDot r c ∨ (r = 0 ∧ c = 0)) : redpencilref04_Text.f 20 r c = some (dtP r c) := by
  unfold redpencilref04_Text.f redpencilref04_Root.f
  rcases h with h | ⟨rfl, rfl⟩
  · obtain ⟨h1, h2, h3, h4⟩ := h
    have E := dtL_dot ⟨h1, h2, h3, h4⟩
    obtain ⟨m, rfl⟩ : ∃ m : Nat, r = m := ⟨r.toNat, by omega⟩
    obtain ⟨n, rfl⟩ : ∃ n : Nat, c = n := ⟨c.toNat, by omega⟩
    have l1 := dec_len 1 m (by omega)
    have l2 := dec_len 9 n (by omega)
    have s1 : (⟨(Lib.decDigits m).toArray⟩ : ByteArray).size = (Lib.decDigits m).length := List.size_toArray ..
    have s2 : (⟨(Lib.decDigits n).toArray⟩ : ByteArray).size = (Lib.decDigits n).length := List.size_toArray ..
    rw [if_neg (by omega), Option.bind_some, if_neg (by simp), digits_val 19 m (by omega) (by omega) (by omega), Option.bind_some, if_pos (by omega), digits_val 19 n (by omega) (by omega) (by omega), Option.bind_some, if_pos (by rw [ByteArray.size_append, s1, s2]; show _ + 1 + _ ≤ _; omega)]
    congr 1
    unfold dtP
    rw [E, Int.toNat_natCast, Int.toNat_natCast]
    apply ByteArray.ext
    simp [ByteArray.data_append]
  · rfl
end Go.Proofs.YtnbjkpfpcggopaaGreatDoor.Dx

namespace Go.Proofs.YtnbjkpfpcggopaaGreatDoor.Dx
open Go Go.RowKit Go.Proofs Go.Proofs.YtnbjkpfpcggopaaGreatDoorW.PrintWords Go.Proofs.YtnbjkpfpcggopaaGreatDoor.Kit Go.Proofs.YtnbjkpfpcggopaaGreatDoor.PAll
set_option linter.unusedSimpArgs false
set_option linter.unusedVariables false

def RpP (s : ByteArray) (w : World) (en : Ending) (w' : World) : Prop := en = .returned (.tuple #[.agg #[.int .i64 (refP s).1, .int .i64 (refP s).2.1], .bool (refP s).2.2]) ∧ Below w.heap.size w w'
theorem rvalid_be (r c : Int) (w : World) : Calls Tryz.prog 18 #[.agg #[.int .i64 r, .int .i64 c]] w fun e w' => e = .returned (.bool (decide (okDot r c))) ∧ Below w.heap.size w w' := by
  refine redpencilref04_Valid.calls r c _ w ?_
  unfold redpencilref04_Valid.f
  by_cases h1 : r > 0
  · rw [if_pos h1]
    by_cases h2 : r ≤ 64
    · rw [if_pos h2]
      by_cases h3 : c > 0
      · rw [if_pos h3]; congr 1; exact decide_eq_decide.2 (by unfold okDot; omega)
      · rw [if_neg h3, decide_eq_false (by unfold okDot; omega)]
    · rw [if_neg h2, decide_eq_false (by unfold okDot; omega)]
  · rw [if_neg h1, decide_eq_false (by unfold okDot; omega)]
theorem rtext_be (r c : Int) (h : okDot r c) (w : World) : Calls Tryz.prog 44 #[.agg #[.int .i64 r, .int .i64 c]] w fun e w' => e = .returned (.string (dtP r c)) ∧ Below w.heap.size w w' :=
  redpencilref04_Text.calls 20 r c _ w (text_val (.inl h))
theorem str_dec (a b : ByteArray) : (a.toList = b.toList) ↔ a = b := ⟨fun q => ByteArray.ext (Array.toList_inj.1 (by rw [← Lib.toList_data, ← Lib.toList_data]; exact q)), fun q => by rw [q]⟩
theorem res_ct {P : Program} {fn : Func} {p u : Tmp} {ty : TypeId} (h : fn.results = #[.cell p ty, .tmp u]) (tmps : Array Value) (w : World) (g : Nat) (t : TypeId) (cs : Array Value) (fr : Nat × Nat) (d : TypeDesc)
    (hp : tmps.getD p undef = .pointer (some ⟨g, 0, none⟩)) (hg : w.heap[g]? = some (.cells cs t fr))
    (hu : P.underlying ty = some d) (hd : (match d with | .struct _ | .array _ _ => true | _ => false) = true) (hi : (P.info? ty).map (·.size) = some cs.size) :
    (results fn tmps).run P w = .ok (.tuple #[.agg cs, tmps.getD u undef]) w := by
  rw [results_cell_tmp h, hp]
  simp only [asAddr, Sem.run_pure, Result.andThen]
  rw [run_loadVar_row w g t ty cs fr d hg hu hd hi]
set_option maxHeartbeats 8000000 in
set_option maxRecDepth 100000 in
theorem rparse_any (s : ByteArray) (hl : s.size ≤ 1000000) (w : World) : Calls Tryz.prog 45 #[.string s] w (RpP s w) := by
  by_cases h0 : s.data.toList = rootL
  · have E := Lib.hid (show refP s = (0, 0, true) from if_pos h0)
    obtain rfl : s = ⟨#[114, 111, 111, 116]⟩ := bytes_eq h0
    clear hl h0
    go_enter Tryz.func45, Tryz.ntmps45
    go_wp2
    refine bodyPost_ret (res_ct rfl _ _ w.heap.size 25 #[.int .i64 0, .int .i64 0] (0, 0) _ rfl (blk_new w _) Tryz.underlying25 rfl (by kernel_rfl)) rfl ?_
    unfold RpP
    rw [E.out]
    exact ⟨rfl, below_alloc (Below.refl _ _) _⟩
  · have hd : (s.toList == [114, 111, 111, 116]) = false := beq_eq_false_iff_ne.2 fun q => h0 (by rw [← Lib.toList_data]; exact q)
    have H0 := Lib.hid h0
    clear h0
    go_enter Tryz.func45, Tryz.ntmps45
    go_wp2
    go_loopw [5, 6] (fun vk vi wr => ∃ (i a b : Nat) (k : Bool), vk = .int .i64 (if k = true then 1 else 0) ∧ vi = .int .i64 i ∧ i ≤ s.size ∧ a ≤ capM ∧ b ≤ capM ∧ prun (s.data.toList.drop i) (a, b, k) = prun s.data.toList (0, 0, false) ∧ wr.heap[w.heap.size + 1]? = some (.cells #[.int .i64 a, .int .i64 b] 81 (0, 0)) ∧ wr.heap[w.heap.size]? = some (.cells #[.int .i64 0, .int .i64 0] 25 (0, 0)) ∧ Below w.heap.size w wr) (fun _ vi _ => s.size - (intOf vi).toNat)
    case atStart => exact ⟨0, 0, 0, false, rfl, rfl, by omega, by unfold capM; omega, by unfold capM; omega, rfl, (by have h := blk_new (w.alloc (.cells #[.int .i64 0, .int .i64 0] 25)) (.cells #[.int .i64 0, .int .i64 0] 81); rw [show (w.alloc (.cells #[.int .i64 0, .int .i64 0] 25)).heap.size = w.heap.size + 1 from Array.size_push ..] at h; exact h), blk_below (blk_new w _) (below_alloc (Below.refl _ _) _), below_alloc (below_alloc (Below.refl _ _) _) _⟩
    case round =>
      obtain ⟨i, a, b, k, rfl, rfl, hi, ha, hb, hr, hG, hD, hB⟩ := hrel
      by_cases hlt : i < s.size
      · have hlt2 : i < s.data.toList.length := by rw [← Lib.size_eq]; exact hlt
        have hc : ∀ W, (Instr.index 9 (.string s) (.int .i64 (i : Int))).run Tryz.prog W = .ok (.int .u8 ((s.data.toList[i]).toNat : Int)) W := fun W => by
          rw [run_index_string W 9 s .i64 _ Tryz.underlying9, dif_pos ⟨by omega, by omega⟩]
          simp [ByteArray.getElem_eq_getElem_data]
        generalize hq : s.data.toList[i] = c at hc
        have hdrop : s.data.toList.drop i = c :: s.data.toList.drop (i + 1) := by rw [← hq]; exact (List.drop_eq_getElem_cons hlt2)
        have hc256 : c.toNat ≤ 255 := by have := c.toNat_lt; omega
        rw [hdrop, prun] at hr
        have HB := Lib.hid hB
        have HG := Lib.hid hG
        have HD := Lib.hid hD
        have HR := Lib.hid hr
        have hfz : ∀ m, wr.frozen? ⟨w.heap.size + 1, m, none⟩ = false := fun m => blk_frozen hG m
        have f0 := hfz 0
        have f1 := hfz 1
        have p0 : wr.cell? ⟨w.heap.size + 1, 0, none⟩ = some (.int .i64 a) := (blk_cell hG 0).trans rfl
        have p1 : wr.cell? ⟨w.heap.size + 1, 1, none⟩ = some (.int .i64 b) := (blk_cell hG 1).trans rfl
        clear hfz hB hG hD hr hdrop hq hlt2
        unfold capM at ha hb
        generalize hqn : c.toNat = q at hc hc256
        have HQ := Lib.hid hqn
        by_cases hdig : 48 ≤ q ∧ q ≤ 57
        · obtain ⟨hd0, hd1⟩ := hdig
          cases k with
          | false =>
            go_wp2
            go_big_region
            first | rw [cap_min a q hd0] | rw [cap_min2 a q hd0]
            go_wp2
            go_roundw
            case rel => exact ⟨i + 1, min capM (10 * a + (q - 48)), b, false, rfl, by go_num, by omega, Nat.min_le_left _ _, hb, by have := HR.out; rw [pst_d0 a b c (by omega) (by omega), hqn] at this; exact this, blk_drew (blk_put HG.out 0 _ rfl), blk_drew ((Fr.set wr _ 0 _).blk HD.out (by omega)), below_drew (HB.out.setCell (Nat.le_succ _) _)⟩
            case measure => simp [intOf]; omega
          | true =>
            go_wp2
            go_big_region
            first | rw [cap_min b q hd0] | rw [cap_min2 b q hd0]
            go_wp2
            go_roundw
            case rel => exact ⟨i + 1, a, min capM (10 * b + (q - 48)), true, rfl, by go_num, by omega, ha, Nat.min_le_left _ _, by have := HR.out; rw [pst_d1 a b c (by omega) (by omega), hqn] at this; exact this, blk_drew (blk_put HG.out 1 _ rfl), blk_drew ((Fr.set wr _ 1 _).blk HD.out (by omega)), below_drew (HB.out.setCell (Nat.le_succ _) _)⟩
            case measure => simp [intOf]; omega
        · by_cases hpt : q = 46 ∧ k = false
          · obtain ⟨rfl, rfl⟩ := hpt
            go_wp2
            go_roundw
            case rel => exact ⟨i + 1, a, b, true, rfl, by go_num, by omega, ha, hb, by have := HR.out; rw [pst_p a b c hqn] at this; exact this, HG.out, HD.out, HB.out⟩
            case measure => simp [intOf]; omega
          · have E := Lib.hid (show refP s = (0, 0, false) from refP_none H0.out (by have := HR.out; rw [pst_no a b k c (by omega) (by rw [hqn]; exact hpt)] at this; exact this.symm))
            have d0 : wr.cell? ⟨w.heap.size, 0, none⟩ = some (.int .i64 0) := (blk_cell HD.out 0).trans rfl
            have d1 : wr.cell? ⟨w.heap.size, 1, none⟩ = some (.int .i64 0) := (blk_cell HD.out 1).trans rfl
            have g0 := blk_frozen HD.out 0
            have g1 := blk_frozen HD.out 1
            rcases (show (q = 46 ∧ k = true) ∨ q < 48 ∧ q ≠ 46 ∨ 57 < q by
              rcases Nat.lt_or_ge q 48 with h | h
              · by_cases h2 : q = 46
                · refine .inl ⟨h2, ?_⟩
                  cases k with
                  | true => rfl
                  | false => exact absurd ⟨h2, rfl⟩ hpt
                · exact .inr (.inl ⟨h, h2⟩)
              · exact .inr (.inr (by omega))) with ⟨rfl, rfl⟩ | ⟨h1, h2⟩ | h1
            all_goals clear hpt
            all_goals try cases k
            all_goals
              go_wp2
              refine bodyPost_ret (res_ct rfl _ _ w.heap.size 25 #[.int .i64 0, .int .i64 0] (0, 0) _ rfl (blk_put (blk_put HD.out 0 _ rfl) 1 _ rfl) Tryz.underlying25 rfl (by kernel_rfl)) rfl ?_
              unfold RpP
              rw [E.out]
              exact ⟨rfl, (HB.out.setCell (Nat.le_refl _) _).setCell (Nat.le_refl _) _⟩
      · have hi2 : i = s.size := by omega
        subst hi2
        clear hi hlt
        rw [Lib.size_eq, List.drop_length, prun] at hr
        have HB := Lib.hid hB
        have HG := Lib.hid hG
        have HD := Lib.hid hD
        have RP := Lib.hid (refP_some H0.out hr.symm)
        have p0 : wr.cell? ⟨w.heap.size + 1, 0, none⟩ = some (.int .i64 a) := (blk_cell hG 0).trans rfl
        have p1 : wr.cell? ⟨w.heap.size + 1, 1, none⟩ = some (.int .i64 b) := (blk_cell hG 1).trans rfl
        clear hB hG hD hr ha hb
        generalize (if k = true then (1 : Int) else 0) = kk
        have VB := Lib.hid (rvalid_be a b)
        by_cases hok : okDot a b
        · have TX := Lib.hid (rtext_be a b hok)
          rw [decide_eq_true hok] at VB
          by_cases hs : dtP a b = s
          · have E := Lib.hid (show refP s = ((a : Int), (b : Int), true) from by rw [RP.out, if_pos ⟨hok, by rw [← hs]; rfl⟩])
            have hee : decide (s.toList = s.toList) = true := decide_eq_true rfl
            rw [hs] at TX
            clear RP hok hs
            go_wp2_with (first | (go_at_call 18; refine (VB.out _).mono ?_; rintro en w1 ⟨rfl, hb⟩; have KB := Lib.hid (below_step (below_alloc HB.out _) hb); have B7 := Lib.hid (blk_below (blk_new wr _) hb); have HD1 := Lib.hid (blk_below (blk_below HD.out (below_alloc (Below.refl _ _) _)) hb); have b0 : w1.cell? ⟨wr.heap.size, 0, none⟩ = some (.int .i64 a) := (blk_cell B7.out 0).trans rfl; have b1 : w1.cell? ⟨wr.heap.size, 1, none⟩ = some (.int .i64 b) := (blk_cell B7.out 1).trans rfl; clear hb) | (go_at_call 44; refine (TX.out _).mono ?_; rintro en w2 ⟨rfl, hb⟩; have KB := Lib.hid (below_step KB.out hb); have B8 := Lib.hid (blk_below B7.out hb); have HD1 := Lib.hid (blk_below HD1.out hb); have b0 : w2.cell? ⟨wr.heap.size, 0, none⟩ = some (.int .i64 a) := (blk_cell B8.out 0).trans rfl; have b1 : w2.cell? ⟨wr.heap.size, 1, none⟩ = some (.int .i64 b) := (blk_cell B8.out 1).trans rfl; have d0 : w2.cell? ⟨w.heap.size, 0, none⟩ = some (.int .i64 0) := (blk_cell HD1.out 0).trans rfl; have d1 : w2.cell? ⟨w.heap.size, 1, none⟩ = some (.int .i64 0) := (blk_cell HD1.out 1).trans rfl; have g0 := blk_frozen HD1.out 0; have g1 := blk_frozen HD1.out 1; clear hb))
            refine bodyPost_ret (res_ct rfl _ _ w.heap.size 25 #[.int .i64 a, .int .i64 b] (0, 0) _ rfl (blk_put (blk_put HD1.out 0 _ rfl) 1 _ rfl) Tryz.underlying25 rfl (by kernel_rfl)) rfl ?_
            unfold RpP
            rw [E.out]
            exact ⟨rfl, (KB.out.setCell (Nat.le_refl _) _).setCell (Nat.le_refl _) _⟩
          · have E := Lib.hid (show refP s = (0, 0, false) from by rw [RP.out, if_neg (fun q => hs (bytes_eq q.2))])
            generalize dtP (a : Int) (b : Int) = z at *
            have hd2 : (!z.toList == s.toList) = true := by
              have : ¬ z.toList = s.toList := fun q => hs ((str_dec _ _).1 q)
              simpa using this
            clear RP hok hs
            go_wp2_with (first | (go_at_call 18; refine (VB.out _).mono ?_; rintro en w1 ⟨rfl, hb⟩; have KB := Lib.hid (below_step (below_alloc HB.out _) hb); have B7 := Lib.hid (blk_below (blk_new wr _) hb); have HD1 := Lib.hid (blk_below (blk_below HD.out (below_alloc (Below.refl _ _) _)) hb); have b0 : w1.cell? ⟨wr.heap.size, 0, none⟩ = some (.int .i64 a) := (blk_cell B7.out 0).trans rfl; have b1 : w1.cell? ⟨wr.heap.size, 1, none⟩ = some (.int .i64 b) := (blk_cell B7.out 1).trans rfl; clear hb) | (go_at_call 44; refine (TX.out _).mono ?_; rintro en w2 ⟨rfl, hb⟩; have KB := Lib.hid (below_step KB.out hb); have B8 := Lib.hid (blk_below B7.out hb); have HD1 := Lib.hid (blk_below HD1.out hb); have b0 : w2.cell? ⟨wr.heap.size, 0, none⟩ = some (.int .i64 a) := (blk_cell B8.out 0).trans rfl; have b1 : w2.cell? ⟨wr.heap.size, 1, none⟩ = some (.int .i64 b) := (blk_cell B8.out 1).trans rfl; have d0 : w2.cell? ⟨w.heap.size, 0, none⟩ = some (.int .i64 0) := (blk_cell HD1.out 0).trans rfl; have d1 : w2.cell? ⟨w.heap.size, 1, none⟩ = some (.int .i64 0) := (blk_cell HD1.out 1).trans rfl; have g0 := blk_frozen HD1.out 0; have g1 := blk_frozen HD1.out 1; clear hb))
            refine bodyPost_ret (res_ct rfl _ _ w.heap.size 25 #[.int .i64 0, .int .i64 0] (0, 0) _ rfl (blk_put (blk_put HD1.out 0 _ rfl) 1 _ rfl) Tryz.underlying25 rfl (by kernel_rfl)) rfl ?_
            unfold RpP
            rw [E.out]
            exact ⟨rfl, (KB.out.setCell (Nat.le_refl _) _).setCell (Nat.le_refl _) _⟩
        · have E := Lib.hid (show refP s = (0, 0, false) from by rw [RP.out, if_neg (fun q => hok q.1)])
          rw [decide_eq_false hok] at VB
          clear RP hok
          go_wp2_with (go_at_call 18; refine (VB.out _).mono ?_; rintro en w1 ⟨rfl, hb⟩; have KB := Lib.hid (below_step (below_alloc HB.out _) hb); have B7 := Lib.hid (blk_below (blk_new wr _) hb); have HD1 := Lib.hid (blk_below (blk_below HD.out (below_alloc (Below.refl _ _) _)) hb); have d0 : w1.cell? ⟨w.heap.size, 0, none⟩ = some (.int .i64 0) := (blk_cell HD1.out 0).trans rfl; have d1 : w1.cell? ⟨w.heap.size, 1, none⟩ = some (.int .i64 0) := (blk_cell HD1.out 1).trans rfl; have g0 := blk_frozen HD1.out 0; have g1 := blk_frozen HD1.out 1; clear hb)
          refine bodyPost_ret (res_ct rfl _ _ w.heap.size 25 #[.int .i64 0, .int .i64 0] (0, 0) _ rfl (blk_put (blk_put HD1.out 0 _ rfl) 1 _ rfl) Tryz.underlying25 rfl (by kernel_rfl)) rfl ?_
          unfold RpP
          rw [E.out]
          exact ⟨rfl, (KB.out.setCell (Nat.le_refl _) _).setCell (Nat.le_refl _) _⟩
end Go.Proofs.YtnbjkpfpcggopaaGreatDoor.Dx

namespace Go.Proofs.YtnbjkpfpcggopaaGreatDoor.Dx
open Go Go.RowKit Go.Proofs Go.Proofs.YtnbjkpfpcggopaaGreatDoorW.PrintWords Go.Proofs.YtnbjkpfpcggopaaGreatDoor.Kit Go.Proofs.YtnbjkpfpcggopaaGreatDoor.PAll
set_option linter.unusedSimpArgs false
set_option linter.unusedVariables false

/-- What the walks ask of package variables. -/
structure DOK (w : World) : Prop where
  p10 : Lib.TabIs Tryz.prog w "internal/strconv.uint64pow10" .u64 Lib.pow10Tab
  max : ∃ m, w.cell? ⟨0, 0, none⟩ = some (.int .i64 m)
  syn : ∃ t p, w.cell? ⟨3, 0, none⟩ = some (.iface t p)
  rng : ∃ t p, w.cell? ⟨4, 0, none⟩ = some (.iface t p)
theorem cell_keep {w w' : World} {b i : Nat} {v : Value} (h : w.cell? ⟨b, i, none⟩ = some v) (hb : Below w.heap.size w w') : w'.cell? ⟨b, i, none⟩ = some v :=
  (hb.cell (p := ⟨b, i, none⟩) (World.block_lt_of_cell? w _ h)).trans h
theorem tab_keep {w w' : World} {name : String} {k : IntKind} {zs : List Int} (h : Lib.TabIs Tryz.prog w name k zs) (hb : Below w.heap.size w w') : Lib.TabIs Tryz.prog w' name k zs := by
  unfold Lib.TabIs World.var? at h ⊢
  cases hg : Tryz.prog.globalNamed name with
  | none => rw [hg] at h; cases h
  | some g =>
    rw [hg, Option.bind_some] at h
    rw [Option.bind_some]
    have hlt : g < w.heap.size := by
      rcases Nat.lt_or_ge g w.heap.size with q | q
      · exact q
      · rw [Array.getElem?_eq_none q] at h; cases h
    rw [hb.block g hlt]
    exact h
theorem DOK.below {w w' : World} (h : DOK w) (hb : Below w.heap.size w w') : DOK w' :=
  ⟨tab_keep h.p10 hb, h.max.imp fun _ q => cell_keep q hb, h.syn.imp fun _ q => q.imp fun _ q => cell_keep q hb, h.rng.imp fun _ q => q.imp fun _ q => cell_keep q hb⟩
def BeP (v : Value) (w : World) (en : Ending) (w' : World) : Prop := en = .returned v ∧ Below w.heap.size w w'
theorem itoa_be (n : Nat) (hn : n < 9223372036854775808) (w : World) (h : DOK w) : Calls Tryz.prog 71 #[.int .i64 n] w (BeP (.string ⟨(Lib.decDigits n).toArray⟩) w) := by
  refine (Tryz.strconv_Itoa (n : Int) (by omega) (by omega) w h.p10).mono ?_
  rintro e w' ⟨rfl, k, os, rfl⟩
  refine ⟨?_, Lib.below_grow _ _ (Nat.le_refl _) k os⟩
  unfold Lib.itoa
  rw [if_neg (by omega), Int.toNat_natCast]
theorem valid_be (r c : Int) (w : World) : Calls Tryz.prog 38 #[.agg #[.int .i64 r, .int .i64 c]] w (BeP (.bool (decide (okDot r c))) w) := by
  refine dot_Valid.calls r c _ w ?_
  unfold dot_Valid.f
  by_cases h1 : r ≥ 1
  · rw [if_pos h1]
    by_cases h2 : r ≤ 64
    · rw [if_pos h2]
      by_cases h3 : c ≥ 1
      · rw [if_pos h3]; congr 1; exact decide_eq_decide.2 (by unfold okDot; omega)
      · rw [if_neg h3, decide_eq_false (by unfold okDot; omega)]
    · rw [if_neg h2, decide_eq_false (by unfold okDot; omega)]
  · rw [if_neg h1, decide_eq_false (by unfold okDot; omega)]
theorem root_be (r c : Int) (w : World) : Calls Tryz.prog 59 #[.agg #[.int .i64 r, .int .i64 c]] w (BeP (.bool (decide (r = 0 ∧ c = 0))) w) := by
  refine dot_Root.calls r c _ w ?_
  unfold dot_Root.f
  congr 1
  by_cases a : r = 0 <;> by_cases b : c = 0 <;> simp [a, b]
set_option maxHeartbeats 4000000 in
set_option maxRecDepth 100000 in
theorem text_any (r c : Int) (h : okDot r c) (w : World) (hG : DOK w) : Calls Tryz.prog 60 #[.agg #[.int .i64 r, .int .i64 c]] w (BeP (.string (dtP r c)) w) := by
  obtain ⟨h1, h2, h3, h4⟩ := h
  have E := Lib.hid (show dtP r c = ⟨(Lib.decDigits r.toNat ++ (46 :: Lib.decDigits c.toNat)).toArray⟩ from by unfold dtP; rw [dtL_dot ⟨h1, h2, h3, h4⟩])
  obtain ⟨m, rfl⟩ : ∃ m : Nat, r = m := ⟨r.toNat, by omega⟩
  obtain ⟨n, rfl⟩ : ∃ n : Nat, c = n := ⟨c.toNat, by omega⟩
  have RO := Lib.hid (root_be (m : Int) (n : Int))
  rw [decide_eq_false (by omega)] at RO
  have I1 := Lib.hid (fun W (hW : Below w.heap.size w W) => itoa_be m (by omega) W (hG.below hW))
  have I2 := Lib.hid (fun W (hW : Below w.heap.size w W) => itoa_be n (by omega) W (hG.below hW))
  rw [Int.toNat_natCast, Int.toNat_natCast] at E
  have l1 : (⟨(Lib.decDigits m).toArray⟩ : ByteArray).size ≤ 2 := by show (Lib.decDigits m).toArray.size ≤ 2; rw [List.size_toArray]; exact dec_len 1 m (by omega)
  have l2 : (⟨(Lib.decDigits n).toArray⟩ : ByteArray).size ≤ 10 := by show (Lib.decDigits n).toArray.size ≤ 10; rw [List.size_toArray]; exact dec_len 9 n (by omega)
  have E2 : dtP (m : Int) (n : Int) = ⟨(Lib.decDigits m).toArray⟩ ++ (⟨#[46]⟩ : ByteArray) ++ ⟨(Lib.decDigits n).toArray⟩ := by
    rw [E.out]
    apply ByteArray.ext
    simp [ByteArray.data_append]
  generalize (⟨(Lib.decDigits m).toArray⟩ : ByteArray) = sm at I1 l1 E2
  generalize (⟨(Lib.decDigits n).toArray⟩ : ByteArray) = sn at I2 l2 E2
  have E2 := Lib.hid E2
  have c1 : (9223372036854775807 < sm.size + 1) = False := eq_false (by omega)
  have c2 : (9223372036854775807 < sm.size + 1 + sn.size) = False := eq_false (by omega)
  clear hG h1 h2 h3 h4 E l1 l2
  go_enter Tryz.func60, Tryz.ntmps60
  go_wp2_with (go_at_call 59; refine (RO.out _).mono ?_; rintro en w1 ⟨rfl, hb⟩; have BK := Lib.hid (blk_below (blk_new w _) hb); have KB := Lib.hid (below_step (below_alloc (Below.refl _ _) _) hb); clear hb)
  have p0 : w1.drew.cell? ⟨w.heap.size, 0, none⟩ = some (.int .i64 m) := (blk_cell (blk_drew BK.out) 0).trans rfl
  have p1 : w1.drew.cell? ⟨w.heap.size, 1, none⟩ = some (.int .i64 n) := (blk_cell (blk_drew BK.out) 1).trans rfl
  have KD := Lib.hid (below_drew KB.out)
  have BD := Lib.hid (blk_drew BK.out)
  go_region_held3 (fun w' => w'.cell? ⟨w.heap.size, 0, none⟩ = some (.int .i64 m) ∧ w'.cell? ⟨w.heap.size, 1, none⟩ = some (.int .i64 n)) (refine ⟨?_, ?_⟩ <;> assumption) (first
    | (go_at_call 71; (refine (I1.out _ KD.out).mono ?_); rintro en w2 ⟨rfl, hb⟩; have p0 := cell_keep p0 hb; have p1 := cell_keep p1 hb; have KD := Lib.hid (below_step KD.out hb); clear hb)
    | (go_at_call 71; (refine (I2.out _ KD.out).mono ?_); rintro en w3 ⟨rfl, hb⟩; have p0 := cell_keep p0 hb; have p1 := cell_keep p1 hb; have KD := Lib.hid (below_step KD.out hb); clear hb))
  go_wp2
  go_ret
  rw [E2.out]
  exact ⟨rfl, KD.out⟩
theorem text_root (w : World) : Calls Tryz.prog 60 #[.agg #[.int .i64 0, .int .i64 0]] w (BeP (.string (dtP 0 0)) w) := by
  have RO := Lib.hid (root_be 0 0)
  rw [decide_eq_true ⟨rfl, rfl⟩] at RO
  go_enter Tryz.func60, Tryz.ntmps60
  go_wp2_with (go_at_call 59; refine (RO.out _).mono ?_; rintro en w1 ⟨rfl, hb⟩; have KB := Lib.hid (below_step (below_alloc (Below.refl _ _) _) hb); clear hb)
  go_ret
  exact ⟨rfl, KB.out⟩
set_option maxHeartbeats 4000000 in
set_option maxRecDepth 100000 in
theorem Text_any (r c : Int) (w : World) (hG : DOK w) : Calls Tryz.prog 48 #[.agg #[.int .i64 r, .int .i64 c]] w (BeP (.tuple #[.string (dotT r c).1, .int .i64 (dotT r c).2]) w) := by
  have VB := Lib.hid (valid_be r c)
  have RO := Lib.hid (root_be r c)
  by_cases hv : okDot r c
  · have TX := Lib.hid (fun W (hW : Below w.heap.size w W) => text_any r c hv W (hG.below hW))
    have E := Lib.hid (show dotT r c = (dtP r c, 0) from if_pos (.inl hv))
    rw [decide_eq_true hv] at VB
    clear hG hv RO
    generalize dtP r c = z at *
    go_enter Tryz.func48, Tryz.ntmps48
    go_wp2_with (first
      | (go_at_call 38; refine (VB.out _).mono ?_; rintro en w1 ⟨rfl, hb⟩; have BK := Lib.hid (blk_below (blk_new w _) hb); have KB := Lib.hid (below_step (below_alloc (Below.refl _ _) _) hb); have p0 : w1.cell? ⟨w.heap.size, 0, none⟩ = some (.int .i64 r) := (blk_cell BK.out 0).trans rfl; have p1 : w1.cell? ⟨w.heap.size, 1, none⟩ = some (.int .i64 c) := (blk_cell BK.out 1).trans rfl; clear hb)
      | (go_at_call 60; refine (TX.out _ KB.out).mono ?_; rintro en w2 ⟨rfl, hb⟩; have KB := Lib.hid (below_step KB.out hb); clear hb))
    go_ret2
    rw [E.out]
    exact ⟨rfl, KB.out⟩
  · rw [decide_eq_false hv] at VB
    by_cases h0 : r = 0 ∧ c = 0
    · have E := Lib.hid (show dotT r c = (dtP r c, 0) from if_pos (.inr h0))
      rw [decide_eq_true h0] at RO
      obtain ⟨rfl, rfl⟩ := h0
      have TX := Lib.hid text_root
      clear hG hv
      generalize dtP 0 0 = z at *
      go_enter Tryz.func48, Tryz.ntmps48
      go_wp2_with (first
        | (go_at_call 38; refine (VB.out _).mono ?_; rintro en w1 ⟨rfl, hb⟩; have BK := Lib.hid (blk_below (blk_new w _) hb); have KB := Lib.hid (below_step (below_alloc (Below.refl _ _) _) hb); have p0 : w1.cell? ⟨w.heap.size, 0, none⟩ = some (.int .i64 0) := (blk_cell BK.out 0).trans rfl; have p1 : w1.cell? ⟨w.heap.size, 1, none⟩ = some (.int .i64 0) := (blk_cell BK.out 1).trans rfl; clear hb)
        | (go_at_call 59; refine (RO.out _).mono ?_; rintro en w2 ⟨rfl, hb⟩; have BK := Lib.hid (blk_below BK.out hb); have KB := Lib.hid (below_step KB.out hb); have p0 : w2.cell? ⟨w.heap.size, 0, none⟩ = some (.int .i64 0) := (blk_cell BK.out 0).trans rfl; have p1 : w2.cell? ⟨w.heap.size, 1, none⟩ = some (.int .i64 0) := (blk_cell BK.out 1).trans rfl; clear hb)
        | (go_at_call 60; refine (TX.out _).mono ?_; rintro en w3 ⟨rfl, hb⟩; have KB := Lib.hid (below_step KB.out hb); clear hb))
      go_ret2
      rw [E.out]
      exact ⟨rfl, KB.out⟩
    · have E := Lib.hid (show dotT r c = (⟨#[]⟩, 2) from if_neg (fun q => q.elim hv h0))
      rw [decide_eq_false h0] at RO
      clear hG hv h0
      go_enter Tryz.func48, Tryz.ntmps48
      go_wp2_with (first
        | (go_at_call 38; refine (VB.out _).mono ?_; rintro en w1 ⟨rfl, hb⟩; have BK := Lib.hid (blk_below (blk_new w _) hb); have KB := Lib.hid (below_step (below_alloc (Below.refl _ _) _) hb); have p0 : w1.cell? ⟨w.heap.size, 0, none⟩ = some (.int .i64 r) := (blk_cell BK.out 0).trans rfl; have p1 : w1.cell? ⟨w.heap.size, 1, none⟩ = some (.int .i64 c) := (blk_cell BK.out 1).trans rfl; clear hb)
        | (go_at_call 59; refine (RO.out _).mono ?_; rintro en w2 ⟨rfl, hb⟩; have KB := Lib.hid (below_step KB.out hb); clear hb))
      go_ret2
      rw [E.out]
      exact ⟨rfl, KB.out⟩
def AtP (l : List UInt8) (w : World) (en : Ending) (w' : World) : Prop :=
  ∃ (v : Int) (ev : Value), en = .returned (.tuple #[.int .i64 v, ev]) ∧ (∀ u, Lib.atoiAll l = .ok u → v = u) ∧ (Lib.atoiAll l = .«syntax» → v = 0) ∧ Below w.heap.size w w'
theorem atoi_be (s : ByteArray) (hl : s.size ≤ 1000000) (w : World) (hG : DOK w) : Calls Tryz.prog 70 #[.string s] w (AtP s.data.toList w) := by
  cases h : Lib.atoiAll s.data.toList with
  | ok v =>
    refine (Tryz.strconv_Atoi_ok s (by omega) v h w).mono ?_
    rintro e w' ⟨rfl, hw⟩
    refine ⟨v, _, rfl, ?_, ?_, ?_⟩
    · intro u q; rw [h] at q; injection q
    · intro q; rw [h] at q; cases q
    · rcases hw with rfl | ⟨t, rfl⟩
      · exact Below.refl _ _
      · exact Lib.bytesWorld_below _ _ _
  | «syntax» =>
    obtain ⟨t, p, hc⟩ := hG.syn
    refine (Tryz.strconv_Atoi_syntax s (by omega) h _ w hc (.inr ⟨t, p, rfl⟩)).mono ?_
    rintro e w' ⟨N, rfl, _, _, hb⟩
    refine ⟨0, _, rfl, ?_, ?_, hb⟩
    · intro u q; rw [h] at q; cases q
    · intro _; rfl
  | range =>
    obtain ⟨t, p, hc⟩ := hG.rng
    refine (Tryz.strconv_Atoi_range s (by omega) h _ w hc (.inr ⟨t, p, rfl⟩)).mono ?_
    rintro e w' ⟨N, rfl, _, _, hb⟩
    refine ⟨_, _, rfl, ?_, ?_, hb⟩
    · intro u q; rw [h] at q; cases q
    · intro q; rw [h] at q; cases q
theorem cut_be (s : ByteArray) (hl : s.size ≤ 1000000) (w : World) (hG : DOK w) : Calls Tryz.prog 69 #[.string s, .string ⟨#[46]⟩] w (BeP (.tuple #[.string ⟨(Lib.cut s.data.toList [46]).1.toArray⟩, .string ⟨(Lib.cut s.data.toList [46]).2.1.toArray⟩, .bool (Lib.cut s.data.toList [46]).2.2]) w) := by
  obtain ⟨m, hm⟩ := hG.max
  refine (Tryz.strings_Cut s ⟨#[46]⟩ m w (by omega) hm).mono ?_
  rintro e w' ⟨rfl, n, rfl⟩
  exact ⟨rfl, below_alike (Below.refl _ _) n⟩
theorem cut_len (l sep : List UInt8) : (Lib.cut l sep).1.length ≤ l.length ∧ (Lib.cut l sep).2.1.length ≤ l.length := by
  unfold Lib.cut
  split
  · refine ⟨?_, ?_⟩ <;> simp <;> omega
  · simp
/-- What Parse makes of the two numbers that it reads. -/
theorem dotP_by (s : ByteArray) (v1 v2 : Int) (h1 : ∀ u, Lib.atoiAll (Lib.cut s.data.toList [46]).1 = .ok u → v1 = u) (s1 : Lib.atoiAll (Lib.cut s.data.toList [46]).1 = .«syntax» → v1 = 0) (h2 : ∀ u, Lib.atoiAll (Lib.cut s.data.toList [46]).2.1 = .ok u → v2 = u) (s2 : Lib.atoiAll (Lib.cut s.data.toList [46]).2.1 = .«syntax» → v2 = 0) :
    dotP s = if (okDot v1 v2 ∨ (v1 = 0 ∧ v2 = 0)) ∧ dtP v1 v2 = s then (v1, v2, 0) else (0, 0, 6) := by
  by_cases h0 : s.data.toList = rootL
  · obtain rfl : s = ⟨rootL.toArray⟩ := bytes_eq h0
    obtain rfl : v1 = 0 := s1 (by decide)
    obtain rfl : v2 = 0 := s2 (by decide)
    rw [dotP_root, if_pos ⟨.inr ⟨rfl, rfl⟩, rfl⟩]
  · by_cases h : ∃ r c, okDot r c ∧ dtL r c = s.data.toList
    · obtain ⟨r, c, hr, he⟩ := h
      have es : s = dtP r c := bytes_eq he.symm
      have er : ((r.toNat : Nat) : Int) = r := Int.toNat_of_nonneg (by have := hr.1; omega)
      have ec : ((c.toNat : Nat) : Int) = c := Int.toNat_of_nonneg (by have := hr.2.2.1; omega)
      have q2 := hr.2.1
      have q4 := hr.2.2.2
      rw [← he, dtL_dot hr, cut_dec] at h1 h2
      obtain rfl : v1 = r := (h1 _ (atoi_dec _ (by omega))).trans er
      obtain rfl : v2 = c := (h2 _ (atoi_dec _ (by omega))).trans ec
      subst es
      rw [dotP_yes hr, if_pos ⟨.inl hr, rfl⟩]
    · have h : ∀ r c, okDot r c → dtL r c ≠ s.data.toList := fun r c a b => h ⟨r, c, a, b⟩
      rw [dotP_no h0 h, if_neg]
      rintro ⟨q | ⟨rfl, rfl⟩, rfl⟩
      · exact h _ _ q rfl
      · exact h0 rfl
set_option maxHeartbeats 8000000 in
set_option maxRecDepth 100000 in
theorem parse_any (s : ByteArray) (hl : s.size ≤ 1000000) (w : World) (hG : DOK w) : Calls Tryz.prog 58 #[.string s] w (BeP (.tuple #[.agg #[.int .i64 (dotP s).1, .int .i64 (dotP s).2.1], .int .i64 (dotP s).2.2]) w) := by
  have CU := Lib.hid (fun W (hW : Below w.heap.size w W) => cut_be s hl W (hG.below hW))
  obtain ⟨sa, ha⟩ : ∃ x : ByteArray, x = ⟨(Lib.cut s.data.toList [46]).1.toArray⟩ := ⟨_, rfl⟩
  obtain ⟨sb, hb⟩ : ∃ x : ByteArray, x = ⟨(Lib.cut s.data.toList [46]).2.1.toArray⟩ := ⟨_, rfl⟩
  have lc := cut_len s.data.toList [46]
  have hl2 : s.data.toList.length ≤ 1000000 := by rw [← Lib.size_eq]; exact hl
  have la : sa.size ≤ 1000000 := by rw [ha]; show (Lib.cut s.data.toList [46]).1.toArray.size ≤ _; rw [List.size_toArray]; omega
  have lb : sb.size ≤ 1000000 := by rw [hb]; show (Lib.cut s.data.toList [46]).2.1.toArray.size ≤ _; rw [List.size_toArray]; omega
  clear lc hl2
  have DB := Lib.hid (dotP_by s)
  have ea : sa.data.toList = (Lib.cut s.data.toList [46]).1 := by rw [ha]
  have eb : sb.data.toList = (Lib.cut s.data.toList [46]).2.1 := by rw [hb]
  rw [← ea, ← eb] at DB
  rw [← ha, ← hb] at CU
  generalize (Lib.cut s.data.toList [46]).2.2 = kk at CU
  have A1 := Lib.hid (fun W (hW : Below w.heap.size w W) => atoi_be sa la W (hG.below hW))
  have A2 := Lib.hid (fun W (hW : Below w.heap.size w W) => atoi_be sb lb W (hG.below hW))
  have TX := Lib.hid (fun r c W (hW : Below w.heap.size w W) => Text_any r c W (hG.below hW))
  clear hG ha hb la lb ea eb hl
  go_enter Tryz.func58, Tryz.ntmps58
  go_upto_region 5 with (first
    | (go_at_call 69; refine (CU.out _ (below_alloc (Below.refl _ _) _)).mono ?_; rintro en w1 ⟨rfl, hb⟩; have D0 := Lib.hid (blk_below (blk_new w _) hb); have KB := Lib.hid (below_step (below_alloc (Below.refl _ _) _) hb); clear hb)
    | (go_at_call 70; (with_reducible refine (A1.out _ KB.out).mono ?_); rintro en w2 ⟨v1, ev1, rfl, h1, s1, hb⟩; have H1 := Lib.hid (And.intro h1 s1); have D0 := Lib.hid (blk_below D0.out hb); have KB := Lib.hid (below_step KB.out hb); clear hb h1 s1)
    | (go_at_call 70; (with_reducible refine (A2.out _ KB.out).mono ?_); rintro en w3 ⟨v2, ev2, rfl, h2, s2, hb⟩; have DE := Lib.hid (DB.out v1 v2 H1.out.1 H1.out.2 h2 s2); have D0 := Lib.hid (blk_below D0.out hb); have KB := Lib.hid (below_step KB.out hb); clear hb h2 s2))
  have TW := Lib.hid (fun W hW => TX.out v1 v2 W hW)
  by_cases hv : okDot v1 v2 ∨ (v1 = 0 ∧ v2 = 0)
  · have ET : dotT v1 v2 = (dtP v1 v2, 0) := if_pos hv
    rw [ET] at TW
    by_cases hs : dtP v1 v2 = s
    · have E := Lib.hid (show dotP s = (v1, v2, 0) from DE.out.trans (if_pos ⟨hv, hs⟩))
      rw [hs] at TW
      have hee : decide (s.toList = s.toList) = true := decide_eq_true rfl
      clear hv hs ET DE TX H1 DB CU A1 A2
      go_wp2_with (go_at_call 48; refine (TW.out _ (below_alloc KB.out _)).mono ?_; rintro en w4 ⟨rfl, hb⟩; have D7 := Lib.hid (blk_below (blk_new w3 _) hb); have D0 := Lib.hid (blk_below (blk_below D0.out (below_alloc (Below.refl _ _) _)) hb); have KB := Lib.hid (below_step (below_alloc KB.out _) hb); have p0 : w4.cell? ⟨w3.heap.size, 0, none⟩ = some (.int .i64 v1) := (blk_cell D7.out 0).trans rfl; have p1 : w4.cell? ⟨w3.heap.size, 1, none⟩ = some (.int .i64 v2) := (blk_cell D7.out 1).trans rfl; have d0 : w4.cell? ⟨w.heap.size, 0, none⟩ = some (.int .i64 0) := (blk_cell D0.out 0).trans rfl; have d1 : w4.cell? ⟨w.heap.size, 1, none⟩ = some (.int .i64 0) := (blk_cell D0.out 1).trans rfl; have g0 := blk_frozen D0.out 0; have g1 := blk_frozen D0.out 1; clear hb)
      refine bodyPost_ret (res_ct rfl _ _ w.heap.size 25 #[.int .i64 v1, .int .i64 v2] (0, 0) _ rfl (blk_put (blk_put D0.out 0 _ rfl) 1 _ rfl) Tryz.underlying25 rfl (by kernel_rfl)) rfl ?_
      rw [E.out]
      exact ⟨rfl, (KB.out.setCell (Nat.le_refl _) _).setCell (Nat.le_refl _) _⟩
    · have E := Lib.hid (show dotP s = (0, 0, 6) from DE.out.trans (if_neg (fun q => hs q.2)))
      clear ET DE
      generalize dtP v1 v2 = z at *
      have hd2 : (!z.toList == s.toList) = true := by
        have : ¬ z.toList = s.toList := fun q => hs ((str_dec _ _).1 q)
        simpa using this
      clear hv hs TX H1 DB CU A1 A2
      go_wp2_with (go_at_call 48; refine (TW.out _ (below_alloc KB.out _)).mono ?_; rintro en w4 ⟨rfl, hb⟩; have D7 := Lib.hid (blk_below (blk_new w3 _) hb); have D0 := Lib.hid (blk_below (blk_below D0.out (below_alloc (Below.refl _ _) _)) hb); have KB := Lib.hid (below_step (below_alloc KB.out _) hb); have p0 : w4.cell? ⟨w3.heap.size, 0, none⟩ = some (.int .i64 v1) := (blk_cell D7.out 0).trans rfl; have p1 : w4.cell? ⟨w3.heap.size, 1, none⟩ = some (.int .i64 v2) := (blk_cell D7.out 1).trans rfl; have d0 : w4.cell? ⟨w.heap.size, 0, none⟩ = some (.int .i64 0) := (blk_cell D0.out 0).trans rfl; have d1 : w4.cell? ⟨w.heap.size, 1, none⟩ = some (.int .i64 0) := (blk_cell D0.out 1).trans rfl; have g0 := blk_frozen D0.out 0; have g1 := blk_frozen D0.out 1; clear hb)
      refine bodyPost_ret (res_ct rfl _ _ w.heap.size 25 #[.int .i64 0, .int .i64 0] (0, 0) _ rfl (blk_put (blk_put D0.out 0 _ rfl) 1 _ rfl) Tryz.underlying25 rfl (by kernel_rfl)) rfl ?_
      rw [E.out]
      exact ⟨rfl, (KB.out.setCell (Nat.le_refl _) _).setCell (Nat.le_refl _) _⟩
  · have ET : dotT v1 v2 = (⟨#[]⟩, 2) := if_neg hv
    rw [ET] at TW
    have E := Lib.hid (show dotP s = (0, 0, 6) from DE.out.trans (if_neg (fun q => hv q.1)))
    clear hv ET DE TX H1 DB CU A1 A2
    go_wp2_with (go_at_call 48; refine (TW.out _ (below_alloc KB.out _)).mono ?_; rintro en w4 ⟨rfl, hb⟩; have D7 := Lib.hid (blk_below (blk_new w3 _) hb); have D0 := Lib.hid (blk_below (blk_below D0.out (below_alloc (Below.refl _ _) _)) hb); have KB := Lib.hid (below_step (below_alloc KB.out _) hb); have p0 : w4.cell? ⟨w3.heap.size, 0, none⟩ = some (.int .i64 v1) := (blk_cell D7.out 0).trans rfl; have p1 : w4.cell? ⟨w3.heap.size, 1, none⟩ = some (.int .i64 v2) := (blk_cell D7.out 1).trans rfl; have d0 : w4.cell? ⟨w.heap.size, 0, none⟩ = some (.int .i64 0) := (blk_cell D0.out 0).trans rfl; have d1 : w4.cell? ⟨w.heap.size, 1, none⟩ = some (.int .i64 0) := (blk_cell D0.out 1).trans rfl; have g0 := blk_frozen D0.out 0; have g1 := blk_frozen D0.out 1; clear hb)
    refine bodyPost_ret (res_ct rfl _ _ w.heap.size 25 #[.int .i64 0, .int .i64 0] (0, 0) _ rfl (blk_put (blk_put D0.out 0 _ rfl) 1 _ rfl) Tryz.underlying25 rfl (by kernel_rfl)) rfl ?_
    rw [E.out]
    exact ⟨rfl, (KB.out.setCell (Nat.le_refl _) _).setCell (Nat.le_refl _) _⟩
end Go.Proofs.YtnbjkpfpcggopaaGreatDoor.Dx
