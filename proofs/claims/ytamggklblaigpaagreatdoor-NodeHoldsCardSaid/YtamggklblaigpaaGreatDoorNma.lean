/- Small facts on worlds, blocks and rows that the walks of this seat share; no program is named here. -/
/- Frames: what a call that writes some blocks of the caller's leaves alone; rows of bytes under frames; no program is named here. -/
/- Runes of strings, plain law: what the characters of a string are, and its error. -/
/- Numbers in hexadecimal, and the names of runes, plain law; no program is named here. -/
/- The walk of runes.Valid. -/
/- Numbers in hexadecimal: the walks of strconv.FormatInt at base 16. -/
/- Numbers in hexadecimal: the walks of strconv.ParseInt at base 16 and 32 bits. -/
/- Numbers in hexadecimal: the walks of strconv.ParseInt at base 16 and 32 bits, second part. -/
import Derived.Test.YtamggklblaigpaaGreatDoorWWords
import Derived.WalkKit
import Derived.WalkSpells
import Derived.WalkLawsBesides
import Derived.Lib.Hide
import Derived.BigQuiet
import Derived.Deep.QuietTactic
import Derived.Deep.RegionHeld3
import Derived.Deep.AppendLies
import Derived.BigRegion
import Derived.Deep.RegionLaw
import Derived.Test.YtamggklblaigpaaGreatDoorWMore
import Derived.Lib.ValidLaws
import Derived.Lib.RuneBytes
import Derived.Lib.DecodeNEq
import GoSem.Core.Utf8
import Derived.Laws.BytesArg
import Derived.Laws.Cover4
import Derived.Lib.Case
import Derived.Test.YtamggklblaigpaaGreatDoorShelf
import Derived.Test.YtamggklblaigpaaGreatDoorPAllx0
import Derived.Lib.BufferKept
import Derived.BigCall
import Derived.Lib.Walk
import Derived.Lib.ConvBytes
import Derived.Lib.BufferOld
import Derived.Lib.AtoiErrMem
namespace Go.Proofs.YtamggklblaigpaaGreatDoor.Kit
open Go.RowKit Go.Proofs.YtamggklblaigpaaGreatDoorW.PrintWords

theorem grown_set (w : World) (b i : Nat) (v : Value) : w.grownBy (w.setCell ⟨b, i, none⟩ v) (some b) :=
  ⟨rfl, rfl, rfl, by simp [World.setCell], fun _ _ hk => Below.heap_setCell _ _ _ _ (fun e => hk (by rw [e]))⟩
theorem below_alike {B : Nat} {w0 w : World} (h : Below B w0 w) (n : Nat) : Below B w0 (w.drewN n) := ⟨h.os, h.tape, h.output, h.size, h.block⟩
end Go.Proofs.YtamggklblaigpaaGreatDoor.Kit

namespace Go.Proofs.YtamggklblaigpaaGreatDoor.Kit
open Go.RowKit Go.Proofs.YtamggklblaigpaaGreatDoorW.PrintWords

/-- From w to w1 only blocks in S, and new ones, have turned. -/
structure Fr (w w1 : World) (S : Nat → Prop) : Prop where
  os : w1.os = w.os
  tape : w1.tape = w.tape
  output : w1.output = w.output
  size : w.heap.size ≤ w1.heap.size
  block : ∀ i, i < w.heap.size → ¬ S i → w1.heap[i]? = w.heap[i]?
section
variable {w0 w w1 w2 : World} {S S' : Nat → Prop}
theorem Fr.refl (w : World) (S : Nat → Prop) : Fr w w S := ⟨rfl, rfl, rfl, Nat.le_refl _, fun _ _ _ => rfl⟩
theorem Fr.below (h : Below w.heap.size w w1) (S : Nat → Prop) : Fr w w1 S := ⟨h.os, h.tape, h.output, h.size, fun i hi _ => h.block i hi⟩
theorem Fr.grown {row : Option Nat} (h : w.grownBy w1 row) : Fr w w1 (fun i => some i = row) := ⟨h.os, h.tape, h.output, h.size, fun i hi hn => h.block i hi hn⟩
theorem Fr.mono (h : Fr w w1 S) (k : ∀ i, i < w.heap.size → S i → S' i) : Fr w w1 S' := ⟨h.os, h.tape, h.output, h.size, fun i hi hn => h.block i hi (fun q => hn (k i hi q))⟩
theorem Fr.set (w : World) (g i : Nat) (v : Value) : Fr w (w.setCell ⟨g, i, none⟩ v) (fun j => j = g) := (Fr.grown (grown_set w g i v)).mono fun _ _ q => by injection q
theorem Fr.blk (k : Fr w w1 S) {g : Nat} {o : Obj} (h : w.heap[g]? = some o) (hg : ¬ S g) : w1.heap[g]? = some o := (k.block g (blk_lt h) hg).trans h
end
end Go.Proofs.YtamggklblaigpaaGreatDoor.Kit

namespace Go.Proofs.YtamggklblaigpaaGreatDoor.Rn
open Go Go.Proofs Go.RowKit

/-- A rune that may be in a text. -/
def okRune (r : Int) : Prop := 1 ≤ r ∧ r ≤ 1114111 ∧ (r < 55296 ∨ 57343 < r)
instance (r : Int) : Decidable (okRune r) := by unfold okRune; infer_instance
def utf8 (rs : List Int) : List Int := rs.flatMap Lib.encodeRuneZ
end Go.Proofs.YtamggklblaigpaaGreatDoor.Rn

namespace Go.Proofs.YtamggklblaigpaaGreatDoor.Hx
open Go Go.Proofs Go.RowKit Go.Proofs.YtamggklblaigpaaGreatDoor.Rn

/-- A digit, in small and in great letters. -/
def dlo (n : Nat) : UInt8 := if n < 10 then UInt8.ofNat (48 + n) else UInt8.ofNat (87 + n)
def dup (n : Nat) : UInt8 := if n < 10 then UInt8.ofNat (48 + n) else UInt8.ofNat (55 + n)
/-- The digits of a number, at most so many. -/
def hexD : Nat → Nat → List Nat
  | 0, _ => []
  | k + 1, n => if n < 16 then [n] else hexD k (n / 16) ++ [n % 16]
def hexL (n : Nat) : List UInt8 := (hexD 8 n).map dlo
def hexU (n : Nat) : List UInt8 := (hexD 8 n).map dup
def nameL (n : Nat) : List UInt8 := [85, 43] ++ (List.replicate (4 - (hexD 8 n).length) 48 ++ hexU n)
def nameP (n : Nat) : ByteArray := ⟨(nameL n).toArray⟩
/-- What a digit is worth. -/
def hv (c : UInt8) : Option Nat := if 48 ≤ c.toNat ∧ c.toNat ≤ 57 then some (c.toNat - 48) else if 65 ≤ c.toNat ∧ c.toNat ≤ 70 then some (c.toNat - 55) else none
def hexV (l : List UInt8) : Nat := l.foldl (fun n c => 16 * n + (hv c).getD 0) 0
/-- What Name returns. -/
def namP (r : Int) : ByteArray × Int := if okRune r then (nameP r.toNat, 0) else (⟨#[]⟩, 13)
/-- What ByName returns. -/
def bynP (s : ByteArray) : Int × Int :=
  if okRune (hexV (s.data.toList.drop 2)) ∧ s.size ≤ 8 ∧ (nameP (hexV (s.data.toList.drop 2))).data.toList = s.data.toList then ((hexV (s.data.toList.drop 2) : Nat), 0) else (0, 6)

theorem hexD_lt : ∀ (k n : Nat), ∀ d ∈ hexD k n, d < 16
  | 0, _, d, h => by simp [hexD] at h
  | k + 1, n, d, h => by
    unfold hexD at h
    split at h
    · simp at h; omega
    · rcases List.mem_append.1 h with h | h
      · exact hexD_lt k _ d h
      · simp at h; omega
theorem up_lo : ∀ n, n < 16 → Lib.upperB (dlo n) = dup n := by decide
theorem lo_small : ∀ n, n < 16 → (dlo n).toNat < 128 := by decide
theorem hv_dup : ∀ n, n < 16 → hv (dup n) = some n := by decide
theorem hv_zero : hv 48 = some 0 := by decide
theorem upper (n : Nat) : (hexL n).map Lib.upperB = hexU n := by
  unfold hexL hexU
  rw [List.map_map]
  apply List.map_congr_left
  intro d hd
  exact up_lo d (hexD_lt 8 n d hd)
theorem ascii (n : Nat) : ∀ (j : Nat) (b : UInt8), (hexL n)[j]? = some b → b.toNat < 128 := by
  intro j b hj
  have hb := List.mem_of_getElem? hj
  unfold hexL at hb
  obtain ⟨d, hd, rfl⟩ := List.mem_map.1 hb
  exact lo_small d (hexD_lt 8 n d hd)
theorem hexV_app (a b : List UInt8) : hexV (a ++ b) = b.foldl (fun n c => 16 * n + (hv c).getD 0) (hexV a) := by unfold hexV; rw [List.foldl_append]
theorem hexV_zeros : ∀ k, hexV (List.replicate k 48) = 0
  | 0 => rfl
  | k + 1 => by rw [List.replicate_succ', hexV_app, hexV_zeros k]; rfl
theorem fold_hex : ∀ (k n : Nat), n < 16 ^ k → ((hexD k n).map dup).foldl (fun n c => 16 * n + (hv c).getD 0) 0 = n
  | 0, n, h => by simp at h; subst h; rfl
  | k + 1, n, h => by
    unfold hexD
    by_cases q : n < 16
    · rw [if_pos q]
      simp [hv_dup n q]
    · rw [if_neg q, List.map_append, List.foldl_append, fold_hex k (n / 16) (by rw [Nat.pow_succ] at h; omega)]
      simp [hv_dup (n % 16) (by omega)]
      omega
theorem hexV_pad (k n : Nat) (h : n < 4294967296) : hexV (List.replicate k 48 ++ hexU n) = n := by
  rw [hexV_app, hexV_zeros]
  exact fold_hex 8 n (by omega)
theorem all_pad (k n : Nat) : ∀ c ∈ List.replicate k 48 ++ hexU n, (hv c).isSome = true := by
  intro c hc
  rcases List.mem_append.1 hc with h | h
  · rw [(List.mem_replicate.1 h).2, hv_zero]; rfl
  · unfold hexU at h
    obtain ⟨d, hd, rfl⟩ := List.mem_map.1 h
    rw [hv_dup d (hexD_lt 8 n d hd)]
    rfl
theorem nameL_drop (n : Nat) : (nameL n).drop 2 = List.replicate (4 - (hexD 8 n).length) 48 ++ hexU n := rfl
theorem hexD_six {n : Nat} (h : n < 16777216) : (hexD 8 n).length ≤ 6 := by
  have key : ∀ (k n : Nat), n < 16 ^ k → ∀ f, (hexD f n).length ≤ max k 1 := by
    intro k
    induction k with
    | zero => intro n h f; have : n = 0 := by simpa using h
              subst this; cases f <;> simp [hexD]
    | succ k ih =>
      intro n h f
      cases f with
      | zero => simp [hexD]
      | succ f =>
        unfold hexD
        split
        · simp
        · have := ih (n / 16) (by rw [Nat.pow_succ] at h; omega) f
          have hk : 0 < k := by
            rcases Nat.eq_zero_or_pos k with rfl | q
            · simp at h; omega
            · exact q
          simp; omega
  exact key 6 n h 8
theorem nameL_len {n : Nat} (h : n < 16777216) : (nameL n).length ≤ 8 ∧ 6 ≤ (nameL n).length := by
  have h1 := hexD_six h
  unfold nameL hexU
  simp
  omega
theorem byn_yes {r : Nat} (h : okRune (r : Int)) : bynP (nameP r) = ((r : Int), 0) := by
  have hr : r < 16777216 := by have := h.2.1; omega
  have e : hexV ((nameP r).data.toList.drop 2) = r := by
    show hexV ((nameL r).drop 2) = r
    rw [nameL_drop]
    exact hexV_pad _ r (by omega)
  unfold bynP
  rw [e, if_pos ⟨h, (nameL_len hr).1, rfl⟩]
theorem byn_no {s : ByteArray} (h : ∀ r : Nat, okRune (r : Int) → nameP r ≠ s) : bynP s = (0, 6) := by
  unfold bynP
  rw [if_neg]
  rintro ⟨h1, _, h2⟩
  refine h _ h1 ?_
  apply ByteArray.ext
  rw [← Array.toList_inj]
  exact h2
end Go.Proofs.YtamggklblaigpaaGreatDoor.Hx

namespace Go.Proofs.YtamggklblaigpaaGreatDoor.Rn
open Go Go.RowKit Go.Proofs Go.Proofs.YtamggklblaigpaaGreatDoorW.PrintWords Go.Proofs.YtamggklblaigpaaGreatDoor.Kit Go.Proofs.YtamggklblaigpaaGreatDoor.PAll
set_option linter.unusedSimpArgs false
set_option linter.unusedVariables false

def BeP (v : Value) (w : World) (en : Ending) (w' : World) : Prop := en = .returned v ∧ Below w.heap.size w w'
theorem ok_valid (r : Int) : (r ≠ 0 ∧ Lib.validRune r = true) ↔ okRune r := by
  unfold Lib.validRune okRune
  rw [decide_eq_true_eq]
  omega
theorem valid_be (r : Int) (w : World) : Calls Tryz.prog 45 #[.int .i32 r] w (BeP (.bool (decide (okRune r))) w) := by
  have V := Lib.hid (Tryz.utf8_ValidRune r)
  by_cases h0 : r = 0
  · rw [decide_eq_false (by unfold okRune; omega)]
    subst h0
    go_enter Tryz.func45, Tryz.ntmps45
    go_wp2
    go_ret
    exact ⟨rfl, Below.refl _ _⟩
  · have HV := Lib.hid (show decide (okRune r) = Lib.validRune r by
      rw [Bool.eq_iff_iff, decide_eq_true_eq, ← ok_valid]
      exact ⟨fun h => h.2, fun h => ⟨h0, h⟩⟩)
    have h1 : (r != 0) = true := bne_iff_ne.2 h0
    have h2 : (r == 0) = false := beq_eq_false_iff_ne.2 h0
    clear h0
    go_enter Tryz.func45, Tryz.ntmps45
    go_wp2_with (go_at_call 62; refine (V.out _).mono ?_; rintro en w1 ⟨rfl, rfl⟩)
    go_ret
    rw [HV.out]
    exact ⟨rfl, Below.refl _ _⟩
end Go.Proofs.YtamggklblaigpaaGreatDoor.Rn

namespace Go.Proofs.YtamggklblaigpaaGreatDoor.Hx
open Go Go.RowKit Go.Proofs Go.Proofs.YtamggklblaigpaaGreatDoorW.PrintWords Go.Proofs.YtamggklblaigpaaGreatDoor.Kit Go.Proofs.YtamggklblaigpaaGreatDoor.PAll
set_option linter.unusedSimpArgs false
set_option linter.unusedVariables false

/-- What the walks ask of package variables. -/
structure HOK (w : World) : Prop where
  deb : w.cell? ⟨8, 15, none⟩ = some (.int .u8 4)
  syn : ∃ t p, w.cell? ⟨0, 0, none⟩ = some (.iface t p)
  rng : ∃ t p, w.cell? ⟨1, 0, none⟩ = some (.iface t p)
theorem cell_keep {w w' : World} {b i : Nat} {v : Value} (h : w.cell? ⟨b, i, none⟩ = some v) (hb : Below w.heap.size w w') : w'.cell? ⟨b, i, none⟩ = some v :=
  (hb.cell (p := ⟨b, i, none⟩) (World.block_lt_of_cell? w _ h)).trans h
theorem HOK.below {w w' : World} (h : HOK w) (hb : Below w.heap.size w w') : HOK w' :=
  ⟨cell_keep h.deb hb, h.syn.imp fun _ q => q.imp fun _ q => cell_keep q hb, h.rng.imp fun _ q => q.imp fun _ q => cell_keep q hb⟩
theorem tz_any (w : World) (h : w.cell? ⟨8, 15, none⟩ = some (.int .u8 4)) : Calls Tryz.prog 115 #[.int .u64 16] w fun e w' => e = .returned (.int .i64 4) ∧ w = w' := by
  have he : IntKind.u64.wrap (bits BinOp.and IntKind.u64 16 (IntKind.u64.wrap (-16)) * 285870213051353865) / 288230376151711744 = 15 := by decide +kernel
  go_enter Tryz.func115, Tryz.ntmps115
  go_wp2
  go_ret
  exact ⟨rfl, rfl⟩
theorem pow2_any (w : World) : Calls Tryz.prog 114 #[.int .i64 16] w fun e w' => e = .returned (.bool true) ∧ w = w' := by
  go_enter Tryz.func114, Tryz.ntmps114
  go_wp2
  go_ret
  exact ⟨rfl, rfl⟩
/-- The digits' names. -/
def digs : ByteArray := ⟨#[48, 49, 50, 51, 52, 53, 54, 55, 56, 57, 97, 98, 99, 100, 101, 102, 103, 104, 105, 106, 107, 108, 109, 110, 111, 112, 113, 114, 115, 116, 117, 118, 119, 120, 121, 122]⟩
theorem digs_at : ∀ n, n < 16 → digs.data[n]? = some (dlo n) := by decide
theorem idx_digs (d : Nat) (hd : d < 16) (W : World) : (Instr.index 9 (.string digs) (.int .u64 (d : Int))).run Tryz.prog W = .ok (.int .u8 ((dlo d).toNat : Int)) W := by
  have hs : digs.size = 36 := by decide
  rw [run_index_string W 9 digs .u64 _ Tryz.underlying9, dif_pos ⟨by omega, by rw [hs]; omega⟩]
  have := digs_at d hd
  have h2 : d < digs.data.size := by have : digs.data.size = 36 := by decide
                                     omega
  rw [Array.getElem?_eq_getElem h2] at this
  injection this with this
  rw [← this]
  simp [ByteArray.getElem_eq_getElem_data]
/-- The array's cells while the last digits are written. -/
def arrCs (ds : List Nat) : List Value := List.replicate (65 - ds.length) (Value.int .u8 0) ++ ds.map (fun d => Value.int .u8 ((dlo d).toNat : Int))
theorem zero_arr : Tryz.zeroCells141 = (arrCs []).toArray := by kernel_rfl
theorem arr_put (d : Nat) (ds : List Nat) (m : Nat) (h : m + ds.length = 64) : (arrCs ds).toArray.setIfInBounds m (Value.int .u8 ((dlo d).toNat : Int)) = (arrCs (d :: ds)).toArray := by
  unfold arrCs
  rw [List.length_cons, show 65 - (ds.length + 1) = m by omega, show 65 - ds.length = m + 1 by omega]
  rw [List.setIfInBounds_toArray]
  congr 1
  rw [List.replicate_succ', List.append_assoc, List.set_append_right _ _ (by simp)]
  simp
theorem arr_zero (ds : List Nat) (m : Nat) (h : m + ds.length < 65) : (arrCs ds).toArray[m]? = some (Value.int .u8 0) := by
  unfold arrCs
  rw [List.getElem?_toArray, List.getElem?_append_left (by simp; omega), List.getElem?_replicate, if_pos (by omega)]
theorem and15 (u : Nat) (hu : u < 18446744073709551616) : bits .and .u64 (u : Int) 15 = ((u % 16 : Nat) : Int) := by
  have := bits_mask .u64 64 (by decide) (fun n h1 h2 => by simp [IntKind.wrap, IntKind.bits, IntKind.signed]; omega) 4 (by decide) (u : Int) (by omega) (by omega)
  simpa using this
theorem cut_arr (g m : Nat) (hm : m < 65) (W : World) : (Instr.sliceAt 141 (.pointer (some ⟨g, 0, none⟩)) (some (.int .i64 (m : Int))) none none).run Tryz.prog W = .ok (.slice (some ⟨g, m, none⟩) (65 - m) (65 - m)) W := by
  have hal : Tryz.prog.arrayLen 141 = 65 := by simp [Program.arrayLen, Tryz.underlying141]
  have hel : Tryz.prog.elem 141 = 5 := by simp [Program.elem, Tryz.underlying141]
  have hsz : ∀ W, (sizeOf 5).run Tryz.prog W = .ok 1 W := fun W => by kernel_rfl
  rw [run_sliceAt_array_l W 141 ⟨g, 0, none⟩ (by rw [hal, hel]; exact Tryz.underlying141) .i64 (m : Int) (by omega) (by rw [hal]; omega), hel, hsz, hal]
  show Result.ok (slicedAt _ _ _ _ 1) W = _
  unfold slicedAt
  rw [Int.toNat_natCast, if_neg (by omega), Nat.mul_one, add_plain]
/-- The written digits, read as a row. -/
theorem arr_C {w : World} {g : Nat} (ds : List Nat) (m : Nat) (hm : m + ds.length = 65) (h : w.heap[g]? = some (.cells (arrCs ds).toArray 141 (0, 0))) : (Kd.int .u8).C w (some ⟨g, m, none⟩) (65 - m) (ds.map (fun d => ((dlo d).toNat : Int))) := by
  refine ⟨by rw [List.length_map]; omega, by omega, fun _ => ⟨_, rfl, fun j p hj => ⟨[.int .u8 p], rfl, rfl, fun i v hv => ?_⟩⟩⟩
  cases i with
  | zero =>
    have hv : Value.int .u8 p = v := by simpa [Kd.int, Kd.scalar] using hv
    subst hv
    have hz : (⟨g, m, none⟩ : Addr).add (j * (Kd.int .u8).sz + 0) = ⟨g, m + j, none⟩ := by
      have : (Kd.int .u8).sz = 1 := rfl
      rw [this, Nat.mul_one, Nat.add_zero]
      unfold Addr.add
      split <;> simp_all
    rw [hz, blk_cell h]
    unfold arrCs
    rw [List.getElem?_toArray, List.getElem?_append_right (by simp; omega), List.length_replicate, show m + j - (65 - ds.length) = j by omega, List.getElem?_map]
    rw [List.getElem?_map] at hj
    cases hd : ds[j]? with
    | none => rw [hd] at hj; cases hj
    | some d => rw [hd] at hj; simpa using hj
  | succ i => simp at hv
theorem str_digits (ds : List Nat) : strOfNums (ds.map (fun d => ((dlo d).toNat : Int))) = ⟨(ds.map dlo).toArray⟩ := by
  unfold strOfNums
  congr 1
  rw [List.map_map]
  congr 1
  apply List.map_congr_left
  intro d _
  simp
set_option maxHeartbeats 8000000 in
set_option maxRecDepth 100000 in
theorem fbits_any (n : Nat) (hn : n < 4294967296) (w : World) (h : w.cell? ⟨8, 15, none⟩ = some (.int .u8 4)) :
    Calls Tryz.prog 96 #[.slice none 0 0, .int .u64 n, .int .i64 16, .bool false, .bool false] w fun e w' => e = .returned (.tuple #[.slice none 0 0, .string ⟨(hexL n).toArray⟩]) ∧ Below w.heap.size w w' := by
  have P2 := Lib.hid (pow2_any)
  have TZ := Lib.hid (fun W (hW : Below w.heap.size w W) => tz_any W (cell_keep h hW))
  have h1 : (n : Int) ≤ 4294967295 := by omega
  have HN := Lib.hid hn
  clear h hn
  go_enter Tryz.func96, Tryz.ntmps96
  go_wp2_with (go_at_call 114; refine (P2.out _).mono ?_; rintro en w1 ⟨rfl, rfl⟩)
  have hbB := below_alloc (Below.refl w.heap.size w) (.cells Tryz.zeroCells141 141)
  have hGB := blk_new w (.cells Tryz.zeroCells141 141)
  rw [zero_arr] at hbB hGB ⊢
  have KB := Lib.hid hbB
  have GB := Lib.hid hGB
  have GE := Lib.hid (Nat.le_refl w.heap.size)
  refine (TZ.out _ KB.out).mono ?_
  clear hbB hGB
  generalize w.alloc (Obj.cells (arrCs []).toArray 141) = w2 at *
  rintro en w1 ⟨rfl, rfl⟩
  generalize hg : w.heap.size = g at GB ⊢
  have GE := Lib.hid (show w.heap.size ≤ g by omega)
  clear hg
  go_wp2
  go_loopw [1, 13] (fun vu vi wr => ∃ (ds : List Nat) (u m : Nat), vu = .int .u64 u ∧ vi = .int .i64 ((m : Int) + 1) ∧ m + ds.length = 64 ∧ ds.length ≤ 7 ∧ hexD 8 n = hexD (8 - ds.length) u ++ ds ∧ u < 16 ^ (8 - ds.length) ∧ wr.heap[g]? = some (.cells (arrCs ds).toArray 141 (0, 0)) ∧ Below w.heap.size w wr) (fun vu _ _ => (intOf vu).toNat)
  case atStart => exact ⟨[], n, 64, rfl, by go_num, by simp, by simp, by simp, by simpa using HN.out, GB.out, KB.out⟩
  case round =>
    clear KB GB HN
    obtain ⟨ds, u, m, rfl, rfl, hm, hl, hD, hu, hG, hB⟩ := hrel
    have KB := Lib.hid hB
    have GB := Lib.hid hG
    have HD := Lib.hid hD
    have HU := Lib.hid hu
    have hu8 : u < 4294967296 := Nat.lt_of_lt_of_le hu (Nat.le_trans (Nat.pow_le_pow_right (by omega) (show 8 - ds.length ≤ 8 by omega)) (by decide))
    have HM := Lib.hid hm
    have HL := Lib.hid hl
    have hm65 : (m : Int) ≤ 64 := by omega
    have hfz := blk_frozen hG m
    have hcl := (blk_cell hG m).trans (arr_zero ds m (by omega))
    clear hG hB hD hu hm hl
    by_cases h16 : 16 ≤ u
    · have hd : decide ((16 : Int) ≤ (u : Int)) = true := decide_eq_true (by omega)
      have hand := and15 u (by omega)
      have hidx := idx_digs (u % 16) (by omega)
      unfold digs at hidx
      have hdv : (((u % 16 : Nat) : Int)) ≤ 15 := by omega
      generalize hq : ((u % 16 : Nat) : Int) = q at hand hidx
      go_wp2
      go_roundw
      case rel =>
        have hl := HL.out
        have hm := HM.out
        have hD := HD.out
        have hu := HU.out
        have h6 : ds.length ≤ 6 := by
          rcases Nat.lt_or_ge ds.length 7 with q | q
          · omega
          · rw [show ds.length = 7 by omega] at hu
            omega
        obtain ⟨k, hk⟩ : ∃ k, 8 - ds.length = k + 1 := ⟨7 - ds.length, by omega⟩
        rw [hk] at hD hu
        refine ⟨(u % 16) :: ds, u / 16, m - 1, by rw [Int.natCast_ediv]; rfl, by congr 1; omega, by simp; omega, by simp; omega, ?_, ?_, blk_put GB.out m _ (arr_put _ _ _ hm), KB.out.setCell GE.out _⟩
        · rw [hD]
          conv => lhs; unfold hexD
          rw [if_neg (by omega), List.length_cons, show 8 - (ds.length + 1) = k by omega, List.append_assoc]
          rfl
        · rw [List.length_cons, show 8 - (ds.length + 1) = k by omega]
          rw [Nat.pow_succ] at hu
          omega
      case measure => simp [intOf]; omega
    · have hd : decide ((16 : Int) ≤ (u : Int)) = false := decide_eq_false (by omega)
      have hidx := idx_digs u (by omega)
      unfold digs at hidx
      have hu15 : (u : Int) ≤ 15 := by omega
      have hsl := cut_arr g m (by omega)
      have hcv := Kd.C_string (P := Tryz.prog) (c := 65 - m) Tryz.underlying82 Tryz.underlying5 Tryz.underlying9 (by have := arr_C (u :: ds) m (by have := HM.out; simp; omega) (blk_put GB.out m _ (arr_put u ds m HM.out)); rw [show 65 - m = ((u :: ds).map (fun d => ((dlo d).toNat : Int))).length by have := HM.out; simp; omega] at this; exact this)
      rw [str_digits] at hcv
      rw [show ((u :: ds).map (fun d => ((dlo d).toNat : Int))).length = 65 - m by have := HM.out; simp; omega] at hcv
      have HR := Lib.hid (show (u :: ds).map dlo = hexL n by
        unfold hexL
        rw [HD.out]
        have hl := HL.out
        obtain ⟨k, hk⟩ : ∃ k, 8 - ds.length = k + 1 := ⟨7 - ds.length, by omega⟩
        rw [hk]
        unfold hexD
        rw [if_pos (by omega)]
        rfl)
      rw [HR.out] at hcv
      go_wp2
      go_ret2
      exact ⟨rfl, KB.out.setCell GE.out _⟩
theorem fmt_any (n : Nat) (hn : n < 4294967296) (w : World) (h : w.cell? ⟨8, 15, none⟩ = some (.int .u8 4)) :
    Calls Tryz.prog 56 #[.int .i64 n, .int .i64 16] w fun e w' => e = .returned (.string ⟨(hexL n).toArray⟩) ∧ Below w.heap.size w w' := by
  have FB := Lib.hid (fun W (hW : Below w.heap.size w W) => fbits_any n hn W (cell_keep h hW))
  have h1 : (n : Int) ≤ 4294967295 := by omega
  have IF : Calls Tryz.prog 72 #[.int .i64 n, .int .i64 16] w fun e w' => e = .returned (.string ⟨(hexL n).toArray⟩) ∧ Below w.heap.size w w' := by
    clear h hn
    go_enter Tryz.func72, Tryz.ntmps72
    go_wp2_with (go_at_call 96; refine (FB.out _ (by first | exact Below.refl _ _ | exact below_alloc (Below.refl _ _) _)).mono ?_; rintro en w1 ⟨rfl, hb⟩; have KB := Lib.hid hb; clear hb)
    go_ret
    exact ⟨rfl, KB.out⟩
  have IF := Lib.hid IF
  clear h hn FB
  go_enter Tryz.func56, Tryz.ntmps56
  go_wp2_with (go_at_call 72; refine IF.out.mono ?_; rintro en w1 ⟨rfl, hb⟩; have KB := Lib.hid hb; clear hb)
  go_ret
  exact ⟨rfl, KB.out⟩
end Go.Proofs.YtamggklblaigpaaGreatDoor.Hx

namespace Go.Proofs.YtamggklblaigpaaGreatDoor.Hx
open Go Go.RowKit Go.Proofs Go.Proofs.YtamggklblaigpaaGreatDoorW.PrintWords Go.Proofs.YtamggklblaigpaaGreatDoor.Kit Go.Proofs.YtamggklblaigpaaGreatDoor.PAll
set_option linter.unusedSimpArgs false
set_option linter.unusedVariables false

/-- What spells a small number in great letters. -/
def HexOk (l : List UInt8) : Prop := (∀ c ∈ l, (hv c).isSome = true) ∧ hexV l < 2147483648
theorem fold_le : ∀ (b : List UInt8) (n : Nat), n ≤ b.foldl (fun n c => 16 * n + (hv c).getD 0) n
  | [], n => Nat.le_refl _
  | c :: b, n => Nat.le_trans (by omega) (fold_le b (16 * n + (hv c).getD 0))
theorem hexV_le (l : List UInt8) (k : Nat) : hexV (l.take k) ≤ hexV l := by
  conv => rhs; rw [← List.take_append_drop k l, hexV_app]
  exact fold_le _ _
theorem hexV_take {l : List UInt8} {k : Nat} (h : k < l.length) : hexV (l.take (k + 1)) = 16 * hexV (l.take k) + (hv l[k]).getD 0 := by
  rw [List.take_succ_eq_append_getElem h, hexV_app]
  rfl
theorem low_in : ∀ c : Fin 256, 0 ≤ bits .or .u8 (c.1 : Int) 32 ∧ bits .or .u8 (c.1 : Int) 32 ≤ 255 := by decide +kernel
theorem low_hex : ∀ c : Fin 256, (hv (UInt8.ofNat c.1)).isSome = true → ¬ (48 ≤ c.1 ∧ c.1 ≤ 57) → 97 ≤ bits .or .u8 (c.1 : Int) 32 ∧ bits .or .u8 (c.1 : Int) 32 ≤ 102 ∧ bits .or .u8 (c.1 : Int) 32 - 97 + 10 = (((hv (UInt8.ofNat c.1)).getD 0 : Nat) : Int) := by decide +kernel
theorem dig_hex : ∀ c : Fin 256, 48 ≤ c.1 ∧ c.1 ≤ 57 → hv (UInt8.ofNat c.1) = some (c.1 - 48) := by decide +kernel
theorem lower_any (c : Int) (w : World) : Calls Tryz.prog 120 #[.int .u8 c] w fun e w' => e = .returned (.int .u8 (bits .or .u8 c 32)) ∧ w = w' := by
  go_enter Tryz.func120, Tryz.ntmps120
  go_wp2
  go_ret
  exact ⟨rfl, rfl⟩
def Ev (v : Value) : Prop := v = .nilIface ∨ v = .iface 106 (.int .i64 1) ∨ v = .iface 106 (.int .i64 2)
def PuP (l : List UInt8) (w : World) (en : Ending) (w' : World) : Prop :=
  ∃ (n : Int) (ev : Value), en = .returned (.tuple #[.int .u64 n, ev]) ∧ 0 ≤ n ∧ n ≤ 4294967295 ∧ Ev ev ∧ (l ≠ [] → HexOk l → ev = .nilIface ∧ n = hexV l) ∧ Below w.heap.size w w'
set_option maxHeartbeats 32000000 in
set_option maxRecDepth 100000 in
theorem puint_any (t : ByteArray) (hne : t.size ≠ 0) (hmax : t.size ≤ 1000000) (w : World) :
    Calls Tryz.prog 105 #[.string t, .int .i64 16, .int .i64 32] w (PuP t.data.toList w) := by
  have LW := Lib.hid lower_any
  have hemp : t.toList.isEmpty = false := by
    rw [← decide_eq_emptyBytes]
    exact decide_eq_false (fun h => hne (by rw [h]; rfl))
  have hcv := Lib.run_convert_string_bytes (P := Tryz.prog) w 9 82 5 t (u := .string) Tryz.underlying9 Tryz.underlying82 Tryz.underlying5
  have hB : ∀ j, j < t.size → (Lib.bytesWorld w 5 t).cell? ⟨w.heap.size, j, none⟩ = some (.int .u8 (t.data.toList.getD j 0).toNat) := fun j hj => Lib.bytesWorld_cell w 5 t j hj
  have hbl := Lib.bytesWorld_below w 5 t
  obtain ⟨W1, hW1⟩ : ∃ W1, W1 = Lib.bytesWorld w 5 t := ⟨_, rfl⟩
  rw [← hW1] at hcv hB hbl
  clear hW1
  have KB := Lib.hid hbl
  obtain ⟨bs, hL⟩ : ∃ bs, bs = t.data.toList := ⟨_, rfl⟩
  have hLn : bs.length = t.size := by rw [hL, Lib.size_eq]
  rw [← hL] at hB ⊢
  clear hL hbl
  have hmv : IntKind.u64.wrap (IntKind.u64.wrap 4294967296 - 1) = 4294967295 := by decide +kernel
  have HB := Lib.hid hB
  have HLN := Lib.hid hLn
  clear hB hLn
  go_enter Tryz.func105, Tryz.ntmps105
  go_wp2
  go_loop [12, 13, 101] (fun vu vn vi => ∃ (k : Nat) (a : Int), vu = .bool false ∧ vn = .int .u64 a ∧ vi = .int .i64 k ∧ k ≤ t.size ∧ 0 ≤ a ∧ a ≤ 4294967295 ∧ Hid (HexOk bs → a = hexV (bs.take k))) (fun _ _ vi => t.size - (intOf vi).toNat)
  case atStart => exact ⟨0, 0, rfl, rfl, rfl, by omega, by omega, by omega, Lib.hid fun _ => rfl⟩
  case round =>
    obtain ⟨k, a, rfl, rfl, rfl, hk, a0, a1, HA⟩ := hrel
    by_cases hkn : k < t.size
    · have hc := HB.out k hkn
      have hkb : k < bs.length := by rw [HLN.out]; exact hkn
      have hget : bs.getD k 0 = bs[k] := by simp [List.getD, List.getElem?_eq_getElem hkb]
      rw [hget] at hc
      have hc256 : (bs[k]).toNat < 256 := (bs[k]).toNat_lt
      have hcc : UInt8.ofNat (bs[k]).toNat = bs[k] := by simp
      have HV := Lib.hid (fun (h : HexOk bs) => (h.1 bs[k] (List.getElem_mem hkb)))
      have HT := Lib.hid (hexV_take hkb)
      have HM := Lib.hid (fun (h : HexOk bs) => Nat.lt_of_le_of_lt (hexV_le bs (k + 1)) h.2)
      have lo : 0 ≤ bits .or .u8 ((bs[k]).toNat : Int) 32 ∧ bits .or .u8 ((bs[k]).toNat : Int) 32 ≤ 255 := low_in ⟨_, hc256⟩
      have lh := low_hex ⟨_, hc256⟩
      have dh := dig_hex ⟨_, hc256⟩
      simp only [hcc] at lh dh
      have LH := Lib.hid lh
      have DH := Lib.hid dh
      have hz : ¬ ((bs[k]).toNat : Int) < 0 := by omega
      have CC := Lib.hid hc256
      clear lh dh hcc hget hc256
      generalize hq : (bs[k]).toNat = q at hc LH DH lo CC
      have HQ := Lib.hid hq
      clear hq hz
      obtain ⟨lo0, lo1⟩ := lo
      have q255 : (q : Int) ≤ 255 := by have := CC.out; omega
      by_cases hdig : 48 ≤ q ∧ q ≤ 57
      · obtain ⟨hd0, hd1⟩ := hdig
        by_cases hov : 4294967295 < a * 16 + ((q : Int) - 48)
        · have NO := Lib.hid (show ¬ HexOk bs from fun h => by
            have h1 := HA.out h
            have h2 := HM.out h
            have h3 := HT.out
            rw [DH.out ⟨hd0, hd1⟩, Option.getD_some] at h3
            omega)
          clear lo0 lo1
          have icut : a < 1152921504606846976 := by omega
          go_wp2
          go_ret2
          exact ⟨_, _, rfl, by omega, by omega, .inr (.inl rfl), fun _ h => absurd h NO.out, KB.out⟩
        · have icut : a < 1152921504606846976 := by omega
          have iov : a * 16 + ((q : Int) - 48) ≤ 4294967295 := by omega
          have HN := Lib.hid (show HexOk bs → a * 16 + ((q : Int) - 48) = hexV (bs.take (k + 1)) from fun h => by
            rw [HT.out, DH.out ⟨hd0, hd1⟩, Option.getD_some, HA.out h]
            omega)
          clear lo0 lo1 hov
          go_wp2
          refine ⟨⟨k + 1, a * 16 + ((q : Int) - 48), rfl, rfl, by go_num, by omega, by omega, by omega, HN⟩, by simp [intOf]; omega⟩
      · have LH2 := Lib.hid (fun h => LH.out h hdig)
        have hv95 : bits .or .u8 95 32 = 127 := by decide +kernel
        generalize hv : bits .or .u8 (q : Int) 32 = v at lo0 lo1 LH2
        have LV := Lib.hid (fun W => (lower_any (q : Int) W))
        rw [hv] at LV
        by_cases h95 : q = 95
        · have e5 : ((q : Int) == 95) = true := by rw [h95]; rfl
          have hv127 : v = 127 := by rw [← hv, h95]; exact hv95
          have NO := Lib.hid (show ¬ HexOk bs from fun h => by have := (LH2.out (HV.out h)).2.1; omega)
          have hq : 57 < q := by omega
          clear LH2 hdig hv LH hv95 LW h95
          subst hv127
          go_wp2_with (go_at_call 120; refine (LV.out _).mono ?_; rintro e w' ⟨rfl, rfl⟩)
          go_ret2
          exact ⟨_, _, rfl, by omega, by omega, .inr (.inr rfl), fun _ h => absurd h NO.out, KB.out⟩
        · have hne5 : ((q : Int) == 95) = false := beq_eq_false_iff_ne.2 (by omega)
          clear hv hv95 LH LW
          by_cases hlet : 97 ≤ v ∧ v ≤ 102
          · obtain ⟨l0, l1⟩ := hlet
            by_cases hov : 4294967295 < a * 16 + (v - 97 + 10)
            · have NO := Lib.hid (show ¬ HexOk bs from fun h => by
                have h1 := HA.out h
                have h2 := HM.out h
                have h3 := HT.out
                have h4 := (LH2.out (HV.out h)).2.2
                omega)
              clear LH2
              have icut : a < 1152921504606846976 := by omega
              rcases (show q < 48 ∨ 57 < q by omega) with hq | hq
              all_goals
                go_wp2_with (go_at_call 120; refine (LV.out _).mono ?_; rintro e w' ⟨rfl, rfl⟩)
                go_ret2
                exact ⟨_, _, rfl, by omega, by omega, .inr (.inl rfl), fun _ h => absurd h NO.out, KB.out⟩
            · have icut : a < 1152921504606846976 := by omega
              have iov : a * 16 + (v - 97 + 10) ≤ 4294967295 := by omega
              have HN := Lib.hid (show HexOk bs → a * 16 + (v - 97 + 10) = hexV (bs.take (k + 1)) from fun h => by
                rw [HT.out, HA.out h]
                have h4 := (LH2.out (HV.out h)).2.2
                omega)
              clear LH2 hov
              rcases (show q < 48 ∨ 57 < q by omega) with hq | hq
              all_goals
                go_wp2_with (go_at_call 120; refine (LV.out _).mono ?_; rintro e w' ⟨rfl, rfl⟩)
                refine ⟨⟨k + 1, a * 16 + (v - 97 + 10), rfl, by go_num, by go_num, by omega, by omega, by omega, HN⟩, by simp [intOf]; omega⟩
          · have NO := Lib.hid (show ¬ HexOk bs from fun h => by
              have h4 := LH2.out (HV.out h)
              omega)
            clear LH2
            rcases (show (q < 48 ∨ 57 < q) ∧ (v < 97 ∨ (103 ≤ v ∧ v ≤ 122) ∨ 122 < v) by omega) with ⟨hq | hq, hw | ⟨hw, hw2⟩ | hw⟩
            all_goals
              clear hlet hdig
              go_wp2_with (go_at_call 120; refine (LV.out _).mono ?_; rintro e w' ⟨rfl, rfl⟩)
              go_ret2
              exact ⟨_, _, rfl, by omega, by omega, .inr (.inr rfl), fun _ h => absurd h NO.out, KB.out⟩
    · have hkk : k = t.size := by omega
      subst hkk
      have HF := Lib.hid (show HexOk bs → a = hexV bs from fun h => by
        have := HA.out h
        rwa [← HLN.out, List.take_length] at this)
      go_wp2
      go_ret2
      exact ⟨_, _, rfl, a0, a1, .inl rfl, fun _ h => ⟨rfl, HF.out h⟩, KB.out⟩
end Go.Proofs.YtamggklblaigpaaGreatDoor.Hx

namespace Go.Proofs.YtamggklblaigpaaGreatDoor.Hx
open Go Go.RowKit Go.Proofs Go.Proofs.YtamggklblaigpaaGreatDoorW.PrintWords Go.Proofs.YtamggklblaigpaaGreatDoor.Kit Go.Proofs.YtamggklblaigpaaGreatDoor.PAll
set_option linter.unusedSimpArgs false
set_option linter.unusedVariables false

set_option maxRecDepth 100000 in
theorem puint_empty (w : World) : Calls Tryz.prog 105 #[.string ⟨#[]⟩, .int .i64 16, .int .i64 32] w (PuP [] w) := by
  go_enter Tryz.func105, Tryz.ntmps105
  go_wp2
  go_ret2
  exact ⟨_, _, rfl, by omega, by omega, .inr (.inr rfl), fun h => absurd rfl h, Below.refl _ _⟩
theorem puint_all (t : ByteArray) (hmax : t.size ≤ 1000000) (w : World) : Calls Tryz.prog 105 #[.string t, .int .i64 16, .int .i64 32] w (PuP t.data.toList w) := by
  by_cases h : t.size = 0
  · obtain rfl : t = ⟨#[]⟩ := by
      apply ByteArray.ext
      exact Array.eq_empty_of_size_eq_zero h
    exact puint_empty w
  · exact puint_any t h hmax w
def PiP (l : List UInt8) (w : World) (en : Ending) (w' : World) : Prop :=
  ∃ (n : Int) (ev : Value), en = .returned (.tuple #[.int .i64 n, ev]) ∧ -2147483648 ≤ n ∧ n ≤ 2147483647 ∧ Ev ev ∧ (l ≠ [] → HexOk l → ev = .nilIface ∧ n = hexV l) ∧ Below w.heap.size w w'
theorem ipint_empty (w : World) : Calls Tryz.prog 82 #[.string ⟨#[]⟩, .int .i64 16, .int .i64 32] w (PiP [] w) := by
  go_enter Tryz.func82, Tryz.ntmps82
  go_wp2
  go_ret2
  exact ⟨_, _, rfl, by omega, by omega, .inr (.inr rfl), fun h => absurd rfl h, Below.refl _ _⟩
theorem bad_head {t : ByteArray} (h0 : 0 < t.size) (h : t[0].toNat = 43 ∨ t[0].toNat = 45) : ¬ HexOk t.data.toList := by
  intro hk
  have hm : t[0] ∈ t.data.toList := by
    rw [Array.mem_toList_iff]
    exact Array.getElem_mem _
  have h1 := hk.1 _ hm
  unfold hv at h1
  rw [if_neg (by omega), if_neg (by omega)] at h1
  cases h1
set_option maxHeartbeats 8000000 in
set_option maxRecDepth 100000 in
theorem ipint_any (t : ByteArray) (hne : t.size ≠ 0) (hmax : t.size ≤ 1000000) (w : World) : Calls Tryz.prog 82 #[.string t, .int .i64 16, .int .i64 32] w (PiP t.data.toList w) := by
  have hemp : t.toList.isEmpty = false := by
    rw [← decide_eq_emptyBytes]
    exact decide_eq_false (fun h => hne (by rw [h]; rfl))
  have PU := Lib.hid (puint_all t hmax w)
  have PE := Lib.hid (puint_all (t.extract 1 t.size) (by simp [ByteArray.size_extract]; omega) w)
  have hq2 : ∀ W, (binOp .neq 72 (.iface 106 (.int .i64 2)) (.iface 106 (.int .i64 1))).run Tryz.prog W = .ok (.bool true) W := fun W => Lib.run_neq_iface_int W 2 1 Tryz.underlying72 (by kernel_rfl) Tryz.underlying106
  have hq1 : ∀ W, (binOp .neq 72 (.iface 106 (.int .i64 1)) (.iface 106 (.int .i64 1))).run Tryz.prog W = .ok (.bool false) W := fun W => Lib.run_neq_iface_int W 1 1 Tryz.underlying72 (by kernel_rfl) Tryz.underlying106
  have h0 : 0 < t.size := by omega
  have h1 : 1 ≤ t.size := by omega
  rcases (show t[0].toNat = 43 ∨ t[0].toNat = 45 ∨ (t[0].toNat ≠ 43 ∧ t[0].toNat ≠ 45) by omega) with hc | hc | ⟨hc, hc2⟩
  · have e1 : ((t[0].toNat : Int) == 43) = true := by rw [hc]; rfl
    have NO := Lib.hid (bad_head h0 (.inl hc))
    clear hc
    go_enter Tryz.func82, Tryz.ntmps82
    go_wp2_with (fail)
    refine PE.out.mono ?_
    rintro en w1 ⟨n, ev, rfl, n0, n1, he, hh, hb⟩
    have KB := Lib.hid hb
    clear hb hh PU PE
    rcases he with rfl | rfl | rfl
    · by_cases hq : 2147483648 ≤ n
      · go_wp2
        go_ret2
        exact ⟨_, _, rfl, by omega, by omega, .inr (.inl rfl), fun _ h => absurd h NO.out, KB.out⟩
      · go_wp2
        go_ret2
        exact ⟨_, _, rfl, by omega, by omega, .inl rfl, fun _ h => absurd h NO.out, KB.out⟩
    · by_cases hq : 2147483648 ≤ n
      · go_wp2
        go_ret2
        exact ⟨_, _, rfl, by omega, by omega, .inr (.inl rfl), fun _ h => absurd h NO.out, KB.out⟩
      · go_wp2
        go_ret2
        exact ⟨_, _, rfl, by omega, by omega, .inl rfl, fun _ h => absurd h NO.out, KB.out⟩
    · go_wp2
      go_ret2
      exact ⟨_, _, rfl, by omega, by omega, .inr (.inr rfl), fun _ h => absurd h NO.out, KB.out⟩
  · have e1 : ((t[0].toNat : Int) == 43) = false := by rw [hc]; rfl
    have e2 : ((t[0].toNat : Int) == 45) = true := by rw [hc]; rfl
    have NO := Lib.hid (bad_head h0 (.inr hc))
    clear hc
    go_enter Tryz.func82, Tryz.ntmps82
    go_wp2_with (fail)
    refine PE.out.mono ?_
    rintro en w1 ⟨n, ev, rfl, n0, n1, he, hh, hb⟩
    have KB := Lib.hid hb
    clear hb hh PU PE
    rcases he with rfl | rfl | rfl
    · by_cases hq : 2147483648 < n
      · go_wp2
        go_ret2
        exact ⟨_, _, rfl, by omega, by omega, .inr (.inl rfl), fun _ h => absurd h NO.out, KB.out⟩
      · go_wp2
        go_ret2
        exact ⟨_, _, rfl, by omega, by omega, .inl rfl, fun _ h => absurd h NO.out, KB.out⟩
    · by_cases hq : 2147483648 < n
      · go_wp2
        go_ret2
        exact ⟨_, _, rfl, by omega, by omega, .inr (.inl rfl), fun _ h => absurd h NO.out, KB.out⟩
      · go_wp2
        go_ret2
        exact ⟨_, _, rfl, by omega, by omega, .inl rfl, fun _ h => absurd h NO.out, KB.out⟩
    · go_wp2
      go_ret2
      exact ⟨_, _, rfl, by omega, by omega, .inr (.inr rfl), fun _ h => absurd h NO.out, KB.out⟩
  · have e1 : ((t[0].toNat : Int) == 43) = false := beq_eq_false_iff_ne.2 (by omega)
    have e2 : ((t[0].toNat : Int) == 45) = false := beq_eq_false_iff_ne.2 (by omega)
    clear hc hc2
    go_enter Tryz.func82, Tryz.ntmps82
    go_wp2_with (fail)
    refine PU.out.mono ?_
    rintro en w1 ⟨n, ev, rfl, n0, n1, he, hh, hb⟩
    have KB := Lib.hid hb
    have HH := Lib.hid hh
    have NO := Lib.hid (show 2147483648 ≤ n → t.data.toList ≠ [] → ¬ HexOk t.data.toList from fun hn h1 h => by
      have := (hh h1 h).2
      have := h.2
      omega)
    clear hb hh PU PE
    rcases he with rfl | rfl | rfl
    · by_cases hq : 2147483648 ≤ n
      · have NO := Lib.hid (NO.out hq)
        go_wp2
        go_ret2
        exact ⟨_, _, rfl, by omega, by omega, .inr (.inl rfl), fun h1 h => absurd h (NO.out h1), KB.out⟩
      · go_wp2
        go_ret2
        exact ⟨_, _, rfl, by omega, by omega, .inl rfl, fun h1 h => ⟨rfl, (HH.out h1 h).2⟩, KB.out⟩
    · have NE := Lib.hid (show t.data.toList ≠ [] → ¬ HexOk t.data.toList from fun h1 h => by cases (HH.out h1 h).1)
      by_cases hq : 2147483648 ≤ n
      · go_wp2
        go_ret2
        exact ⟨_, _, rfl, by omega, by omega, .inr (.inl rfl), fun h1 h => absurd h (NE.out h1), KB.out⟩
      · go_wp2
        go_ret2
        exact ⟨_, _, rfl, by omega, by omega, .inl rfl, fun h1 h => absurd h (NE.out h1), KB.out⟩
    · have NE := Lib.hid (show t.data.toList ≠ [] → ¬ HexOk t.data.toList from fun h1 h => by cases (HH.out h1 h).1)
      go_wp2
      go_ret2
      exact ⟨_, _, rfl, by omega, by omega, .inr (.inr rfl), fun h1 h => absurd h (NE.out h1), KB.out⟩
theorem ipint_all (t : ByteArray) (hmax : t.size ≤ 1000000) (w : World) : Calls Tryz.prog 82 #[.string t, .int .i64 16, .int .i64 32] w (PiP t.data.toList w) := by
  by_cases h : t.size = 0
  · obtain rfl : t = ⟨#[]⟩ := by
      apply ByteArray.ext
      exact Array.eq_empty_of_size_eq_zero h
    exact ipint_empty w
  · exact ipint_any t h hmax w
/-- What strconv.ParseInt returns: the number, or an error. -/
def SpP (l : List UInt8) (w : World) (en : Ending) (w' : World) : Prop :=
  ∃ (n : Int) (ev : Value), en = .returned (.tuple #[.int .i64 n, ev]) ∧ -2147483648 ≤ n ∧ n ≤ 2147483647 ∧ (ev = .nilIface ∨ ∃ t p, ev = .iface t p) ∧ (l ≠ [] → HexOk l → ev = .nilIface ∧ n = hexV l) ∧ Below w.heap.size w w'
set_option maxHeartbeats 8000000 in
set_option maxRecDepth 100000 in
theorem pint_any (s : ByteArray) (hmax : s.size ≤ 1000000) (w : World) (hG : HOK w) : Calls Tryz.prog 68 #[.string s, .int .i64 16, .int .i64 32] w (SpP s.data.toList w) := by
  have IP := Lib.hid (ipint_all s hmax w)
  have HG := Lib.hid hG
  have HM := Lib.hid (show s.size ≤ 281474976710656 by omega)
  clear hG hmax
  go_enter Tryz.func68, Tryz.ntmps68
  go_wp2_with (fail)
  refine IP.out.mono ?_
  rintro en w1 ⟨n, ev, rfl, n0, n1, he, hh, hb⟩
  have HG := Lib.hid (HG.out.below hb)
  have KB := Lib.hid hb
  have HH := Lib.hid hh
  clear hb hh IP
  rcases he with rfl | rfl | rfl
  · go_wp2
    go_ret2
    exact ⟨_, _, rfl, n0, n1, .inl rfl, fun h1 h => ⟨rfl, (HH.out h1 h).2⟩, KB.out⟩
  · have NE := Lib.hid (show s.data.toList ≠ [] → ¬ HexOk s.data.toList from fun h1 h => by cases (HH.out h1 h).1)
    clear HH
    obtain ⟨te, pe, hv⟩ := HG.out.rng
    have HV := Lib.hid hv
    clear hv
    go_wp2_with (go_at_call 66; refine (Tryz.strconv_toError_range _ s _ _ (.iface te pe) _ HM.out HV.out (.inr ⟨te, pe, rfl⟩)).mono ?_; rintro en w2 ⟨N, rfl, _, _, hb⟩; have KB := Lib.hid (below_step KB.out hb); clear hb)
    go_ret2
    exact ⟨_, _, rfl, n0, n1, .inr ⟨_, _, rfl⟩, fun h1 h => absurd h (NE.out h1), KB.out⟩
  · have NE := Lib.hid (show s.data.toList ≠ [] → ¬ HexOk s.data.toList from fun h1 h => by cases (HH.out h1 h).1)
    clear HH
    obtain ⟨te, pe, hv⟩ := HG.out.syn
    have HV := Lib.hid hv
    clear hv
    go_wp2_with (go_at_call 66; refine (Tryz.strconv_toError_syntax _ s _ _ (.iface te pe) _ HM.out HV.out (.inr ⟨te, pe, rfl⟩)).mono ?_; rintro en w2 ⟨N, rfl, _, _, hb⟩; have KB := Lib.hid (below_step KB.out hb); clear hb)
    go_ret2
    exact ⟨_, _, rfl, n0, n1, .inr ⟨_, _, rfl⟩, fun h1 h => absurd h (NE.out h1), KB.out⟩
end Go.Proofs.YtamggklblaigpaaGreatDoor.Hx

/- Names of runes: the walks of runes.Name and runes.ByName. -/
namespace Go.Proofs.YtamggklblaigpaaGreatDoor.Hx
open Go Go.RowKit Go.Proofs Go.Proofs.YtamggklblaigpaaGreatDoorW.PrintWords Go.Proofs.YtamggklblaigpaaGreatDoor.Kit Go.Proofs.YtamggklblaigpaaGreatDoor.PAll Go.Proofs.YtamggklblaigpaaGreatDoor.Rn
set_option linter.unusedSimpArgs false
set_option linter.unusedVariables false

theorem hexL_up (n : Nat) : Lib.toUpperA (hexL n) = hexU n := upper n
theorem hexU_len (n : Nat) : (hexU n).length = (hexD 8 n).length := by unfold hexU; rw [List.length_map]
theorem rep_zero (c : Nat) : Lib.repeatL [48] c = List.replicate c 48 := by
  induction c with
  | zero => rfl
  | succ c ih => rw [Lib.repeatL, ih]; rfl
theorem name_eq (n : Nat) (u : ByteArray) (hu : u = ⟨(hexU n).toArray⟩) (hs : u.size = (hexD 8 n).length) : (⟨#[85, 43]⟩ : ByteArray) ++ ⟨(List.replicate (4 - u.size) (48 : UInt8)).toArray⟩ ++ u = nameP n := by
  rw [hs, hu]
  unfold nameP nameL
  apply ByteArray.ext
  simp [ByteArray.data_append]
set_option maxHeartbeats 8000000 in
set_option maxRecDepth 100000 in
theorem name_any (r : Int) (w : World) (hG : HOK w) : Calls Tryz.prog 40 #[.int .i32 r] w (BeP (.tuple #[.string (namP r).1, .int .i64 (namP r).2]) w) := by
  have VB := Lib.hid (valid_be r)
  by_cases h : okRune r
  · have hr := h.1
    have hr2 := h.2.1
    obtain ⟨n, rfl⟩ : ∃ n : Nat, r = n := ⟨r.toNat, by omega⟩
    rw [decide_eq_true h] at VB
    have E := Lib.hid (show namP (n : Int) = (nameP n, 0) from by unfold namP; rw [if_pos h, Int.toNat_natCast])
    have FM := Lib.hid (fun W (hW : Below w.heap.size w W) => fmt_any n (by omega) W (hG.below hW).deb)
    have hlen := hexD_six (n := n) (by omega)
    obtain ⟨u, hu⟩ : ∃ u : ByteArray, u = ⟨(hexU n).toArray⟩ := ⟨_, rfl⟩
    have hus : u.size = (hexD 8 n).length := by rw [hu]; simp [ByteArray.size, hexU_len]
    have UP := fun W => Tryz.strings_ToUpper_ascii ⟨(hexL n).toArray⟩ W (by simp [ByteArray.size, hexL]; omega) (by simpa using ascii n)
    have e0 : (⟨(Lib.toUpperA (⟨(hexL n).toArray⟩ : ByteArray).data.toList).toArray⟩ : ByteArray) = u := by rw [hu]; simp [hexL_up]
    rw [e0] at UP
    have UP := Lib.hid UP
    have hu6 : u.size ≤ 6 := by omega
    have hui : (u.size : Int) ≤ 6 := by omega
    have hu64 : u.size ≤ 9223372036854775807 := by omega
    have RE := Lib.hid (fun c W (hc : c ≤ 4) => Tryz.strings_Repeat ⟨#[48]⟩ c W (by omega) (by simp [ByteArray.size]; omega))
    have HU := Lib.hid hu
    have HUS := Lib.hid hus
    clear h hG e0 hu hus hlen
    go_enter Tryz.func40, Tryz.ntmps40
    go_wp2_with (go_at_call 45; refine (VB.out _).mono ?_; rintro en w1 ⟨rfl, hb⟩; have KB := Lib.hid hb; clear hb)
    refine (FM.out _ KB.out).mono ?_
    rintro en w2 ⟨rfl, hb⟩
    have KB := Lib.hid (below_step KB.out hb)
    clear hb
    go_wp2_with (go_at_call 55; refine (UP.out _).mono ?_; rintro en w3 ⟨rfl, hb⟩; have KB := Lib.hid (below_step KB.out hb); clear hb)
    have RQ := RE.out (4 - u.size) w3 (by omega)
    rw [show ((4 - u.size : Nat) : Int) = max 0 (4 - (u.size : Int)) by omega, rep_zero] at RQ
    refine RQ.mono ?_
    rintro en w4 ⟨rfl, hb⟩
    have KB := Lib.hid (below_step KB.out hb)
    clear hb RQ RE
    have EQ := Lib.hid (name_eq n u HU.out HUS.out)
    have hz : (⟨(List.replicate (4 - u.size) (48 : UInt8)).toArray⟩ : ByteArray).size ≤ 4 := by
      show (List.replicate (4 - u.size) (48 : UInt8)).toArray.size ≤ 4
      rw [List.size_toArray, List.length_replicate]
      omega
    generalize (⟨(List.replicate (4 - u.size) (48 : UInt8)).toArray⟩ : ByteArray) = z at *
    have hs1 : 2 + z.size ≤ 9223372036854775807 := by omega
    have hs2 : 2 + z.size + u.size ≤ 9223372036854775807 := by omega
    have hs3 : ((⟨#[85, 43]⟩ : ByteArray) ++ z).size + u.size ≤ 9223372036854775807 := by rw [ByteArray.size_append]; show 2 + z.size + u.size ≤ _; omega
    go_wp2
    go_ret2
    rw [E.out]
    exact ⟨by rw [← EQ.out]; rfl, KB.out⟩
  · have E := Lib.hid (show namP r = (⟨#[]⟩, 13) from if_neg h)
    rw [decide_eq_false h] at VB
    clear h hG
    go_enter Tryz.func40, Tryz.ntmps40
    go_wp2_with (go_at_call 45; refine (VB.out _).mono ?_; rintro en w1 ⟨rfl, hb⟩; have KB := Lib.hid hb; clear hb)
    go_ret2
    rw [E.out]
    exact ⟨rfl, KB.out⟩
/-- What is left of a text behind the names' beginning. -/
theorem trim_name (n : Nat) : Lib.trimPrefix (nameL n) [85, 43] = List.replicate (4 - (hexD 8 n).length) 48 ++ hexU n := rfl
theorem trim_len (l : List UInt8) : (Lib.trimPrefix l [85, 43]).length ≤ l.length := by
  unfold Lib.trimPrefix
  split
  · rw [List.length_drop]; omega
  · exact Nat.le_refl _
set_option maxHeartbeats 8000000 in
set_option maxRecDepth 100000 in
theorem byname_any (s : ByteArray) (hl : s.size ≤ 1000000) (w : World) (hG : HOK w) : Calls Tryz.prog 52 #[.string s] w (BeP (.tuple #[.int .i32 (bynP s).1, .int .i64 (bynP s).2]) w) := by
  have CP := Lib.hid (fun W => Tryz.strings_CutPrefix s ⟨#[85, 43]⟩ W)
  obtain ⟨x, hx⟩ : ∃ x : ByteArray, x = ⟨(Lib.trimPrefix s.data.toList [85, 43]).toArray⟩ := ⟨_, rfl⟩
  have hxl : x.data.toList = Lib.trimPrefix s.data.toList [85, 43] := by rw [hx]
  have CP := Lib.hid (show ∀ W, Calls Tryz.prog 67 #[.string s, .string ⟨#[85, 43]⟩] W fun e w' => e = .returned (.tuple #[.string x, .bool (Lib.hasPrefix s.data.toList [85, 43])]) ∧ w' = W from fun W => by rw [hx]; exact CP.out W)
  have PI := Lib.hid (fun W (hW : Below w.heap.size w W) => pint_any x (by rw [hx]; show (Lib.trimPrefix s.data.toList [85, 43]).toArray.size ≤ _; rw [List.size_toArray]; have := trim_len s.data.toList; rw [Array.length_toList] at this; exact Nat.le_trans this hl) W (hG.below hW))
  have NM := Lib.hid (fun r W (hW : Below w.heap.size w W) => name_any r W (hG.below hW))
  by_cases h : ∃ r : Nat, okRune (r : Int) ∧ nameP r = s
  · obtain ⟨r, hr, rfl⟩ := h
    have E := Lib.hid (byn_yes hr)
    have NP := Lib.hid (show namP (r : Int) = (nameP r, 0) from by unfold namP; rw [if_pos hr, Int.toNat_natCast])
    have hr1 := hr.2.1
    have hxv : x.data.toList = List.replicate (4 - (hexD 8 r).length) 48 ++ hexU r := by rw [hxl]; exact trim_name r
    have HX := Lib.hid (show x.data.toList ≠ [] ∧ HexOk x.data.toList ∧ hexV x.data.toList = r by
      have hv := hexV_pad (4 - (hexD 8 r).length) r (by omega)
      rw [hxv]
      refine ⟨fun q => ?_, ⟨all_pad _ r, by rw [hv]; omega⟩, hv⟩
      have : (List.replicate (4 - (hexD 8 r).length) 48 ++ hexU r).length = 0 := by rw [q]; rfl
      have hl6 := (nameL_len (n := r) (by omega)).2
      have : (nameL r).length = 2 + (List.replicate (4 - (hexD 8 r).length) 48 ++ hexU r).length := by unfold nameL; rw [List.length_append]; rfl
      omega)
    have hr0 : (0 : Int) ≤ (r : Int) := by omega
    have hr3 : (r : Int) ≤ 2147483647 := by omega
    have hee : decide ((nameP r).toList = (nameP r).toList) = true := decide_eq_true rfl
    clear hG hl hx hxl hxv hr hr1
    go_enter Tryz.func52, Tryz.ntmps52
    go_wp2_with (go_at_call 67; refine (CP.out _).mono ?_; rintro en w1 ⟨rfl, rfl⟩)
    refine (PI.out _ (Below.refl _ _)).mono ?_
    rintro en w2 ⟨n, ev, rfl, n0, n1, he, hh, hb⟩
    obtain ⟨rfl, rfl⟩ := hh HX.out.1 HX.out.2.1
    rw [HX.out.2.2] at n0 n1 ⊢
    have KB := Lib.hid hb
    clear hb hh he n0 n1
    go_wp2_with (go_at_call 40; refine (NM.out _ _ KB.out).mono ?_; rw [NP.out]; rintro en w3 ⟨rfl, hb⟩; have KB := Lib.hid (below_step KB.out hb); clear hb)
    go_ret2
    rw [E.out]
    exact ⟨rfl, KB.out⟩
  · have h : ∀ r : Nat, okRune (r : Int) → nameP r ≠ s := fun r h1 h2 => h ⟨r, h1, h2⟩
    have E := Lib.hid (byn_no h)
    have HS := Lib.hid h
    clear hG hl hx hxl h
    go_enter Tryz.func52, Tryz.ntmps52
    go_wp2_with (go_at_call 67; refine (CP.out _).mono ?_; rintro en w1 ⟨rfl, rfl⟩)
    refine (PI.out _ (Below.refl _ _)).mono ?_
    rintro en w2 ⟨n, ev, rfl, n0, n1, he, hh, hb⟩
    have KB := Lib.hid hb
    clear hb hh
    rcases he with rfl | ⟨te, pe, rfl⟩
    · by_cases hr : okRune n
      · have NP := Lib.hid (show namP n = (nameP n.toNat, 0) from if_pos hr)
        have NE := HS.out n.toNat (by have := hr.1; rwa [Int.toNat_of_nonneg (by omega)])
        generalize nameP n.toNat = z at *
        have hd : decide (z.toList = s.toList) = false := decide_eq_false (fun q => NE (ByteArray.ext (Array.toList_inj.1 (by rw [← Lib.toList_data, ← Lib.toList_data]; exact q))))
        have hd2 : (!z.toList == s.toList) = true := by simpa using hd
        clear hr NE HS
        go_wp2_with (go_at_call 40; refine (NM.out _ _ KB.out).mono ?_; rw [NP.out]; rintro en w3 ⟨rfl, hb⟩; have KB := Lib.hid (below_step KB.out hb); clear hb)
        go_ret2
        rw [E.out]
        exact ⟨rfl, KB.out⟩
      · have NP := Lib.hid (show namP n = (⟨#[]⟩, 13) from if_neg hr)
        clear hr HS
        go_wp2_with (go_at_call 40; refine (NM.out _ _ KB.out).mono ?_; rw [NP.out]; rintro en w3 ⟨rfl, hb⟩; have KB := Lib.hid (below_step KB.out hb); clear hb)
        go_ret2
        rw [E.out]
        exact ⟨rfl, KB.out⟩
    · have NM2 := Lib.hid (NM.out n)
      generalize namP n = q at NM2
      clear HS
      go_wp2_with (go_at_call 40; refine (NM2.out _ KB.out).mono ?_; rintro en w3 ⟨rfl, hb⟩; have KB := Lib.hid (below_step KB.out hb); clear hb)
      go_ret2
      rw [E.out]
      exact ⟨rfl, KB.out⟩
end Go.Proofs.YtamggklblaigpaaGreatDoor.Hx
