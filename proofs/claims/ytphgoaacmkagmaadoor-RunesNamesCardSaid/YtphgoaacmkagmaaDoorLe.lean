/- Runes of strings, plain law: what the characters of a string are, and its error. -/
import Derived.Lib.ValidLaws
import Derived.Lib.RuneBytes
import Derived.Lib.DecodeNEq
import GoSem.Core.Utf8
import Derived.Laws.BytesArg
import Derived.Laws.Cover4
namespace Go.Proofs.YtphgoaacmkagmaaDoor.Rn
open Go Go.Proofs Go.RowKit

/-- The characters of a string from a place on, by at most so many. -/
def runesFrom (s : ByteArray) : Nat → Nat → List Int
  | 0, _ => []
  | fuel + 1, pos => if pos < s.size then ((Utf8.decode s pos).1 : Int) :: runesFrom s fuel (pos + (Utf8.decode s pos).2) else []
def runesOf (s : ByteArray) : List Int := runesFrom s s.size 0
/-- What Decode returns: the characters, or an error. -/
def decP (s : ByteArray) : List Int × Int := if Lib.validD s.data.toList = true then (if (0 : Int) ∈ runesOf s then ([], 13) else (runesOf s, 0)) else ([], 12)
/-- A rune that may be in a text. -/
def okRune (r : Int) : Prop := 1 ≤ r ∧ r ≤ 1114111 ∧ (r < 55296 ∨ 57343 < r)
instance (r : Int) : Decidable (okRune r) := by unfold okRune; infer_instance
def utf8 (rs : List Int) : List Int := rs.flatMap Lib.encodeRuneZ
/-- What Encode returns: the string, or an error. -/
def encP (l : List Int) : ByteArray × Int := if ∀ r ∈ l, okRune r then (strOfNums (utf8 l), 0) else (⟨#[]⟩, 13)
theorem str_app (a b : List Int) : strOfNums (a ++ b) = strOfNums a ++ strOfNums b := by
  apply ByteArray.ext
  simp [strOfNums, ByteArray.data_append]
theorem enc_str (r : Int) (h : okRune r) : Utf8.encode r = strOfNums (Lib.encodeRuneZ r) := by
  obtain ⟨h1, h2, h3⟩ := h
  obtain ⟨n, rfl⟩ : ∃ n : Nat, r = n := ⟨r.toNat, by omega⟩
  have hv : Utf8.valid (n : Int) = true := by unfold Utf8.valid; simp; omega
  unfold Utf8.encode
  rw [hv]
  simp only [if_true, Int.toNat_natCast]
  by_cases q1 : n < 128
  · rw [if_pos q1, Lib.encodeRuneZ_one (by omega) (by omega)]
    simp [strOfNums]
  · rw [if_neg q1]
    by_cases q2 : n < 2048
    · rw [if_pos q2, Lib.encodeRuneZ_two (by omega) (by omega)]
      have e1 : (192 + (n : Int) / 64).toNat = 192 + n / 64 := by omega
      have e2 : (128 + (n : Int) % 64).toNat = 128 + n % 64 := by omega
      simp [strOfNums, e1, e2]
    · rw [if_neg q2]
      by_cases q3 : n < 65536
      · rw [if_pos q3, Lib.encodeRuneZ_three (by omega)]
        have e1 : (224 + (n : Int) / 4096).toNat = 224 + n / 4096 := by omega
        have e2 : (128 + (n : Int) / 64 % 64).toNat = 128 + n / 64 % 64 := by omega
        have e3 : (128 + (n : Int) % 64).toNat = 128 + n % 64 := by omega
        simp [strOfNums, e1, e2, e3]
      · rw [if_neg q3, Lib.encodeRuneZ_four (by omega) (by omega)]
        have e0 : (240 + (n : Int) / 262144).toNat = 240 + n / 262144 := by omega
        have e1 : (128 + (n : Int) / 4096 % 64).toNat = 128 + n / 4096 % 64 := by omega
        have e2 : (128 + (n : Int) / 64 % 64).toNat = 128 + n / 64 % 64 := by omega
        have e3 : (128 + (n : Int) % 64).toNat = 128 + n % 64 := by omega
        simp [strOfNums, e0, e1, e2, e3]
theorem fold_str : ∀ (rs : List Int) (s : ByteArray), (∀ r ∈ rs, okRune r) → rs.foldl (fun r n => r ++ Utf8.encode n) s = s ++ strOfNums (utf8 rs)
  | [], s, _ => by
    apply ByteArray.ext
    simp [strOfNums, utf8, ByteArray.data_append]
  | r :: rs, s, h => by
    show rs.foldl _ (s ++ Utf8.encode r) = _
    rw [fold_str rs _ (fun x hx => h x (List.mem_cons_of_mem _ hx)), enc_str r (h r List.mem_cons_self)]
    show _ = s ++ strOfNums (Lib.encodeRuneZ r ++ utf8 rs)
    rw [str_app, ByteArray.append_assoc]
theorem runes_str (rs : List Int) (h : ∀ r ∈ rs, okRune r) : runesBytes rs = strOfNums (utf8 rs) := by
  unfold runesBytes
  rw [fold_str rs _ h]
  apply ByteArray.ext
  simp [ByteArray.data_append]
end Go.Proofs.YtphgoaacmkagmaaDoor.Rn
