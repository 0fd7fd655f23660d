/- The printed contracts of layer 1's functions on numbers, told by the plain law: number, Size, Zig, Zag and the reference's. -/
import Derived.Test.YtfcpofkhcfilmaaVe
import Derived.Test.YtfcpofkhcfilmaaFr
import Derived.Test.YtfcpofkhcfilmaaPVarintWritesx1
import Derived.Test.YtfcpofkhcfilmaaVr
namespace Go.Proofs.Ytfcpofkhcfilmaa.Vn
open Go.RowKit Go.Proofs Go.Proofs.YtfcpofkhcfilmaaW.PrintWords Go.Proofs.Ytfcpofkhcfilmaa.Kit
set_option linter.unusedSimpArgs false
set_option linter.unusedVariables false

abbrev k8 : Kd Int := Kd.int .u8
/-- A row of bytes that was made since w. -/
def MadeP (xs : List Int) (w : World) (en : Ending) (w' : World) : Prop :=
  ∃ v, en = .returned v ∧ k8.R 5 w' w.heap.size (fun j => w.heap.size ≤ j) v xs ∧ Below w.heap.size w w'
theorem or128 (x : Int) (h0 : 0 ≤ x) (h1 : x < 256) : Go.bits .or .u8 x 128 = x % 128 + 128 := by
  obtain ⟨n, rfl⟩ : ∃ n : Nat, x = n := ⟨x.toNat, by omega⟩
  have : ∀ n : Fin 256, Go.bits .or .u8 (n.1 : Int) 128 = (n.1 : Int) % 128 + 128 := by decide +kernel
  exact this ⟨n, by omega⟩
open PVarintWrites in
theorem number_l0 : ∀ (j n : Nat) (pre : List Int), n < 128 ^ (j + 1) → pre.length + j < 100000 → varint_number.l0 (j + 1) n pre = some (pre ++ enc n)
  | j, n, pre, h, hl => by
    unfold varint_number.l0
    have h3 : pre.length < 140737488355328 := by omega
    by_cases q : n < 128
    · rw [if_neg (by omega), if_pos h3, enc_lt q, show ((n : Int) % 256) = n by omega]
    · rw [if_pos (by omega), if_pos h3]
      cases j with
      | zero => exact absurd h (by simpa using q)
      | succ j =>
        have e1 : (n : Int) / 128 = ((n / 128 : Nat) : Int) := by omega
        rw [e1, number_l0 j (n / 128) _ (by rw [Nat.pow_succ] at h; omega) (by simp; omega), enc_ge q, or128 _ (by omega) (by omega), show ((n : Int) % 256 % 128 + 128) = ((n % 128 : Nat) : Int) + 128 by omega]
        simp
theorem number_any (n : Nat) (hn : n < 18446744073709551616) (w : World) : Calls Try.prog 39 #[.int .u64 n] w (MadeP (enc n) w) := by
  refine (PVarintWrites.varint_number.calls 10 n (enc n) w ?_).mono ?_
  · unfold PVarintWrites.varint_number.f
    rw [number_l0 9 n [] (by omega) (by simp)]
    rfl
  · rintro en w' ⟨v, rfl, hr, hb⟩
    exact ⟨v, rfl, Kd.R_mono (made_ge hr) (fun _ q => q.2), hb⟩
open PVarintWrites in
theorem rnumber_f : ∀ (j n : Nat), n < 128 ^ (j + 1) → n < 18446744073709551616 → j < 1000 → redpencilref01_Number.f (j + 1) n = some (enc n)
  | j, n, h, h6, hj => by
    unfold redpencilref01_Number.f
    by_cases q : n < 128
    · rw [if_pos (by omega), enc_lt q, show ((n : Int) % 256) = n by omega]
    · rw [if_neg (by omega)]
      cases j with
      | zero => exact absurd h (by simpa using q)
      | succ j =>
        have e1 : IntKind.u64.wrap (Int.tdiv (n : Int) 128) = ((n / 128 : Nat) : Int) := by
          rw [Int.tdiv_eq_ediv_of_nonneg (by omega)]
          have : IntKind.u64.wrap ((n : Int) / 128) = ((n : Int) / 128) % 18446744073709551616 := by simp [IntKind.wrap, IntKind.bits, IntKind.signed]
          rw [this]; omega
        have hl := enc_length (j + 1) n h
        rw [enc_ge q] at hl
        simp only [Option.bind_some]
        rw [e1, rnumber_f j (n / 128) (by rw [Nat.pow_succ] at h; omega) (by omega) (by omega), enc_ge q]
        simp only [Option.bind_some]
        rw [if_pos (by simp at hl ⊢; omega), show (((Int.tmod (n : Int) 128) % 256) + 128) % 256 = ((n % 128 : Nat) : Int) + 128 by rw [Int.tmod_eq_emod_of_nonneg (by omega)]; omega]
        rfl
theorem rnumber_any (n : Nat) (hn : n < 18446744073709551616) (w : World) : Calls Try.prog 9 #[.int .u64 n] w (MadeP (enc n) w) := by
  refine (PVarintWrites.redpencilref01_Number.calls 10 n (enc n) w (rnumber_f 9 n (by omega) hn (by omega))).mono ?_
  rintro en w' ⟨v, rfl, hr, hb⟩
  exact ⟨v, rfl, Kd.R_mono (made_ge hr) (fun _ q => q.2), hb⟩
theorem rwith_any (A : Option Addr) (c : Nat) (xs : List Int) (w : World) (hx : k8.C w A xs.length xs) (hc : xs.length ≤ c) (hl : xs.length ≤ 100000000) : Calls Try.prog 44 #[.slice A xs.length c] w (MadeP (enc xs.length ++ xs) w) := by
  refine (PVarintWrites.redpencilref01_With.calls 10 A c xs (enc xs.length ++ xs) w hx hc ?_).mono ?_
  · unfold PVarintWrites.redpencilref01_With.f
    have e1 : IntKind.u64.wrap (xs.length : Int) = (xs.length : Int) := by
      have : IntKind.u64.wrap (xs.length : Int) = (xs.length : Int) % 18446744073709551616 := by simp [IntKind.wrap, IntKind.bits, IntKind.signed]
      rw [this]; omega
    rw [e1, rnumber_f 9 xs.length (by omega) (by omega) (by omega)]
    simp only [Option.bind_some]
    have := enc_length64 (n := xs.length) (by omega)
    rw [if_pos (by omega)]
  · rintro en w' ⟨v, rfl, hr, hb⟩
    exact ⟨v, rfl, Kd.R_mono (made_ge hr) (fun _ q => q.2), hb⟩

def zig (n : Int) : Int := if n < 0 then -2 * n - 1 else 2 * n
def zag (n : Int) : Int := if n % 2 = 1 then -(n / 2) - 1 else n / 2
theorem zag_zig (n : Int) : zag (zig n) = n := by unfold zag zig; split <;> split <;> omega
theorem zig_zag (n : Int) (h : 0 ≤ n) : zig (zag n) = n := by unfold zag zig; split <;> split <;> omega
theorem zig_in {n : Int} (h0 : -9223372036854775808 ≤ n) (h1 : n ≤ 9223372036854775807) : 0 ≤ zig n ∧ zig n ≤ 18446744073709551615 := by unfold zig; split <;> omega
theorem zag_in {n : Int} (h0 : 0 ≤ n) (h1 : n ≤ 18446744073709551615) : -9223372036854775808 ≤ zag n ∧ zag n ≤ 9223372036854775807 := by unfold zag; split <;> omega
theorem wrapu (n : Int) : IntKind.u64.wrap n = n % 18446744073709551616 := by simp [IntKind.wrap, IntKind.bits, IntKind.signed]
theorem or1 (n : Int) (h0 : 0 ≤ n) (h1 : n ≤ 18446744073709551614) (h2 : n % 2 = 0) : Go.bits .or .u64 n 1 = n + 1 :=
  bits_join .u64 64 (by decide) (fun n h1 h2 => by rw [wrapu]; omega) 1 n 1 h0 (by omega) (by omega) (by decide) (by decide) (by decide)
theorem and1 (n : Int) (h0 : 0 ≤ n) (h1 : n ≤ 18446744073709551615) : Go.bits .and .u64 n 1 = n % 2 :=
  bits_mask .u64 64 (by decide) (fun n h1 h2 => by rw [wrapu]; omega) 1 (by decide) n h0 (by omega)
/-- A quiet function of numbers. -/
def NumP (v : Value) (w : World) (en : Ending) (w' : World) : Prop := en = .returned v ∧ ∃ n, w' = w.drewN n
theorem zig_any (n : Int) (w : World) (h0 : -9223372036854775808 ≤ n) (h1 : n ≤ 9223372036854775807) : Calls Try.prog 14 #[.int .i64 n] w (NumP (.int .u64 (zig n)) w) := by
  refine (PVarintWrites.varint_Zig.calls n (zig n) w ?_).mono ?_
  · unfold PVarintWrites.varint_Zig.f zig
    split
    · rw [wrapu, wrapu, or1]
      all_goals simp only [wrap64]
      all_goals (try congr 1)
      all_goals omega
    · rw [wrapu, wrapu]; congr 1; omega
  · rintro en w' ⟨rfl, hd⟩
    exact ⟨rfl, hd.out⟩
theorem zag_any (n : Int) (w : World) (h0 : 0 ≤ n) (h1 : n ≤ 18446744073709551615) : Calls Try.prog 12 #[.int .u64 n] w (NumP (.int .i64 (zag n)) w) := by
  refine (PVarintWrites.varint_Zag.calls n (zag n) w ?_).mono ?_
  · unfold PVarintWrites.varint_Zag.f zag
    rw [and1 n h0 h1]
    split <;> simp only [wrap64] <;> congr 1 <;> omega
  · rintro en w' ⟨rfl, hd⟩
    exact ⟨rfl, hd.out⟩
theorem rzig_any (n : Int) (w : World) (h0 : -9223372036854775808 ≤ n) (h1 : n ≤ 9223372036854775807) : Calls Try.prog 23 #[.int .i64 n] w (NumP (.int .u64 (zig n)) w) := by
  refine (PVarintWrites.redpencilref01_Zig.calls n (zig n) w ?_).mono ?_
  · unfold PVarintWrites.redpencilref01_Zig.f zig
    by_cases q : n < 0
    · rw [if_neg (by omega), if_pos q]; simp only [wrapu, wrap64]; congr 1; omega
    · rw [if_pos (by omega), if_neg q]; simp only [wrapu]; congr 1; omega
  · rintro en w' ⟨rfl, hd⟩
    exact ⟨rfl, hd.out⟩
theorem rzag_any (n : Int) (w : World) (h0 : 0 ≤ n) (h1 : n ≤ 18446744073709551615) : Calls Try.prog 13 #[.int .u64 n] w (NumP (.int .i64 (zag n)) w) := by
  refine (PVr.redpencilref01_Zag.calls n (zag n) w ?_).mono ?_
  · unfold PVr.redpencilref01_Zag.f zag
    rw [Int.tmod_eq_emod_of_nonneg h0, Int.tdiv_eq_ediv_of_nonneg h0]
    by_cases q : n % 2 = 0
    · rw [if_pos q, if_neg (by omega)]; simp only [wrapu, wrap64]; congr 1; omega
    · rw [if_neg q, if_pos (by omega)]; simp only [wrapu, wrap64]; congr 1; omega
  · rintro en w' ⟨rfl, hd⟩
    exact ⟨rfl, hd.out⟩
end Go.Proofs.Ytfcpofkhcfilmaa.Vn
