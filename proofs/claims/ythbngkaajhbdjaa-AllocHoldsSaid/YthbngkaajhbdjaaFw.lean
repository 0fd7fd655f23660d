/- few answers, whatever the calls; it changes nothing. -/
import Derived.Test.YthbngkaajhbdjaaRf
namespace Go.Proofs.Ythbngkaajhbdjaa.Al
open Go.RowKit Go.Proofs Go.Proofs.YthbngkaajhbdjaaW.PrintWords Go.Proofs.Ythbngkaajhbdjaa.Kit
set_option linter.unusedSimpArgs false
set_option linter.unusedVariables false

def FewP (w : World) (en : Ending) (w' : World) : Prop := ∃ q, en = .returned (.bool q) ∧ w = w'
set_option maxHeartbeats 1000000 in
theorem few_any (A : Option Addr) (c : Nat) (xs : List (Int × Int)) (w : World) (hx : d32.C w A xs.length xs) :
    Calls Try.prog 17 #[.slice A xs.length c] w (FewP w) := by
  have lx : xs.length ≤ 9223372036854775807 := hx.2.1
  have HX := Lib.hid hx
  have fin : ∀ q, FewP w (.returned (.bool q)) w := fun q => ⟨q, rfl, rfl⟩
  have FIN := Lib.hid fin
  clear hx fin
  go_enter Try.func17, Try.ntmps17
  go_wp2
  go_loop [3] (fun i => ∃ k : Nat, k ≤ xs.length ∧ i = .int .i64 k) (fun i => (xs.length : Int).toNat - (intOf i).toNat)
  case atStart => exact ⟨0, by omega, rfl⟩
  case round =>
    obtain ⟨k, hk, rfl⟩ := hrel
    by_cases hlt : k < xs.length
    · obtain ⟨ad, eA, q0, q1⟩ := at_dot HX.out (k : Int) (by omega) (by omega)
      subst eA
      rw [Int.toNat_natCast] at q0 q1
      generalize (xs.getD k D0).1 = a at *
      generalize (xs.getD k D0).2 = b at *
      by_cases h61 : (k : Int) < 61
      · go_wp2
        all_goals first
        | (go_ret
           exact FIN.out _)
        | (go_round
           case rel => exact ⟨k + 1, by omega, by go_num⟩
           case measure => simp [intOf]; omega)
      · go_wp2
        go_ret
        exact FIN.out _
    · go_wp2
      go_ret
      exact FIN.out _
end Go.Proofs.Ythbngkaajhbdjaa.Al
