/- Two lists of dots are compared: the contract of the reference's Same. -/
import Derived.Test.YthbngkaajhbdjaaAlb
import Derived.Test.YthbngkaajhbdjaaWEqStruct
namespace Go.Proofs.Ythbngkaajhbdjaa.Al
open Go.RowKit Go.Proofs Go.Proofs.YthbngkaajhbdjaaW.PrintWords Go.Proofs.Ythbngkaajhbdjaa.Kit

def D0 : Int × Int := (0, 0)
/-- One dot of a list that is read. -/
theorem at_dot {w : World} {A : Option Addr} {n : Nat} {xs : List (Int × Int)} (h : d32.C w A n xs) (i : Int) (h0 : 0 ≤ i) (h1 : i < n) :
    ∃ ad, A = some ad ∧ w.cell? (ad.add (i.toNat * 2)) = some (.int .i64 (xs.getD i.toNat D0).1) ∧ w.cell? ⟨(ad.add (i.toNat * 2)).block, (ad.add (i.toNat * 2)).off + 1, none⟩ = some (.int .i64 (xs.getD i.toNat D0).2) := by
  obtain ⟨ad, c, e, hl, hK, hc⟩ := Kd.C_get h D0 i h0 h1
  obtain ⟨c0, c1, rfl, g0, g1⟩ := hK
  have g0' : c0 = [.int .i64 (xs.getD i.toNat D0).1] := g0
  have g1' : c1 = [.int .i64 (xs.getD i.toNat D0).2] := g1
  subst g0'
  subst g1'
  have q0 := hc 0 _ rfl
  have q1 := hc 1 _ rfl
  refine ⟨ad, e, q0, ?_⟩
  rw [show d32.sz = 2 from rfl] at q1
  rw [← add_field _ _ 1 (by omega)]
  exact q1

theorem eqDot (d : Nat) (w : World) (x0 y0 : Int) (x1 y1 : Int) :
    (Op.equalIn (d + 2) 32 (.agg #[.int .i64 x0, .int .i64 x1]) (.agg #[.int .i64 y0, .int .i64 y1])).run Try.prog w = .ok (x0 == y0 && (x1 == y1)) w := by
  refine eqA_of Try.underlying32 (by kernel_rfl) ?_
  refine eqf_cons (by rfl) (by go_simp; rfl) (by go_simp; rfl) (by go_simp) ?_
  exact eqf_last (by rfl) (by go_simp; rfl) (by go_simp; rfl) (by go_simp)

attribute [local go_sem high] eqDot
set_option maxHeartbeats 1000000 in
theorem same_any (A B : Option Addr) (ca cb : Nat) (xs ys : List (Int × Int)) (w : World) (hx : d32.C w A xs.length xs) (hy : d32.C w B ys.length ys) :
    Calls Try.prog 32 #[.slice A xs.length ca, .slice B ys.length cb] w fun en w' => en = .returned (.bool (decide (xs = ys))) ∧ Below w.heap.size w w' := by
  have lx : xs.length ≤ 9223372036854775807 := hx.2.1
  have HX := Lib.hid hx
  have HY := Lib.hid hy
  clear hx hy
  by_cases hl : xs.length = ys.length
  · have hl1 : (xs.length == ys.length) = true := beq_iff_eq.2 hl
    have HL := Lib.hid hl
    clear hl
    go_enter Try.func32, Try.ntmps32
    go_wp2
    go_loopw [5] (fun i wr => ∃ k : Nat, k ≤ xs.length ∧ i = .int .i64 k ∧ (∀ j, j < k → xs.getD j D0 = ys.getD j D0) ∧ ∃ n, wr = w.drewN n) (fun i _ => (xs.length : Int).toNat - (intOf i).toNat)
    case atStart => exact ⟨0, by omega, rfl, fun j hj => by omega, 0, rfl⟩
    case round =>
      obtain ⟨k, hk, rfl, hsame, nq, rfl⟩ := hrel
      have HS := Lib.hid hsame
      clear hsame
      by_cases hlt : k < xs.length
      · obtain ⟨ad, eA, q0, q1⟩ := at_dot HX.out (k : Int) (by omega) (by omega)
        obtain ⟨bd, eB, p0, p1⟩ := at_dot HY.out (k : Int) (by omega) (by rw [← HL.out]; omega)
        subst eA
        subst eB
        rw [Int.toNat_natCast] at q0 q1 p0 p1
        have hky : (k : Int) < ys.length := by rw [← HL.out]; omega
        have hkx : (k : Int) < xs.length := by omega
        generalize hxk : xs.getD k D0 = x at *
        generalize hyk : ys.getD k D0 = y at *
        have HXK := Lib.hid hxk
        have HYK := Lib.hid hyk
        clear hxk hyk
        go_wp2
        go_quiet (fail)
        go_wp2
        · go_ret
          have hne : ¬ x = y := by
            intro e
            have h1 : (!x.1 == y.1) = true ∨ (!x.2 == y.2) = true := by assumption
            subst e
            simp at h1
          have e2 : decide (xs = ys) = false := decide_eq_false (fun e => hne (by rw [← HXK.out, ← HYK.out, e]))
          exact ⟨by rw [e2]; rfl, pw_below_drewN (pw_below_drewN (Below.refl _ _) _) _⟩
        · go_roundw
          case rel =>
            have h1 : (!x.1 == y.1) = false ∧ (!x.2 == y.2) = false := by assumption
            have hxy : x = y := by
              obtain ⟨h1, h2⟩ := h1
              exact Prod.ext (by simpa using h1) (by simpa using h2)
            refine ⟨k + 1, by omega, by go_num, fun j hj => ?_, _, rfl⟩
            rcases Nat.lt_or_ge j k with h | h
            · exact HS.out j h
            · obtain rfl : j = k := by omega
              rw [HXK.out, HYK.out, hxy]
          case measure => simp [intOf]; omega
      · go_wp2
        go_ret
        have e1 : k = xs.length := by omega
        refine ⟨?_, pw_below_drewN (Below.refl _ _) _⟩
        have e2 : xs = ys := by
          refine List.ext_getElem HL.out fun j h1 h2 => ?_
          have h3 := HS.out j (by omega)
          rw [List.getD_eq_getElem?_getD, List.getD_eq_getElem?_getD, List.getElem?_eq_getElem h1, List.getElem?_eq_getElem h2] at h3
          exact h3
        rw [decide_eq_true e2]
        rfl
  · have hl1 : (xs.length == ys.length) = false := beq_eq_false_iff_ne.2 hl
    have fin : decide (xs = ys) = false := decide_eq_false (fun e => hl (by rw [e]))
    have FIN := Lib.hid fin
    clear fin hl
    go_enter Try.func32, Try.ntmps32
    go_wp2
    go_ret
    exact ⟨by rw [FIN.out]; rfl, Below.refl _ _⟩
end Go.Proofs.Ythbngkaajhbdjaa.Al
