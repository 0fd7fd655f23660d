/- Two lists of dots are compared: the contract of the reference's Same. -/
import Derived.Test.YtnkblfokfmbbhaaAlb
import Derived.Test.YtnkblfokfmbbhaaWEqStruct
namespace Go.Proofs.Ytnkblfokfmbbhaa.Al
open Go.RowKit Go.Proofs Go.Proofs.YtnkblfokfmbbhaaW.PrintWords Go.Proofs.Ytnkblfokfmbbhaa.Kit

def D0 : Int × Int := (0, 0)
/-- One dot of a list that is read. -/
theorem at_dot {w : World} {A : Option Addr} {n : Nat} {xs : List (Int × Int)} (h : d32.C w A n xs) (i : Int) (h0 : 0 ≤ i) (h1 : i < n) :
    ∃ ad, A = some ad ∧ w.cell? (ad.add (i.toNat * 2)) = some (.int .i64 (xs.getD i.toNat D0).1) ∧ w.cell? ⟨(ad.add (i.toNat * 2)).block, (ad.add (i.toNat * 2)).off + 1, none⟩ = some (.int .i64 (xs.getD i.toNat D0).2) := by
  obtain ⟨ad, c, e, hl, hK, hc⟩ := Kd.C_get h D0 i h0 h1
  obtain ⟨c0, c1, rfl, g0, g1⟩ := hK
  have g0' : c0 = [.int .i64 (xs.getD i.toNat D0).1] := g0
  have g1' : c1 = [.int .i64 (xs.getD i.toNat D0).2] := g1
  subst g0'
  subst g1'
  have q0 := hc 0 _ rfl
  have q1 := hc 1 _ rfl
  refine ⟨ad, e, q0, ?_⟩
  rw [show d32.sz = 2 from rfl] at q1
  rw [← add_field _ _ 1 (by omega)]
  exact q1

theorem eqDot (d : Nat) (w : World) (x0 y0 : Int) (x1 y1 : Int) :
    (Op.equalIn (d + 2) 34 (.agg #[.int .i64 x0, .int .i64 x1]) (.agg #[.int .i64 y0, .int .i64 y1])).run Try.prog w = .ok (x0 == y0 && (x1 == y1)) w := by
  refine eqA_of Try.underlying34 (by kernel_rfl) ?_
  refine eqf_cons (by rfl) (by go_simp; rfl) (by go_simp; rfl) (by go_simp) ?_
  exact eqf_last (by rfl) (by go_simp; rfl) (by go_simp; rfl) (by go_simp)

end Go.Proofs.Ytnkblfokfmbbhaa.Al
