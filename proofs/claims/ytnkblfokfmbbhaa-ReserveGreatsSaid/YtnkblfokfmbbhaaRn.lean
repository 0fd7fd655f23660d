/- The helpers of layer 22's laws: nexts, needs, fails and alike answer true where what is asked is what the counters give. -/
import Derived.Test.YtnkblfokfmbbhaaSm
import Derived.Test.YtnkblfokfmbbhaaRz
import Derived.Test.YtnkblfokfmbbhaaRq
namespace Go.Proofs.Ytnkblfokfmbbhaa.Al
open Go.RowKit Go.Proofs Go.Proofs.YtnkblfokfmbbhaaW.PrintWords Go.Proofs.Ytnkblfokfmbbhaa.Kit
set_option linter.unusedSimpArgs false
set_option linter.unusedVariables false
attribute [local go_sem high] eqDot

theorem C_nil (w : World) : d32.C w none 0 [] := ⟨rfl, by omega, fun h => by omega⟩
def TrueP (w : World) (en : Ending) (w' : World) : Prop := en = .returned (.bool true) ∧ Below w.heap.size w w'

/-- What Next's caller needs of it: a list that reads as xs, and an error. -/
def NxP (n no : Int) (p : Value) (xs : List (Int × Int)) (w : World) : Prop :=
  Calls Try.prog 11 #[p, .int .i64 n] w fun en w' => ∃ A c, en = .returned (.tuple #[.slice A xs.length c, .int .i64 no]) ∧ d32.C w' A xs.length xs ∧ Below w.heap.size w w'
set_option maxHeartbeats 1000000 in
theorem nexts_a (n no : Int) (p : Value) (A : Option Addr) (ca : Nat) (xs : List (Int × Int)) (w : World) (h : NxP n no p xs w) (hx : d32.C w A xs.length xs) :
    Calls Try.prog 21 #[p, .int .i64 n, .slice A xs.length ca, .int .i64 no] w (TrueP w) := by
  have lx : xs.length ≤ 9223372036854775807 := hx.2.1
  have HX := Lib.hid hx
  have HN := Lib.hid h
  have hl1 : (xs.length != xs.length) = false := bne_self_eq_false _
  have hn1 : (no != no) = false := bne_self_eq_false _
  clear hx h
  go_enter Try.func21, Try.ntmps21
  go_wp2_with (go_at_call 11; refine HN.out.mono ?_; rintro en w1 ⟨A', c', rfl, HC, hb1⟩; have HY := Lib.hid HC; have HX := Lib.hid (Kd.C_below HX.out hb1); have B1 := Lib.hid hb1; clear HC hb1)
  go_loopw [11] (fun i wr => ∃ k : Nat, k ≤ xs.length ∧ i = .int .i64 k ∧ ∃ n, wr = w1.drewN n) (fun i _ => (xs.length : Int).toNat - (intOf i).toNat)
  case atStart => exact ⟨0, by omega, rfl, 0, rfl⟩
  case round =>
    obtain ⟨k, hk, rfl, nq, rfl⟩ := hrel
    by_cases hlt : k < xs.length
    · obtain ⟨ad, eA, q0, q1⟩ := at_dot HX.out (k : Int) (by omega) (by omega)
      obtain ⟨bd, eB, p0, p1⟩ := at_dot HY.out (k : Int) (by omega) (by omega)
      subst eA
      subst eB
      rw [Int.toNat_natCast] at q0 q1 p0 p1
      have hkx : (k : Int) < xs.length := by omega
      generalize xs.getD k D0 = x at *
      have e1 : (x.1 == x.1) = true := beq_self_eq_true _
      have e2 : (x.2 == x.2) = true := beq_self_eq_true _
      go_wp2
      go_quiet (fail)
      go_wp2
      go_roundw
      case rel => exact ⟨k + 1, by omega, by go_num, _, rfl⟩
      case measure => simp [intOf]; omega
    · go_wp2
      go_ret
      exact ⟨rfl, pw_below_drewN B1.out _⟩

theorem nexts_ok (g b : Nat) (r l e s n no : Int) (A : Option Addr) (ca : Nat) (xs : List (Int × Int)) (w : World) (ok : RsOk r l e s) (h : Rs w g b r l e s)
    (h1 : no = nx l e n) (h2 : d32.C w A xs.length xs) (h3 : xs = dots r l (nxN l e n)) :
    Calls Try.prog 21 #[.pointer (some ⟨g, 0, none⟩), .int .i64 n, .slice A xs.length ca, .int .i64 no] w (TrueP w) := by
  refine nexts_a n no _ A ca xs w ?_ h2
  refine (rsnext_any g b r l e s n w ok h).mono ?_
  rintro en w1 ⟨v, rfl, HR, hb1⟩
  rw [← h1]
  rw [← h3] at HR
  obtain ⟨A', c', rfl, _, HC⟩ := Kd.R_reads HR
  exact ⟨A', c', rfl, HC, hb1⟩
theorem nexts_zs (n : Int) (p : Value) (w : World) (h : Zs w p) :
    Calls Try.prog 21 #[p, .int .i64 n, .slice none 0 0, .int .i64 1] w (TrueP w) := by
  refine nexts_a n 1 p none 0 [] w ?_ (C_nil w)
  refine (rsnext_zs p w h n).mono ?_
  rintro en w1 ⟨rfl, rfl⟩
  exact ⟨none, 0, rfl, C_nil _, Below.refl _ _⟩

set_option maxHeartbeats 1000000 in
theorem needs_ok (g b : Nat) (r l e s n k no : Int) (w : World) (ok : RsOk r l e s) (h : Rs w g b r l e s) (h1 : k = needV l e s n) (h2 : no = chk l n) :
    Calls Try.prog 12 #[.pointer (some ⟨g, 0, none⟩), .int .i64 n, .int .i64 k, .int .i64 no] w (TrueP w) := by
  have OK := Lib.hid ok
  have HR := Lib.hid h
  have H1 := Lib.hid h1
  have H2 := Lib.hid h2
  have e1 : (k == k) = true := beq_self_eq_true _
  have e2 : (no == no) = true := beq_self_eq_true _
  clear h ok h1 h2
  go_enter Try.func12, Try.ntmps12
  go_wp2_with (go_at_call 16; refine (need_any g b r l e s n _ OK.out HR.out).mono ?_; rintro en w1 ⟨rfl, hb1⟩; rw [← H1.out, ← H2.out]; have B1 := Lib.hid hb1; clear hb1)
  go_ret
  exact ⟨rfl, B1.out⟩
set_option maxHeartbeats 1000000 in
theorem needs_zs (n : Int) (p : Value) (w : World) (h : Zs w p) :
    Calls Try.prog 12 #[p, .int .i64 n, .int .i64 0, .int .i64 1] w (TrueP w) := by
  have HR := Lib.hid h
  clear h
  go_enter Try.func12, Try.ntmps12
  go_wp2_with (go_at_call 16; refine (need_zs p _ HR.out n).mono ?_; rintro en w1 ⟨rfl, rfl⟩)
  go_ret
  exact ⟨rfl, Below.refl _ _⟩
set_option maxHeartbeats 1000000 in
theorem fails_ok (r l s : Int) (w : World) (h : rvalid r l s = false) : Calls Try.prog 18 #[.int .i64 r, .int .i64 l, .int .i64 s] w (TrueP w) := by
  have HV := Lib.hid h
  clear h
  go_enter Try.func18, Try.ntmps18
  go_wp2_with (go_at_call 9; refine (rsnew_no r l s _ HV.out).mono ?_; rintro en w1 ⟨rfl, hb1⟩; have HB1 := Lib.hid hb1; clear hb1)
  go_ret
  exact ⟨rfl, HB1.out⟩
set_option maxHeartbeats 1000000 in
theorem alike_ok (g b x : Nat) (r l e s : Int) (w : World) (ok : RsOk r l e s) (h : Rs w g b r l e s) (hx : Rr w x r l e s) :
    Calls Try.prog 19 #[.pointer (some ⟨g, 0, none⟩), .pointer (some ⟨x, 0, none⟩)] w (TrueP w) := by
  have OK := Lib.hid ok
  have HR := Lib.hid h
  have c0 := hx.c0
  have c1 := hx.c1
  have c2 := hx.c2
  have e1 : (r == r) = true := beq_self_eq_true _
  have e2 : (l == l) = true := beq_self_eq_true _
  have e3 : (e == e) = true := beq_self_eq_true _
  clear h ok hx
  go_enter Try.func19, Try.ntmps19
  go_wp2
  go_quiet ((first | (go_at_call 26; exact quiet_l (rsreplica_any g b r l e s _ (rs_drewN HR.out _))) | (go_at_call 14; exact quiet_l (used_any g b r l e s _ OK.out.r0 (rs_drewN HR.out _))) | (go_at_call 15; exact quiet_l (reserved_any g b r l e s _ OK.out.r0 (rs_drewN HR.out _)))))
  go_wp2
  go_ret
  exact ⟨rfl, pw_below_drewN (Below.refl _ _) _⟩
end Go.Proofs.Ytnkblfokfmbbhaa.Al
