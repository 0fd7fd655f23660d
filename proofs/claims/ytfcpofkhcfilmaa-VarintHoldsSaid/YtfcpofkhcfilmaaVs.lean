/- The reference's Read, Num and Str of layer 1, told by what a list of bytes begins with. -/
import Derived.Test.YtfcpofkhcfilmaaVp
namespace Go.Proofs.Ytfcpofkhcfilmaa.Vn
open Go.RowKit Go.Proofs Go.Proofs.YtfcpofkhcfilmaaW.PrintWords Go.Proofs.Ytfcpofkhcfilmaa.Kit
set_option linter.unusedSimpArgs false
set_option linter.unusedVariables false

theorem pow_w (i : Nat) : IntKind.u64.wrap (IntKind.u64.wrap (128 ^ i) * 128) = IntKind.u64.wrap (128 ^ (i + 1)) := by
  rw [wrapu, wrapu, wrapu, Int.pow_succ]
  generalize (128 : Int) ^ i = a
  omega
theorem gs_w (l : List Int) (i : Nat) : IntKind.u64.wrap (IntKind.u64.wrap (gs l i) + IntKind.u64.wrap (l.getD i 0 % 128 * IntKind.u64.wrap (128 ^ i))) = IntKind.u64.wrap (gs l (i + 1)) := by
  show _ = IntKind.u64.wrap (gs l i + (l.getD i 0 % 128) * 128 ^ i)
  simp only [wrapu]
  generalize (128 : Int) ^ i = a
  generalize l.getD i 0 % 128 = g
  rw [Int.mul_emod g (a % _), Int.emod_emod, ← Int.mul_emod, ← Int.add_emod]
set_option maxHeartbeats 1000000 in
open PVr in
theorem read_l0 (l : List Int) (hb : Bys l) (hl : l.length ≤ 100000000) : ∀ (m i : Nat), m + i = 10 → i ≤ l.length → (∀ j, j < i → 128 ≤ l.getD j 0) →
    ∃ v s e, redpencilref01_Read.l0 (2 * m + 1) l (IntKind.u64.wrap (gs l i)) (IntKind.u64.wrap (128 ^ i)) (i : Int) = some (v, s, e) ∧ RdR l v s e
  | 0, i, hi, hle, hall => by
    obtain rfl : i = 10 := by omega
    exact ⟨0, 0, 12, by unfold redpencilref01_Read.l0; rw [if_neg (by omega)], .over hle hall⟩
  | m + 1, i, hi, hle, hall => by
    have e2 : 2 * (m + 1) + 1 = (2 * m + 1 + 1) + 1 := by omega
    rw [e2]
    unfold redpencilref01_Read.l0
    rw [if_pos (by omega)]
    by_cases h1 : i = l.length
    · rw [if_pos (by omega)]
      exact ⟨0, 0, 4, rfl, .short (by omega) (fun j hj => hall j (by omega))⟩
    · rw [if_neg (by omega), if_pos (by omega), if_pos (by omega)]
      have hlt : i < l.length := by omega
      have hx := hb.at hlt
      have hg : IntKind.u64.wrap (Int.tmod (rd l (i : Int)) 128) = l.getD i 0 % 128 := by
        unfold rd
        rw [Int.toNat_natCast, Int.tmod_eq_emod_of_nonneg hx.1, wrapu]
        omega
      have hrd : rd l (i : Int) = l.getD i 0 := by unfold rd; rw [Int.toNat_natCast]
      have hi1 : wrap64 ((i : Int) + 1) = ((i + 1 : Nat) : Int) := by simp only [wrap64]; omega
      rw [hg]
      clear hg
      by_cases hbig : i = 9 ∧ 1 < l.getD i 0 % 128
      · rw [if_pos (show (i : Int) = 9 by have := hbig.1; omega)]
        unfold redpencilref01_Read.j1
        rw [if_pos (decide_eq_true hbig.2)]
        refine ⟨0, 0, 12, rfl, ?_⟩
        obtain ⟨rfl, h3⟩ := hbig
        by_cases h4 : l.getD 9 0 < 128
        · exact .bad 9 ⟨by omega, hlt, h4, hall⟩ (.inr ⟨rfl, by omega⟩)
        · refine .over (by omega) (fun j hj => ?_)
          rcases Nat.lt_or_ge j 9 with q | q
          · exact hall j q
          · obtain rfl : j = 9 := by omega
            omega
      · have hcut : ∀ k : Nat, (if ((i : Int) = 9) then redpencilref01_Read.j1 k l (IntKind.u64.wrap (gs l i)) (IntKind.u64.wrap (128 ^ i)) i (l.getD i 0 % 128) (decide (l.getD i 0 % 128 > 1)) else redpencilref01_Read.j1 k l (IntKind.u64.wrap (gs l i)) (IntKind.u64.wrap (128 ^ i)) i (l.getD i 0 % 128) false) = redpencilref01_Read.j1 k l (IntKind.u64.wrap (gs l i)) (IntKind.u64.wrap (128 ^ i)) i (l.getD i 0 % 128) false := fun k => by
          by_cases q : (i : Int) = 9
          · rw [if_pos q, decide_eq_false (by omega)]
          · rw [if_neg q]
        rw [hcut]
        unfold redpencilref01_Read.j1
        rw [if_neg (by simp), if_pos (by omega), if_pos (by omega), hrd]
        by_cases h4 : 128 ≤ l.getD i 0
        · rw [if_pos h4, gs_w l i, pow_w i, hi1]
          exact read_l0 l hb hl m (i + 1) (by omega) (by omega) (fun j hj => by
            rcases Nat.lt_or_ge j i with q | q
            · exact hall j q
            · obtain rfl : j = i := by omega
              exact h4)
        · have he : Ends l i := ⟨by omega, hlt, by omega, hall⟩
          rw [if_neg h4]
          have good : ¬ Bad l i → ∃ v s e, some (IntKind.u64.wrap (IntKind.u64.wrap (gs l i) + IntKind.u64.wrap (l.getD i 0 % 128 * IntKind.u64.wrap (128 ^ i))), wrap64 ((i : Int) + 1), (0 : Int)) = some (v, s, e) ∧ RdR l v s e := fun hn => by
            have h5 := good_lt (fun j hj => (hb.at hj).1) he hn
            have h6 := gs_nonneg l (i + 1)
            refine ⟨_, _, _, rfl, ?_⟩
            rw [gs_w l i, hi1, wrapu, Int.emod_eq_of_lt h6 h5]
            exact .good i he hn
          by_cases h5 : l.getD i 0 % 128 = 0
          · rw [if_pos h5]
            by_cases h6 : 0 < i
            · rw [if_pos (by omega)]
              exact ⟨0, 0, 12, rfl, .bad i he (.inl ⟨h6, by omega⟩)⟩
            · rw [if_neg (by omega)]
              exact good (fun hbad => by rcases hbad with ⟨a, b⟩ | ⟨a, b⟩ <;> omega)
          · rw [if_neg h5]
            exact good (fun hbad => by rcases hbad with ⟨a, b⟩ | ⟨a, b⟩ <;> omega)
theorem read_f (l : List Int) (hb : Bys l) (hl : l.length ≤ 100000000) : ∃ v s e, PVr.redpencilref01_Read.f 21 l = some (v, s, e) ∧ RdR l v s e := by
  have h := read_l0 l hb hl 10 0 rfl (Nat.zero_le _) (fun j hj => by omega)
  have e1 : IntKind.u64.wrap (gs l 0) = 0 := by rw [wrapu]; rfl
  have e2 : IntKind.u64.wrap (128 ^ 0) = 1 := by rw [wrapu]; rfl
  rw [e1, e2] at h
  exact h
theorem read_of (l : List Int) (hb : Bys l) (hl : l.length ≤ 100000000) {v s e : Int} (h : RdR l v s e) : PVr.redpencilref01_Read.f 21 l = some (v, s, e) := by
  obtain ⟨v', s', e', h1, h2⟩ := read_f l hb hl
  obtain ⟨rfl, rfl, rfl⟩ := rdr_one h h2
  exact h1
/-- What a written list begins with is reckoned. -/
theorem rdr_lit (l : List Int) (hb : Bys l) (hl : l.length ≤ 100000000) {v s e : Int} (h : PVr.redpencilref01_Read.f 21 l = some (v, s, e)) : RdR l v s e := by
  obtain ⟨v', s', e', h1, h2⟩ := read_f l hb hl
  rw [h] at h1
  obtain ⟨rfl, rfl, rfl⟩ : v = v' ∧ s = s' ∧ e = e' := by simpa using h1
  exact h2
theorem rread_any (A : Option Addr) (c : Nat) (l : List Int) (w : World) (hx : k8.C w A l.length l) (hc : l.length ≤ c) (hb : Bys l) (hl : l.length ≤ 100000000) {v s e : Int} (h : RdR l v s e) :
    Calls Try.prog 52 #[.slice A l.length c] w (NumP (.tuple #[.int .u64 v, .int .i64 s, .int .i64 e]) w) := by
  refine (PVr.redpencilref01_Read.calls 21 A c l v s e w hx hc (read_of l hb hl h)).mono ?_
  rintro en w' ⟨rfl, hd⟩
  exact ⟨rfl, hd.out⟩
theorem rnm_any (A : Option Addr) (c : Nat) (l : List Int) (w : World) (hx : k8.C w A l.length l) (hc : l.length ≤ c) (hb : Bys l) (hl : l.length ≤ 100000000) {v s e : Int} (h : RdR l v s e) (most : Int) :
    Calls Try.prog 48 #[.slice A l.length c, .int .u64 most] w (NumP (.tuple #[.int .u64 (nV most v e), .int .i64 (nS most v s e : Nat), .int .i64 (nE most v e)]) w) := by
  obtain ⟨i1, i2, i3, i4, i5, i6, i7, i8⟩ := rdr_in hb h
  refine (PVr.redpencilref01_Num.calls 21 A c l most (nV most v e) (nS most v s e : Nat) (nE most v e) w hx hc ?_).mono ?_
  · unfold PVr.redpencilref01_Num.f
    rw [read_of l hb hl h]
    show (if e = 0 then (if v > most then some (0, 0, 3) else some (v, s, e)) else some (v, s, e)) = _
    unfold nV nS nE
    by_cases h0 : e = 0
    · rw [if_pos h0]
      by_cases h1 : most < v
      · rw [if_pos h1, if_neg (by omega), if_neg (by omega), if_neg (by omega), if_pos h1]; rfl
      · rw [if_neg (by omega), if_pos ⟨h0, by omega⟩, if_pos ⟨h0, by omega⟩, if_neg (by omega), if_neg h1, h0]
        congr 3
        omega
    · have := i8 h0
      rw [if_neg h0, if_neg (by omega), if_neg (by omega), if_pos h0, this.1, this.2]; rfl
  · rintro en w' ⟨rfl, hd⟩
    exact ⟨rfl, hd.out⟩

theorem mid8 (A : Option Addr) (c : Nat) (xs : List Int) (a b : Nat) (hab : a ≤ b) (hm : b ≤ xs.length) (hc : xs.length ≤ c) :
    ∃ A', (∀ W : World, (Instr.slice 23 (.slice A xs.length c) (some (.int .i64 (a : Int))) (some (.int .i64 (b : Int))) none).run Try.prog W = .ok (.slice A' ((xs.take b).drop a).length (c - a)) W) ∧ (∀ w, k8.C w A xs.length xs → k8.C w A' ((xs.take b).drop a).length ((xs.take b).drop a)) ∧ ((xs.take b).drop a).length ≤ c - a := by
  obtain ⟨i, hi, _, hsz, _⟩ := info_parts info8
  obtain ⟨A', h1, h2, h3⟩ := print_mid_of (P := Try.prog) (Value.int .u8) 0 23 5 .i64 .i64 Try.underlying23 hi hsz A c xs (a : Int) (b : Int) (by omega) (by omega) (by omega) hc
  simp only [Int.toNat_natCast] at h1 h2 h3
  exact ⟨A', h1, fun w h => Kd.C_of_reads (h1 := fun _ => rfl) (h2 w (Kd.reads_of_C h)), h3⟩
/-- The reference's Str: the string, how many bytes, the error. -/
def StrVP (l : List Int) (v s E : Int) (w : World) (en : Ending) (w' : World) : Prop := en = .returned (.tuple #[.string (strOfNums (hY l v s E)), .int .i64 (hS v s E : Nat), .int .i64 E]) ∧ ∃ n, w' = w.drewN n
set_option maxHeartbeats 2000000 in
theorem rstr_any (A : Option Addr) (c : Nat) (l : List Int) (w : World) (hx : k8.C w A l.length l) (hc : l.length ≤ c) (hb : Bys l) (hl : l.length ≤ 10000000) {v s e : Int} (hr : RdR l v s e) (most : Int) (hm : most ≤ 9223372036854775807) :
    Calls Try.prog 49 #[.slice A l.length c, .int .i64 most] w (StrVP l v s (hE most v s e l.length) w) := by
  obtain ⟨i1, i2, i3, i4, i5, i6, i7, i8⟩ := rdr_in hb hr
  have HR := Lib.hid hr
  have HX := Lib.hid hx
  have HB := Lib.hid hb
  have hl8 : l.length ≤ 100000000 := by omega
  have HC := Lib.hid hc
  clear hr hb hx hc
  have no : hE most v s e l.length ≠ 0 → ∀ n q, q = hE most v s e l.length → StrVP l v s (hE most v s e l.length) w (.returned (.tuple #[.string (strOfNums []), .int .i64 0, .int .i64 q])) (w.drewN n) := fun q n q2 e2 => by
    subst e2
    have e1 : hY l v s (hE most v s e l.length) = [] := if_neg q
    have e2 : hS v s (hE most v s e l.length) = 0 := if_neg q
    refine ⟨?_, n, rfl⟩
    rw [e1, e2]; rfl
  by_cases h0 : e = 0
  · subst h0
    have i7 := i7 rfl
    by_cases h1 : most < 0
    · have e1 : hE most v s 0 l.length = 5 := by unfold hE; rw [if_neg (by simp), if_pos (.inl h1)]
      have NO := Lib.hid (no (by rw [e1]; decide))
      have E1 := Lib.hid e1
      have hd : decide (most < 0) = true := decide_eq_true h1
      clear no e1 h1 i1 i2 i3 i4 i5 i6 i7 i8
      go_enter Try.func49, Try.ntmps49
      go_wp2_with (go_at_call 52; refine (rread_any A c l _ HX.out HC.out HB.out hl8 HR.out).mono ?_; rintro en w1 ⟨rfl, n, rfl⟩)
      go_ret3
      exact NO.out n _ E1.out.symm
    · have hd : decide (most < 0) = false := decide_eq_false h1
      have hw : IntKind.u64.wrap most = most := by rw [wrapu]; omega
      by_cases h2 : most < v
      · have e1 : hE most v s 0 l.length = 5 := by unfold hE; rw [if_neg (by simp), if_pos (.inr h2)]
        have NO := Lib.hid (no (by rw [e1]; decide))
        have E1 := Lib.hid e1
        have hd2 : decide (most < v) = true := decide_eq_true h2
        clear no e1 h1 h2 i1 i2 i3 i4 i5 i6 i7 i8 hm
        go_enter Try.func49, Try.ntmps49
        go_wp2_with (go_at_call 52; refine (rread_any A c l _ HX.out HC.out HB.out hl8 HR.out).mono ?_; rintro en w1 ⟨rfl, n, rfl⟩)
        go_ret3
        exact NO.out n _ E1.out.symm
      · have hd2 : decide (most < v) = false := decide_eq_false h2
        have hw2 : IntKind.u64.wrap ((l.length : Int) - s) = (l.length : Int) - s := by rw [wrapu]; omega
        by_cases h3 : (l.length : Int) - s < v
        · have e1 : hE most v s 0 l.length = 4 := by unfold hE; rw [if_neg (by simp), if_neg (by omega), if_pos h3]
          have NO := Lib.hid (no (by rw [e1]; decide))
          have E1 := Lib.hid e1
          have hd3 : decide ((l.length : Int) - s < v) = true := decide_eq_true h3
          have hlo : -1000000000 ≤ (l.length : Int) - s := by omega
          have hhi : (l.length : Int) - s ≤ 1000000000 := by omega
          clear no e1 h1 h2 h3 i1 i2 i3 i4 i5 i6 i7 i8 hm
          go_enter Try.func49, Try.ntmps49
          go_wp2_with (go_at_call 52; refine (rread_any A c l _ HX.out HC.out HB.out hl8 HR.out).mono ?_; rintro en w1 ⟨rfl, n, rfl⟩)
          go_ret3
          exact NO.out n _ E1.out.symm
        · obtain ⟨S, rfl⟩ : ∃ S : Nat, s = S := ⟨s.toNat, by omega⟩
          obtain ⟨V, rfl⟩ : ∃ V : Nat, v = V := ⟨v.toNat, by omega⟩
          have hpi : (S : Int) + V ≤ 1000000000 := by omega
          have hlo : -1000000000 ≤ (l.length : Int) - S := by omega
          have hhi : (l.length : Int) - S ≤ 1000000000 := by omega
          have hv64 : wrap64 (V : Int) = V := by simp only [wrap64]; omega
          have hSV : S + V ≤ l.length := by omega
          have e1 : hE most V S 0 l.length = 0 := by unfold hE; rw [if_neg (by simp), if_neg (by omega), if_neg h3]
          have e5 : hY l V S 0 = (l.take (S + V)).drop S := by unfold hY; rw [if_pos rfl, Int.toNat_natCast, Int.toNat_natCast, List.drop_take]; congr 1; omega
          have e6 : hS V S 0 = S + V := by unfold hS; rw [if_pos rfl]; omega
          rw [e1]
          obtain ⟨A', k1, k2, _⟩ := mid8 A c l S (S + V) (Nat.le_add_right _ _) hSV HC.out
          rw [Int.natCast_add] at k1
          have fin : ∀ n, StrVP l V S 0 w (.returned (.tuple #[.string (strOfNums ((l.take (S + V)).drop S)), .int .i64 ((S : Int) + V), .int .i64 0])) (w.drewN n) := fun n => ⟨by rw [e5, e6, Int.natCast_add], n, rfl⟩
          have FIN := Lib.hid fin
          have e4 : ((l.take (S + V)).drop S).length = V := by rw [List.length_drop, List.length_take]; omega
          have kq : ∀ n, (convert 23 9 (.slice A' V (c - S))).run Try.prog (w.drewN n) = .ok (.string (strOfNums ((l.take (S + V)).drop S))) (w.drewN n) := fun n => by
            have := conv8 (c := c - S) (k2 _ (Kd.C_drewN HX.out n))
            rw [e4] at this
            exact this
          rw [e4] at k1
          have hd3 : decide ((l.length : Int) - S < V) = false := decide_eq_false h3
          generalize strOfNums ((l.take (S + V)).drop S) = z at *
          clear no e1 h1 h2 h3 i1 i2 i3 i4 i5 i6 i7 i8 hm e4 e5 e6 k2 fin
          go_enter Try.func49, Try.ntmps49
          go_wp2_with (go_at_call 52; refine (rread_any A c l _ HX.out HC.out HB.out hl8 HR.out).mono ?_; rintro en w1 ⟨rfl, n, rfl⟩; have kq := kq n)
          go_ret3
          exact FIN.out n
  · have e1 : hE most v s e l.length = e := by unfold hE; rw [if_pos h0]
    have NO := Lib.hid (no (by rw [e1]; exact h0))
    have E1 := Lib.hid e1
    have hd : (e != 0) = true := bne_iff_ne.2 h0
    clear no e1 h0 i1 i2 i3 i4 i5 i6 i7 i8 hm
    go_enter Try.func49, Try.ntmps49
    go_wp2_with (go_at_call 52; refine (rread_any A c l _ HX.out HC.out HB.out hl8 HR.out).mono ?_; rintro en w1 ⟨rfl, n, rfl⟩)
    go_ret3
    exact NO.out n _ E1.out.symm
end Go.Proofs.Ytfcpofkhcfilmaa.Vn
