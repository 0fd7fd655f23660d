/- ReserveHolds answers true for all inputs. -/
import Derived.Test.YtnkblfokfmbbhaaRp
namespace Go.Proofs.Ytnkblfokfmbbhaa.Al
open Go.RowKit Go.Proofs Go.Proofs.YtnkblfokfmbbhaaW.PrintWords Go.Proofs.Ytnkblfokfmbbhaa.Kit
set_option linter.unusedSimpArgs false
set_option linter.unusedVariables false

def k8 : Kd Int := Kd.int .u8
theorem at_k8 {w : World} {A : Option Addr} {n : Nat} {xs : List Int} (h : k8.C w A n xs) (i : Int) (h0 : 0 ≤ i) (h1 : i < n) :
    ∃ ad, A = some ad ∧ w.cell? (ad.add i.toNat) = some (.int .u8 (xs.getD i.toNat 0)) := by
  obtain ⟨ad, c, e, hl, hK, hc⟩ := Kd.C_get h (0 : Int) i h0 h1
  have q0 := hc 0 (.int .u8 (xs.getD i.toNat 0)) (by rw [show c = [.int .u8 (xs.getD i.toNat 0)] from hK]; rfl)
  have e1 : i.toNat * k8.sz + 0 = i.toNat := by show i.toNat * 1 + 0 = _; omega
  rw [e1] at q0
  exact ⟨ad, e, q0⟩

/-- The state of the law: one set of counters, and nothing that was there before has turned. -/
structure HS (w0 : World) (g b : Nat) (r l e s : Int) (w : World) : Prop where
  rs : Rs w g b r l e s
  bel : Below w0.heap.size w0 w
  bw : w0.heap.size ≤ b
theorem HS.below {w0 w w1 : World} {g b : Nat} {r l e s : Int} (h : HS w0 g b r l e s w) (hb : Below w.heap.size w w1) : HS w0 g b r l e s w1 := ⟨h.rs.below hb, below_step h.bel hb, h.bw⟩
theorem HS.turn {w0 w w1 : World} {g b : Nat} {r l e s l1 e1 : Int} (h : HS w0 g b r l e s w) (hr : Rs w1 g b r l1 e1 s) (hg : w.grownBy w1 (some b)) : HS w0 g b r l1 e1 s w1 :=
  ⟨hr, grown_below h.bel h.bel.size hg (fun k q => by injection q with q; have := h.bw; omega), h.bw⟩
theorem HS.crash {w0 w w1 : World} {g b g' b' : Nat} {r l e s e1 : Int} (h : HS w0 g b r l e s w) (hb : w.heap.size ≤ b') (hr : Rs w1 g' b' r e1 e1 s) (h1 : Below w.heap.size w w1) : HS w0 g' b' r e1 e1 s w1 :=
  ⟨hr, below_step h.bel h1, Nat.le_trans h.bel.size hb⟩

/-- What is to be reserved, where there is room. -/
structure Room (l e s n : Int) (k : Int) : Prop where
  ck : chk l n = 0
  nv : needV l e s n = k
  ge : e ≤ k
  hi : k ≤ e + 150
  fit : n ≤ k - l
theorem room {l e s n : Int} (h0 : 0 ≤ l) (h1 : l ≤ e) (h2 : 0 ≤ n) (h3 : n ≤ 50) (h4 : 1 ≤ s) (h5 : s ≤ 100) (h6 : e ≤ 4294967000) : ∃ k, Room l e s n k := by
  have c : chk l n = 0 := by unfold chk; rw [if_neg (by omega), if_neg (by omega)]
  by_cases q : n ≤ e - l
  · exact ⟨e, c, by unfold needV; rw [if_neg (by simp [c]), if_pos q], by omega, by omega, q⟩
  · exact ⟨l + n + s, c, by unfold needV; rw [if_neg (by simp [c]), if_neg q, if_pos (by omega)], by omega, by omega, by omega⟩
theorem Room.ge0 {l e s n k : Int} (h : Room l e s n k) : grantEnd e k = k ∨ True := .inr trivial
theorem room_grant {l e s n k : Int} (h : Room l e s n k) (h0 : 0 ≤ e) (h1 : k ≤ 4294967295) : grantE k = 0 ∧ grantEnd e k = k := by
  have := h.ge
  unfold grantE grantEnd
  rw [if_neg (by omega), if_neg (by omega)]
  refine ⟨rfl, ?_⟩
  by_cases q : e < k
  · rw [if_pos q]
  · rw [if_neg q]; omega
theorem room_next {l e s n k : Int} (h : Room l e s n k) (hn : 0 ≤ n) : nx l k n = 0 ∧ nxN l k n = n.toNat ∧ useL l k n = l + n := by
  have := h.fit
  have e1 : nx l k n = 0 := by unfold nx; rw [if_neg (by simp [h.ck]), if_neg (by omega)]
  exact ⟨e1, by unfold nxN; rw [e1]; rfl, by unfold useL; rw [e1]; rfl⟩

def holdsOut (r l s : Int) (n : Nat) : Prop := r < 1 ∨ 64 < r ∨ l < 0 ∨ 4294957296 < l ∨ s < 1 ∨ 100 < s ∨ 60 < (n : Int)
set_option maxRecDepth 100000 in
set_option maxHeartbeats 2000000 in
theorem holds_out (r l s : Int) (A : Option Addr) (n c : Nat) (w : World) (hn : n ≤ 9223372036854775807) (h : holdsOut r l s n) : Calls Try.prog 4 #[.int .i64 r, .int .i64 l, .int .i64 s, .slice A n c] w (LawP w) := by
  unfold holdsOut at h
  by_cases h0 : r < 1
  · go_enter Try.func4, Try.ntmps4
    go_wp2_with ((go_at_call 8; refine (known_a _).mono ?_; rintro en w9 ⟨rfl, hb9⟩; have B9 := Lib.hid hb9; clear hb9))
    go_ret
    exact ⟨rfl, B9.out⟩
  by_cases h1 : 64 < r
  · go_enter Try.func4, Try.ntmps4
    go_wp2_with ((go_at_call 8; refine (known_a _).mono ?_; rintro en w9 ⟨rfl, hb9⟩; have B9 := Lib.hid hb9; clear hb9))
    go_ret
    exact ⟨rfl, B9.out⟩
  by_cases h2 : l < 0
  · go_enter Try.func4, Try.ntmps4
    go_wp2_with ((go_at_call 8; refine (known_a _).mono ?_; rintro en w9 ⟨rfl, hb9⟩; have B9 := Lib.hid hb9; clear hb9))
    go_ret
    exact ⟨rfl, B9.out⟩
  by_cases h3 : 4294957296 < l
  · go_enter Try.func4, Try.ntmps4
    go_wp2_with ((go_at_call 8; refine (known_a _).mono ?_; rintro en w9 ⟨rfl, hb9⟩; have B9 := Lib.hid hb9; clear hb9))
    go_ret
    exact ⟨rfl, B9.out⟩
  by_cases h4 : s < 1
  · go_enter Try.func4, Try.ntmps4
    go_wp2_with ((go_at_call 8; refine (known_a _).mono ?_; rintro en w9 ⟨rfl, hb9⟩; have B9 := Lib.hid hb9; clear hb9))
    go_ret
    exact ⟨rfl, B9.out⟩
  by_cases h5 : 100 < s
  · go_enter Try.func4, Try.ntmps4
    go_wp2_with ((go_at_call 8; refine (known_a _).mono ?_; rintro en w9 ⟨rfl, hb9⟩; have B9 := Lib.hid hb9; clear hb9))
    go_ret
    exact ⟨rfl, B9.out⟩
  have h9 : (60 : Int) < (n : Int) := by omega
  go_enter Try.func4, Try.ntmps4
  go_wp2_with ((go_at_call 8; refine (known_a _).mono ?_; rintro en w9 ⟨rfl, hb9⟩; have B9 := Lib.hid hb9; clear hb9))
  go_ret
  exact ⟨rfl, B9.out⟩

theorem hrv {r l s : Int} (h1 : 1 ≤ r) (h2 : r ≤ 64) (h3 : 0 ≤ l) (h4 : l ≤ 4294967295) (h5 : 1 ≤ s) (h6 : s ≤ 100) : rvalid r l s = true := by simp [rvalid, validB]; omega
theorem hok {r l e s : Int} (h1 : 1 ≤ r) (h2 : r ≤ 64) (h3 : 0 ≤ l) (h7 : l ≤ e) (h4 : e ≤ 4294967295) (h5 : 1 ≤ s) (h6 : s ≤ 100) : RsOk r l e s :=
  ⟨beq_eq_false_iff_ne.2 (by omega), h1, h2, h3, h7, h4, beq_eq_false_iff_ne.2 (by omega), h5, by omega⟩
set_option maxRecDepth 100000 in
set_option maxHeartbeats 4000000 in
theorem holds_in (r l s : Int) (A : Option Addr) (c : Nat) (xs : List Int) (w : World) (hx : k8.C w A xs.length xs) (hv : ∀ x ∈ xs, 0 ≤ x ∧ x ≤ 255) (h1 : 1 ≤ r) (h2 : r ≤ 64) (h3 : 0 ≤ l) (h4 : l ≤ 4294957296) (h5 : 1 ≤ s) (h6 : s ≤ 100) (h7 : xs.length ≤ 60) :
    Calls Try.prog 4 #[.int .i64 r, .int .i64 l, .int .i64 s, .slice A xs.length c] w (LawP w) := by
  have lx : xs.length ≤ 9223372036854775807 := hx.2.1
  have HX := Lib.hid hx
  have XV := Lib.hid hv
  have hrv0 := hrv h1 h2 h3 (by omega) h5 h6
  have HV := Lib.hid hrv0
  have hrr : (r != r) = false := bne_self_eq_false r
  clear hx hv hrv0
  go_enter Try.func4, Try.ntmps4
  go_wp2_with (go_at_call 9; refine (rsnew_yes _ _ _ _ HV.out).mono ?_; rintro en w2 ⟨g, b, rfl, hg, hb, HR, hb2⟩; have P := Lib.hid (HS.mk HR hb2 hb); clear hg hb HR hb2)
  go_loopw [9, 11, 12, 13, 14] (fun p sv la us i wr => ∃ (k g b : Nat) (L E U La : Int), k ≤ xs.length ∧ i = .int .i64 k ∧ p = .pointer (some ⟨g, 0, none⟩) ∧ sv = .int .i64 E ∧ la = .int .i64 La ∧ us = .int .i64 U ∧ HS w g b r L E s wr ∧ 0 ≤ L ∧ L ≤ E ∧ U ≤ L ∧ La ≤ L ∧ E ≤ 4294957296 + 150 * (k : Int)) (fun _ _ _ _ i _ => (xs.length : Int).toNat - (intOf i).toNat)
  case atStart => exact ⟨0, g, b, l, l, l, l, by omega, rfl, rfl, rfl, rfl, rfl, P.out, by omega, by omega, by omega, by omega, by omega⟩
  case round =>
    clear P HV
    obtain ⟨k, g, b, L, E, U, La, hk, rfl, rfl, rfl, rfl, rfl, hP, hL0, hLE, hU, hLa, hE⟩ := hrel
    by_cases hlt : k < xs.length
    · have hE2 : E ≤ 4294967000 := by omega
      obtain ⟨ad, eA, q0⟩ := at_k8 (Kd.C_below HX.out hP.bel) (k : Int) (by omega) (by omega)
      subst eA
      rw [Int.toNat_natCast] at q0
      have hq : ∀ wq : World, Below w.heap.size w wq → wq.cell? (ad.add k) = some (.int .u8 (xs.getD k 0)) := by
        intro wq hb
        obtain ⟨ad', eA', y0⟩ := at_k8 (Kd.C_below HX.out hb) (k : Int) (by omega) (by omega)
        injection eA' with eA'
        subst eA'
        rw [Int.toNat_natCast] at y0
        exact y0
      have hm : 0 ≤ xs.getD k 0 ∧ xs.getD k 0 ≤ 255 := by
        rw [List.getD_eq_getElem?_getD, List.getElem?_eq_getElem hlt]
        exact XV.out _ (List.getElem_mem hlt)
      generalize xs.getD k 0 = v at *
      obtain ⟨hv0, hv1⟩ := hm
      have QQ := Lib.hid hq
      have P := Lib.hid hP
      have OK := Lib.hid (hok h1 h2 hL0 hLE (by omega) h5 h6)
      have d1 : decide (L < U) = false := decide_eq_false (by omega)
      have d2 : decide (E < L) = false := decide_eq_false (by omega)
      have d3 : (E != E) = false := bne_self_eq_false _
      clear hq hP
      by_cases v0 : v = 0
      · subst v0
        have hrv1 := hrv h1 h2 (by omega : 0 ≤ E) (by omega : E ≤ 4294967295) h5 h6
        have HV := Lib.hid hrv1
        clear hrv1
        go_wp2_with (first | (go_at_call 14; refine (used_any g b r L E s _ OK.out.r0 P.out.rs).mono ?_; rintro en v1 ⟨rfl, rfl⟩) | (go_at_call 15; refine (reserved_any g b r L E s _ OK.out.r0 P.out.rs).mono ?_; rintro en v1 ⟨rfl, rfl⟩) | (go_at_call 9; refine (rsnew_yes _ _ _ _ HV.out).mono ?_; rintro en v3 ⟨g', b', rfl, hg', hb', HR', hb3⟩; have P := Lib.hid (P.out.crash hb' HR' hb3); clear hg' hb' HR' hb3))
        go_roundw
        case rel => exact ⟨k + 1, g', b', E, E, L, La, by omega, by go_num, rfl, rfl, rfl, rfl, P.out, by omega, by omega, by omega, by omega, by omega⟩
        case measure => simp [intOf]; omega
      by_cases v1 : v = 1
      · subst v1
        obtain ⟨K, hR⟩ := room (n := 10) hL0 hLE (by omega) (by omega) h5 h6 hE2
        obtain ⟨hc, hn, hge, hhi, hfit⟩ := hR
        have CK := Lib.hid hc
        have NV := Lib.hid hn
        have d4 : decide (K < E) = false := decide_eq_false (by omega)
        have hrv1 := hrv h1 h2 (by omega : 0 ≤ K) (by omega : K ≤ 4294967295) h5 h6
        have HV := Lib.hid hrv1
        clear hrv1 hc hn
        go_wp2_with (first | (go_at_call 14; refine (used_any g b r L E s _ OK.out.r0 P.out.rs).mono ?_; rintro en v1 ⟨rfl, rfl⟩) | (go_at_call 15; refine (reserved_any g b r L E s _ OK.out.r0 P.out.rs).mono ?_; rintro en v1 ⟨rfl, rfl⟩) | (go_at_call 16; refine (need_any g b r L E s 10 _ OK.out P.out.rs).mono ?_; rintro en v2 ⟨rfl, hb2⟩; rw [CK.out, NV.out]; have P := Lib.hid (P.out.below hb2); have q0 := QQ.out _ P.out.bel; clear hb2) | (go_at_call 9; refine (rsnew_yes _ _ _ _ HV.out).mono ?_; rintro en v3 ⟨g', b', rfl, hg', hb', HR', hb3⟩; have P := Lib.hid (P.out.crash hb' HR' hb3); clear hg' hb' HR' hb3))
        go_roundw
        case rel => exact ⟨k + 1, g', b', K, K, L, La, by omega, by go_num, rfl, rfl, rfl, rfl, P.out, by omega, by omega, by omega, by omega, by omega⟩
        case measure => simp [intOf]; omega
      have v2 : 2 ≤ v := by omega
      clear v0 v1
      have dv : decide (v < 2) = false := decide_eq_false (by omega)
      have hw1 : IntKind.u8.wrap (v - 2) = v - 2 := by rw [show IntKind.u8.wrap (v - 2) = (v - 2) % 256 from rfl]; omega
      obtain ⟨n, hn⟩ : ∃ n : Nat, (v - 2).tmod 51 = n := ⟨((v - 2).tmod 51).toNat, by rw [Int.tmod_eq_emod_of_nonneg (by omega)]; omega⟩
      have hn2 : (n : Int) ≤ 50 := by rw [← hn, Int.tmod_eq_emod_of_nonneg (by omega)]; omega
      obtain ⟨K, hR⟩ := room (n := (n : Int)) hL0 hLE (by omega) hn2 h5 h6 hE2
      obtain ⟨hge2, hhi2⟩ := And.intro hR.ge hR.hi
      obtain ⟨g1, g2⟩ := room_grant hR (by omega) (by omega)
      obtain ⟨n1, n2, n3⟩ := room_next hR (by omega)
      have hfit := hR.fit
      have OK2 := Lib.hid (hok (l := L) (e := K) h1 h2 hL0 (by omega) (by omega) h5 h6)
      have RR := Lib.hid (And.intro hR.ck (And.intro hR.nv (And.intro g1 (And.intro g2 (And.intro n1 (And.intro n2 n3))))))
      have d4 : decide (K < E) = false := decide_eq_false (by omega)
      clear hR g1 g2 n1 n2 n3
      go_wp2_with (first | (go_at_call 14; refine (used_any g b r L E s _ OK.out.r0 P.out.rs).mono ?_; rintro en v1 ⟨rfl, rfl⟩) | (go_at_call 15; refine (reserved_any g b r L E s _ OK.out.r0 P.out.rs).mono ?_; rintro en v1 ⟨rfl, rfl⟩) | (go_at_call 16; refine (need_any g b r L E s n _ OK.out P.out.rs).mono ?_; rintro en v2 ⟨rfl, hb2⟩; rw [RR.out.1, RR.out.2.1]; have P := Lib.hid (P.out.below hb2); have q0 := QQ.out _ P.out.bel; clear hb2) | (go_at_call 10; refine (grant_any g b r L E s K _ OK.out P.out.rs).mono ?_; rintro en v3 ⟨rfl, HR3, HG3⟩; rw [RR.out.2.2.1]; rw [RR.out.2.2.2.1] at HR3; have P := Lib.hid (P.out.turn HR3 HG3); clear HR3 HG3) | (go_at_call 11; refine (rsnext_any g b r L K s n _ OK2.out P.out.rs).mono ?_; rintro en v4 ⟨vd, rfl, HR4, hb4⟩; rw [RR.out.2.2.2.2.1]; rw [RR.out.2.2.2.2.2.1, Int.toNat_natCast] at HR4; obtain ⟨A', c', rfl, _, HC⟩ := Kd.R_reads HR4; rw [dots_length] at HC; rw [dots_length]; have V := Lib.hid HC; have P := Lib.hid (P.out.below hb4); clear HR4 HC hb4))
      go_loopw [12, 21] (fun la j wr => ∃ (m : Nat) (La : Int), m ≤ n ∧ j = .int .i64 m ∧ la = .int .i64 La ∧ La ≤ L + m ∧ wr = v4) (fun _ j _ => (n : Int).toNat - (intOf j).toNat)
      case atStart => exact ⟨0, La, by omega, rfl, rfl, by omega, by first | rfl | trivial⟩
      case round =>
        obtain ⟨m, La2, hm, rfl, rfl, hLa2, rfl⟩ := hrel
        by_cases hmn : m < n
        · obtain ⟨ad', eA', p0, p1⟩ := at_dot V.out (m : Int) (by omega) (by omega)
          subst eA'
          rw [Int.toNat_natCast, dots_at r L n m hmn] at p0 p1
          have d5 : decide (L + 1 + (m : Int) ≤ La2) = false := decide_eq_false (by omega)
          go_wp2
          go_roundw
          case rel => exact ⟨m + 1, L + 1 + m, by omega, by go_num, rfl, by omega, by first | rfl | trivial⟩
          case measure => simp [intOf]; omega
        · obtain rfl : m = n := by omega
          go_wp2_with (go_at_call 13; refine (use_any g b r L K s m _ OK2.out P.out.rs).mono ?_; rintro en v5 ⟨rfl, HR5, HG5⟩; rw [RR.out.2.2.2.2.1]; rw [RR.out.2.2.2.2.2.2] at HR5; have P := Lib.hid (P.out.turn HR5 HG5); clear HR5 HG5)
          go_roundw
          case rel => exact ⟨k + 1, g, b, L + m, K, L, La2, by omega, by go_num, rfl, rfl, rfl, rfl, P.out, by omega, by omega, by omega, by omega, by omega⟩
          case measure => simp [intOf]; omega
    · go_wp2_with ((go_at_call 8; refine (known_a _).mono ?_; rintro en w9 ⟨rfl, hb9⟩; have B9 := Lib.hid hb9; clear hb9))
      go_ret
      exact ⟨rfl, below_step hP.bel B9.out⟩
theorem holds_walk (r l s : Int) (A : Option Addr) (c : Nat) (xs : List Int) (w : World) (hx : k8.C w A xs.length xs) (hv : ∀ x ∈ xs, (Lit.int .u8 x).wf = true) :
    Calls Try.prog 4 #[.int .i64 r, .int .i64 l, .int .i64 s, .slice A xs.length c] w (LawP w) := by
  by_cases h : holdsOut r l s xs.length
  · exact holds_out r l s A _ c w hx.2.1 h
  · unfold holdsOut at h
    refine holds_in r l s A c xs w hx (fun x h => ?_) (by omega) (by omega) (by omega) (by omega) (by omega) (by omega) (by omega)
    have := hv x h
    simp [Lit.wf] at this
    rw [show IntKind.u8.min = 0 from rfl, show IntKind.u8.max = 255 from rfl] at this
    omega
end Go.Proofs.Ytnkblfokfmbbhaa.Al
