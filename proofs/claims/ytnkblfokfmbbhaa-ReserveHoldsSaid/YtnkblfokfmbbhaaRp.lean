/- ReservePlays and ReserveGreats answer true for all inputs. -/
import Derived.Test.YtnkblfokfmbbhaaRk
namespace Go.Proofs.Ytnkblfokfmbbhaa.Al
open Go.RowKit Go.Proofs Go.Proofs.YtnkblfokfmbbhaaW.PrintWords Go.Proofs.Ytnkblfokfmbbhaa.Kit
set_option linter.unusedSimpArgs false
set_option linter.unusedVariables false

structure PS (w0 : World) (g b x : Nat) (r l e s lx ex : Int) (w : World) : Prop where
  rs : Rs w g b r l e s
  rr : Rr w x r lx ex s
  bel : Below w0.heap.size w0 w
  n1 : x ≠ g
  n2 : x ≠ b
  bw : w0.heap.size ≤ b
  xw : w0.heap.size ≤ x
section
variable {w0 w w1 w2 : World} {g b x g' b' : Nat} {r l e s lx ex l1 e1 l2 e2 : Int}
theorem PS.below (h : PS w0 g b x r l e s lx ex w) (hb : Below w.heap.size w w1) : PS w0 g b x r l e s lx ex w1 := ⟨h.rs.below hb, h.rr.below hb, below_step h.bel hb, h.n1, h.n2, h.bw, h.xw⟩
theorem PS.turn1 (h : PS w0 g b x r l e s lx ex w) (hr : Rs w1 g b r l1 e1 s) (hg : w.grownBy w1 (some b)) : PS w0 g b x r l1 e1 s lx ex w1 :=
  ⟨hr, h.rr.grown hg (by intro q; injection q with q; exact h.n2 q), grown_below h.bel h.bel.size hg (fun k q => by injection q with q; have := h.bw; omega), h.n1, h.n2, h.bw, h.xw⟩
theorem PS.turn2 (h : PS w0 g b x r l e s lx ex w) (hr : Rr w1 x r l1 e1 s) (hg : w.grownBy w1 (some x)) : PS w0 g b x r l e s l1 e1 w1 :=
  ⟨h.rs.grown hg h.n1 h.n2, hr, grown_below h.bel h.bel.size hg (fun k q => by injection q with q; have := h.xw; omega), h.n1, h.n2, h.bw, h.xw⟩
theorem PS.swap (h : PS w0 g b x r l e s lx ex w) (hg : w.heap.size ≤ g') (hb : w.heap.size ≤ b') (hr : Rs w1 g' b' r l1 e1 s) (h1 : Below w.heap.size w w1) (h2 : w1.grownBy w2 (some b)) : PS w0 g' b' x r l1 e1 s lx ex w2 := by
  have q1 := h.rs.lt
  have q2 := h.rs.al.lt
  have q3 := h.rr.lt
  have q4 := h.bel.size
  have q5 := h1.size
  exact ⟨hr.grown h2 (by omega) (by omega), (h.rr.below h1).grown h2 (by intro q; injection q with q; exact h.n2 q), grown_below (below_step h.bel h1) (by omega) h2 (fun k q => by injection q with q; have := h.bw; omega), by omega, by omega, by omega, h.xw⟩
theorem PS.init (h1 : Below w0.heap.size w0 w) (hx : w0.heap.size ≤ x) (hr : Rr w x r l e s) (hg : w.heap.size ≤ g) (hb : w.heap.size ≤ b) (hs : Rs w1 g b r l1 e1 s) (h2 : Below w.heap.size w w1) : PS w0 g b x r l1 e1 s l e w1 := by
  have q1 := hr.lt
  have q2 := h1.size
  exact ⟨hs, hr.below h2, below_step h1 h2, by omega, by omega, by omega, hx⟩
end
theorem use_ok {r l e s n : Int} (ok : RsOk r l e s) : RsOk r (useL l e n) e s := by
  have h : l ≤ useL l e n ∧ useL l e n ≤ e := by
    have := ok.le
    unfold useL
    by_cases q : nx l e n = 0
    · rw [if_pos q]
      obtain ⟨h1, h2⟩ := nx_zero q
      have := chk_zero h1
      omega
    · rw [if_neg q]; omega
  exact ⟨ok.r0, ok.r1, ok.r2, Int.le_trans ok.l0 h.1, h.2, ok.e1, ok.s0, ok.s1, ok.s2⟩
theorem grant_ok {r l e s u : Int} (ok : RsOk r l e s) : RsOk r l (grantEnd e u) s := by
  have h : e ≤ grantEnd e u ∧ grantEnd e u ≤ 4294967295 := by
    have := ok.e1
    unfold grantEnd
    split
    · omega
    · split <;> omega
  exact ⟨ok.r0, ok.r1, ok.r2, ok.l0, Int.le_trans ok.le h.1, h.2, ok.s0, ok.s1, ok.s2⟩
theorem need_in {r l e s n : Int} (ok : RsOk r l e s) : grantE (needV l e s n) = 0 := by
  have h : 0 ≤ needV l e s n ∧ needV l e s n ≤ 4294967295 := by
    have h1 := ok.l0
    have h2 := ok.le
    have h3 := ok.e1
    have h4 := ok.s1
    unfold needV
    by_cases q : chk l n = 0
    · have := chk_zero q
      rw [if_neg (by simp [q])]
      split
      · omega
      · split <;> omega
    · rw [if_pos q]; omega
  unfold grantE
  rw [if_neg (by omega)]

set_option maxRecDepth 100000 in
set_option maxHeartbeats 4000000 in
theorem plays_walk (r l s : Int) (A : Option Addr) (c : Nat) (xs : List (Int × Int)) (w : World) (hx : d32.C w A xs.length xs) :
    Calls Try.prog 6 #[.int .i64 r, .int .i64 l, .int .i64 s, .slice A xs.length c] w (LawP w) := by
  have lx : xs.length ≤ 9223372036854775807 := hx.2.1
  have HX := Lib.hid hx
  clear hx
  cases h : rvalid r l s with
  | false =>
    have HV := Lib.hid h
    clear h
    go_enter Try.func6, Try.ntmps6
    go_wp2_with (first | (go_at_call 17; refine (rrnew_no _ _ _ _ HV.out).mono ?_; rintro en w1 ⟨rfl, hb1⟩; have B := Lib.hid hb1; clear hb1) | (go_at_call 8; refine (known_a _).mono ?_; rintro en w9 ⟨rfl, hb9⟩; have B9 := Lib.hid hb9; clear hb9))
    go_ret
    exact ⟨rfl, below_step B.out B9.out⟩
  | true =>
    have HV := Lib.hid h
    have OK0 := Lib.hid (rvalid_ok h).1
    clear h
    by_cases h40 : 40 < xs.length
    · have hd : decide ((40 : Int) < xs.length) = true := decide_eq_true (by omega)
      go_enter Try.func6, Try.ntmps6
      go_wp2_with (first | (go_at_call 17; refine (rrnew_yes _ _ _ _ HV.out).mono ?_; rintro en w1 ⟨x, rfl, _, _, hb1⟩; have B := Lib.hid hb1; clear hb1) | (go_at_call 8; refine (known_a _).mono ?_; rintro en w9 ⟨rfl, hb9⟩; have B9 := Lib.hid hb9; clear hb9))
      go_ret
      exact ⟨rfl, below_step B.out B9.out⟩
    have hd : decide ((40 : Int) < xs.length) = false := decide_eq_false (by omega)
    go_enter Try.func6, Try.ntmps6
    go_wp2_with (first | (go_at_call 17; refine (rrnew_yes _ _ _ _ HV.out).mono ?_; rintro en w1 ⟨x, rfl, hx, HX1, hb1⟩; have B := Lib.hid hb1; have X := Lib.hid (And.intro hx HX1); clear hb1 hx HX1) | (go_at_call 9; refine (rsnew_yes _ _ _ _ HV.out).mono ?_; rintro en w2 ⟨g, b, rfl, hg, hb, HR, hb2⟩; have P := Lib.hid (PS.init B.out X.out.1 X.out.2 hg hb HR hb2); clear hg hb HR hb2))
    go_loopw [11, 13] (fun p i wr => ∃ (k g b : Nat) (l e : Int), k ≤ xs.length ∧ i = .int .i64 k ∧ p = .pointer (some ⟨g, 0, none⟩) ∧ PS w g b x r l e s l e wr ∧ RsOk r l e s) (fun _ i _ => (xs.length : Int).toNat - (intOf i).toNat)
    case atStart => exact ⟨0, g, b, l, l, by omega, rfl, rfl, P.out, OK0.out⟩
    case round =>
      clear P OK0 B X HV
      obtain ⟨k, g, b, l, e, hk, rfl, rfl, hP, hOK⟩ := hrel
      by_cases hlt : k < xs.length
      · have HX0 := HX.out
        obtain ⟨ad, eA, q0, q1⟩ := at_dot HX0 (k : Int) (by omega) (by omega)
        subst eA
        have hq : ∀ wq : World, Below w.heap.size w wq → wq.cell? (ad.add (k * 2)) = some (.int .i64 (xs.getD k D0).1) ∧ wq.cell? ⟨(ad.add (k * 2)).block, (ad.add (k * 2)).off + 1, none⟩ = some (.int .i64 (xs.getD k D0).2) := by
          intro wq hb
          obtain ⟨ad', eA', y0, y1⟩ := at_dot (Kd.C_below HX0 hb) (k : Int) (by omega) (by omega)
          injection eA' with eA'
          subst eA'
          rw [Int.toNat_natCast] at y0 y1
          exact ⟨y0, y1⟩
        clear q0 q1 HX0
        obtain ⟨q0, q1⟩ := hq _ hP.bel
        generalize (xs.getD k D0).1 = a at *
        generalize (xs.getD k D0).2 = n at *
        have P := Lib.hid hP
        have OK := Lib.hid hOK
        have QQ0 : ∀ wq : World, Below w.heap.size w wq → wq.cell? (ad.add (k * 2)) = some (.int .i64 a) := fun wq hb => (hq wq hb).1
        have QQ1 : ∀ wq : World, Below w.heap.size w wq → wq.cell? ⟨(ad.add (k * 2)).block, (ad.add (k * 2)).off + 1, none⟩ = some (.int .i64 n) := fun wq hb => (hq wq hb).2
        clear hP hOK hq
        have Q0 := Lib.hid QQ0
        have Q1 := Lib.hid QQ1
        clear QQ0 QQ1
        by_cases a0 : a = 0
        · subst a0
          by_cases hn : 200 < n ∧ n ≤ 65536
          · obtain ⟨hn1, hn2⟩ := hn
            go_wp2_with ((go_at_call 8; refine (known_a _).mono ?_; rintro en w9 ⟨rfl, hb9⟩; have B9 := Lib.hid hb9; clear hb9))
            go_ret
            exact ⟨rfl, below_step P.out.bel B9.out⟩
          by_cases hn1 : 200 < n
          · have hn2 : 65536 < n := by omega
            clear hn
            go_wp2_with (first | (go_at_call 20; refine (rrnext_any x r l e s n _ OK.out P.out.rr).mono ?_; rintro en v1 ⟨v, rfl, HR, hb1⟩; obtain ⟨A', c', rfl, _, HC⟩ := Kd.R_reads HR; have C' := Lib.hid HC; have P := Lib.hid (P.out.below hb1); clear hb1 HR HC) | (go_at_call 21; refine (nexts_ok g b r l e s n _ A' c' _ _ OK.out P.out.rs rfl C'.out rfl).mono ?_; rintro en v2 ⟨rfl, hb2⟩; have P := Lib.hid (P.out.below hb2); clear hb2) | (go_at_call 19; refine (alike_ok g b x r (l) (e) s _ OK.out P.out.rs P.out.rr).mono ?_; rintro en w8 ⟨rfl, hb8⟩; have P := Lib.hid (P.out.below hb8); clear hb8))
            go_roundw
            case rel => exact ⟨k + 1, g, b, l, e, by omega, by go_num, rfl, P.out, OK.out⟩
            case measure => simp [intOf]; omega
          · have hn2 : n ≤ 200 := by omega
            clear hn hn1
            go_wp2_with (first | (go_at_call 20; refine (rrnext_any x r l e s n _ OK.out P.out.rr).mono ?_; rintro en v1 ⟨v, rfl, HR, hb1⟩; obtain ⟨A', c', rfl, _, HC⟩ := Kd.R_reads HR; have C' := Lib.hid HC; have P := Lib.hid (P.out.below hb1); clear hb1 HR HC) | (go_at_call 21; refine (nexts_ok g b r l e s n _ A' c' _ _ OK.out P.out.rs rfl C'.out rfl).mono ?_; rintro en v2 ⟨rfl, hb2⟩; have P := Lib.hid (P.out.below hb2); clear hb2) | (go_at_call 19; refine (alike_ok g b x r (l) (e) s _ OK.out P.out.rs P.out.rr).mono ?_; rintro en w8 ⟨rfl, hb8⟩; have P := Lib.hid (P.out.below hb8); clear hb8))
            go_roundw
            case rel => exact ⟨k + 1, g, b, l, e, by omega, by go_num, rfl, P.out, OK.out⟩
            case measure => simp [intOf]; omega
        by_cases a1 : a = 1
        · subst a1
          have en1 : (nx l e n != nx l e n) = false := bne_self_eq_false _
          go_wp2_with (first | (go_at_call 13; refine (use_any g b r l e s n _ OK.out P.out.rs).mono ?_; rintro en v1 ⟨rfl, HR1, HG1⟩; have P := Lib.hid (P.out.turn1 HR1 HG1); clear HR1 HG1) | (go_at_call 22; refine (rruse_any x r l e s n _ OK.out P.out.rr).mono ?_; rintro en v2 ⟨rfl, HR2, HG2⟩; have P := Lib.hid (P.out.turn2 HR2 HG2); clear HR2 HG2) | (go_at_call 19; refine (alike_ok g b x r (useL l e n) (e) s _ (use_ok OK.out) P.out.rs P.out.rr).mono ?_; rintro en w8 ⟨rfl, hb8⟩; have P := Lib.hid (P.out.below hb8); clear hb8))
          go_roundw
          case rel => exact ⟨k + 1, g, b, useL l e n, e, by omega, by go_num, rfl, P.out, use_ok OK.out⟩
          case measure => simp [intOf]; omega
        by_cases a2 : a = 2
        · subst a2
          go_wp2_with (first | (go_at_call 23; refine (rrneed_any x r l e s n _ OK.out P.out.rr).mono ?_; rintro en v1 ⟨rfl, hb1⟩; have P := Lib.hid (P.out.below hb1); have q0 := Q0.out _ P.out.bel; have q1 := Q1.out _ P.out.bel; clear hb1) | (go_at_call 12; refine (needs_ok g b r l e s n _ _ _ OK.out P.out.rs rfl rfl).mono ?_; rintro en v2 ⟨rfl, hb2⟩; have P := Lib.hid (P.out.below hb2); have q0 := Q0.out _ P.out.bel; have q1 := Q1.out _ P.out.bel; clear hb2) | (go_at_call 19; refine (alike_ok g b x r (l) (e) s _ OK.out P.out.rs P.out.rr).mono ?_; rintro en w8 ⟨rfl, hb8⟩; have P := Lib.hid (P.out.below hb8); clear hb8))
          go_roundw
          case rel => exact ⟨k + 1, g, b, l, e, by omega, by go_num, rfl, P.out, OK.out⟩
          case measure => simp [intOf]; omega
        by_cases a4 : a = 4
        · subst a4
          have ng := need_in (n := n) OK.out
          have NG := Lib.hid ng
          have OK2 := Lib.hid (grant_ok (u := needV l e s n) OK.out)
          clear ng
          generalize hnv : needV l e s n = nv at *
          have NV := Lib.hid hnv
          clear hnv
          go_wp2_with (first | (go_at_call 23; refine (rrneed_any x r l e s n _ OK.out P.out.rr).mono ?_; rintro en v1 ⟨rfl, hb1⟩; rw [NV.out]; have P := Lib.hid (P.out.below hb1); have q0 := Q0.out _ P.out.bel; have q1 := Q1.out _ P.out.bel; clear hb1) | (go_at_call 12; refine (needs_ok g b r l e s n _ _ _ OK.out P.out.rs NV.out.symm rfl).mono ?_; rintro en v2 ⟨rfl, hb2⟩; have P := Lib.hid (P.out.below hb2); have q0 := Q0.out _ P.out.bel; have q1 := Q1.out _ P.out.bel; clear hb2) | (go_at_call 10; refine (grant_any g b r l e s nv _ OK.out P.out.rs).mono ?_; rintro en v3 ⟨rfl, HR1, HG1⟩; rw [NG.out]; have P := Lib.hid (P.out.turn1 HR1 HG1); clear HR1 HG1) | (go_at_call 24; refine (rrgrant_any x r l e s nv _ P.out.rr).mono ?_; rintro en v4 ⟨rfl, HR2, HG2⟩; rw [NG.out]; have P := Lib.hid (P.out.turn2 HR2 HG2); clear HR2 HG2) | (go_at_call 19; refine (alike_ok g b x r (l) (grantEnd e nv) s _ OK2.out P.out.rs P.out.rr).mono ?_; rintro en w8 ⟨rfl, hb8⟩; have P := Lib.hid (P.out.below hb8); clear hb8))
          go_roundw
          case rel => exact ⟨k + 1, g, b, l, grantEnd e nv, by omega, by go_num, rfl, P.out, OK2.out⟩
          case measure => simp [intOf]; omega
        by_cases a3 : a = 3
        · subst a3
          have en1 : (grantE n != grantE n) = false := bne_self_eq_false _
          go_wp2_with (first | (go_at_call 10; refine (grant_any g b r l e s n _ OK.out P.out.rs).mono ?_; rintro en v3 ⟨rfl, HR1, HG1⟩; have P := Lib.hid (P.out.turn1 HR1 HG1); clear HR1 HG1) | (go_at_call 24; refine (rrgrant_any x r l e s n _ P.out.rr).mono ?_; rintro en v4 ⟨rfl, HR2, HG2⟩; have P := Lib.hid (P.out.turn2 HR2 HG2); clear HR2 HG2) | (go_at_call 19; refine (alike_ok g b x r (l) (grantEnd e n) s _ (grant_ok OK.out) P.out.rs P.out.rr).mono ?_; rintro en w8 ⟨rfl, hb8⟩; have P := Lib.hid (P.out.below hb8); clear hb8))
          go_roundw
          case rel => exact ⟨k + 1, g, b, l, grantEnd e n, by omega, by go_num, rfl, P.out, grant_ok OK.out⟩
          case measure => simp [intOf]; omega
        have b0 : (a == 0) = false := beq_eq_false_iff_ne.2 a0
        have b1 : (a == 1) = false := beq_eq_false_iff_ne.2 a1
        have b2 : (a == 2) = false := beq_eq_false_iff_ne.2 a2
        have b3 : (a == 3) = false := beq_eq_false_iff_ne.2 a3
        have b4 : (a == 4) = false := beq_eq_false_iff_ne.2 a4
        clear a0 a1 a2 a3 a4 Q0 Q1
        go_wp2_with (first | (go_at_call 25; refine (rscopy_any g b r l e s _ OK.out P.out.rs).mono ?_; rintro en v1 ⟨g', b', rfl, hg', hb', HR', hb1⟩; have V := Lib.hid (And.intro hg' (And.intro hb' (And.intro HR' hb1))); have O := Lib.hid (P.out.rs.below hb1); clear hg' hb' HR' hb1) | (go_at_call 10; refine (grant_any g b r l e s 4294967295 _ OK.out O.out).mono ?_; rintro en v3 ⟨rfl, HR1, HG1⟩; have O := Lib.hid (And.intro HR1 HG1); clear HR1 HG1) | (go_at_call 13; refine (use_any g b r l (grantEnd e 4294967295) s 1 _ (grant_ok OK.out) O.out.1).mono ?_; rintro en v4 ⟨rfl, HR2, HG2⟩; have P := Lib.hid (P.out.swap V.out.1 V.out.2.1 V.out.2.2.1 V.out.2.2.2 (grown_then O.out.2 HG2 (fun _ _ => .inr rfl))); clear HR2 HG2) | (go_at_call 19; refine (alike_ok g' b' x r (l) (e) s _ OK.out P.out.rs P.out.rr).mono ?_; rintro en w8 ⟨rfl, hb8⟩; have P := Lib.hid (P.out.below hb8); clear hb8))
        go_roundw
        case rel => exact ⟨k + 1, g', b', l, e, by omega, by go_num, rfl, P.out, OK.out⟩
        case measure => simp [intOf]; omega
      · go_wp2_with ((go_at_call 8; refine (known_a _).mono ?_; rintro en w9 ⟨rfl, hb9⟩; have B9 := Lib.hid hb9; clear hb9))
        go_ret
        exact ⟨rfl, below_step hP.bel B9.out⟩

set_option maxRecDepth 100000 in
set_option maxHeartbeats 2000000 in
theorem greats_out (r m : Int) (w : World) (h : r < 1 ∨ 64 < r ∨ m < 65534 ∨ 65538 < m) : Calls Try.prog 3 #[.int .i64 r, .int .i64 m] w (LawP w) := by
  by_cases h1 : r < 1
  · go_enter Try.func3, Try.ntmps3
    go_wp2_with ((go_at_call 8; refine (known_a _).mono ?_; rintro en w9 ⟨rfl, hb9⟩; have B9 := Lib.hid hb9; clear hb9))
    go_ret
    exact ⟨rfl, B9.out⟩
  by_cases h2 : 64 < r
  · go_enter Try.func3, Try.ntmps3
    go_wp2_with ((go_at_call 8; refine (known_a _).mono ?_; rintro en w9 ⟨rfl, hb9⟩; have B9 := Lib.hid hb9; clear hb9))
    go_ret
    exact ⟨rfl, B9.out⟩
  by_cases h3 : m < 65534
  · go_enter Try.func3, Try.ntmps3
    go_wp2_with ((go_at_call 8; refine (known_a _).mono ?_; rintro en w9 ⟨rfl, hb9⟩; have B9 := Lib.hid hb9; clear hb9))
    go_ret
    exact ⟨rfl, B9.out⟩
  have h4 : 65538 < m := by omega
  go_enter Try.func3, Try.ntmps3
  go_wp2_with ((go_at_call 8; refine (known_a _).mono ?_; rintro en w9 ⟨rfl, hb9⟩; have B9 := Lib.hid hb9; clear hb9))
  go_ret
  exact ⟨rfl, B9.out⟩
attribute [local go_sem high] eqDot
structure GS (w0 : World) (g b : Nat) (r l e : Int) (w : World) : Prop where
  rs : Rs w g b r l e 1
  bel : Below w0.heap.size w0 w
  bw : w0.heap.size ≤ b
theorem GS.below {w0 w w1 : World} {g b : Nat} {r l e : Int} (h : GS w0 g b r l e w) (hb : Below w.heap.size w w1) : GS w0 g b r l e w1 := ⟨h.rs.below hb, below_step h.bel hb, h.bw⟩
theorem GS.turn {w0 w w1 : World} {g b : Nat} {r l e l1 e1 : Int} (h : GS w0 g b r l e w) (hr : Rs w1 g b r l1 e1 1) (hg : w.grownBy w1 (some b)) : GS w0 g b r l1 e1 w1 :=
  ⟨hr, grown_below h.bel h.bel.size hg (fun k q => by injection q with q; have := h.bw; omega), h.bw⟩
theorem greats_ok (r : Int) (h1 : 1 ≤ r) (h2 : r ≤ 64) (l e : Int) (h3 : 0 ≤ l) (h4 : l ≤ e) (h5 : e ≤ 4294967295) : RsOk r l e 1 := ⟨beq_eq_false_iff_ne.2 (by omega), h1, h2, h3, h4, h5, rfl, by decide, by decide⟩
theorem add_zero0 (ad : Addr) : ad.add (Int.toNat 0 * 2) = ad := by
  rw [show Int.toNat 0 * 2 = 0 from rfl]
  obtain ⟨b, o, i⟩ := ad
  cases i <;> rfl
theorem dots_at (r l : Int) (N j : Nat) (h : j < N) : (dots r l N).getD j D0 = (r, l + 1 + (j : Int)) := by
  rw [List.getD_eq_getElem?_getD, List.getElem?_eq_getElem (by rw [dots_length]; exact h)]
  simp [dots]
set_option maxRecDepth 100000 in
set_option maxHeartbeats 2000000 in
theorem greats_in (r m : Int) (w : World) (h1 : 1 ≤ r) (h2 : r ≤ 64) (h3 : 65534 ≤ m) (h4 : m ≤ 65538) : Calls Try.prog 3 #[.int .i64 r, .int .i64 m] w (LawP w) := by
  have hv : rvalid r 7 1 = true := by simp [rvalid, validB]; omega
  have HV := Lib.hid hv
  have O1 := Lib.hid (greats_ok r h1 h2 7 7 (by decide) (by decide) (by decide))
  have O2 := Lib.hid (greats_ok r h1 h2 7 200000 (by decide) (by decide) (by decide))
  clear hv
  by_cases h5 : 65536 < m
  · have c1 : chk 7 m = 2 := by unfold chk; rw [if_pos (by omega)]
    have n1 : nx 7 200000 m = 2 := by unfold nx; rw [c1]; rfl
    have n2 : nxN 7 200000 m = 0 := by unfold nxN; rw [n1]; rfl
    have n3 : 0 = needV 7 200000 1 m := by unfold needV; rw [c1]; rfl
    have n4 : useL 7 200000 m = 7 := by unfold useL; rw [n1]; rfl
    have E := Lib.hid (And.intro c1 (And.intro n1 (And.intro n2 (And.intro n3 n4))))
    clear c1 n1 n2 n3 n4
    go_enter Try.func3, Try.ntmps3
    go_wp2_with (first | (go_at_call 9; refine (rsnew_yes _ _ _ _ HV.out).mono ?_; rintro en w2 ⟨g, b, rfl, hg, hb, HR, hb2⟩; have S := Lib.hid (GS.mk HR hb2 hb); clear hg hb HR hb2) | (go_at_call 10; refine (grant_any g b r 7 7 1 200000 _ O1.out S.out.rs).mono ?_; rintro en v1 ⟨rfl, HR1, HG1⟩; have S := Lib.hid (show GS w g b r 7 200000 v1 from S.out.turn HR1 HG1); clear HR1 HG1) | (go_at_call 11; refine (rsnext_any g b r 7 200000 1 m _ O2.out S.out.rs).mono ?_; rintro en v2 ⟨v, rfl, HR2, hb2⟩; rw [E.out.2.1]; rw [E.out.2.2.1] at HR2; obtain ⟨A', c', rfl, _, HC⟩ := Kd.R_reads HR2; have S := Lib.hid (S.out.below hb2); clear HR2 HC hb2) | (go_at_call 12; refine (needs_ok g b r 7 200000 1 m _ _ _ O2.out S.out.rs E.out.2.2.2.1 E.out.1.symm).mono ?_; rintro en v3 ⟨rfl, hb3⟩; have S := Lib.hid (S.out.below hb3); clear hb3) | (go_at_call 13; refine (use_any g b r 7 200000 1 m _ O2.out S.out.rs).mono ?_; rintro en v4 ⟨rfl, HR4, HG4⟩; rw [E.out.2.1]; rw [E.out.2.2.2.2] at HR4; have S := Lib.hid (S.out.turn HR4 HG4); clear HR4 HG4) | (go_at_call 14; refine (used_any g b r 7 200000 1 _ O2.out.r0 S.out.rs).mono ?_; rintro en v5 ⟨rfl, rfl⟩) | (go_at_call 8; refine (known_a _).mono ?_; rintro en w9 ⟨rfl, hb9⟩; have B9 := Lib.hid hb9; clear hb9))
    go_ret
    exact ⟨rfl, below_step S.out.bel B9.out⟩
  · obtain ⟨N, hN⟩ : ∃ N : Nat, m = N := ⟨m.toNat, by omega⟩
    subst hN
    have c1 : chk 7 N = 0 := by unfold chk; rw [if_neg (by omega), if_neg (by omega)]
    have n1 : nx 7 200000 N = 0 := by unfold nx; rw [c1, if_neg (by decide), if_neg (by omega)]
    have n2 : nxN 7 200000 N = N := by unfold nxN; rw [n1]; simp
    have n4 : useL 7 200000 N = 7 + N := by unfold useL; rw [n1]; rfl
    have E := Lib.hid (And.intro c1 (And.intro n1 (And.intro n2 n4)))
    have O3 := Lib.hid (greats_ok r h1 h2 (7 + N) 200000 (by omega) (by omega) (by decide))
    clear c1 n1 n2 n4
    go_enter Try.func3, Try.ntmps3
    go_wp2_with (first | (go_at_call 9; refine (rsnew_yes _ _ _ _ HV.out).mono ?_; rintro en w2 ⟨g, b, rfl, hg, hb, HR, hb2⟩; have S := Lib.hid (GS.mk HR hb2 hb); clear hg hb HR hb2) | (go_at_call 10; refine (grant_any g b r 7 7 1 200000 _ O1.out S.out.rs).mono ?_; rintro en v1 ⟨rfl, HR1, HG1⟩; have S := Lib.hid (show GS w g b r 7 200000 v1 from S.out.turn HR1 HG1); clear HR1 HG1) | (go_at_call 11; refine (rsnext_any g b r 7 200000 1 N _ O2.out S.out.rs).mono ?_; rintro en v2 ⟨v, rfl, HR2, hb2⟩; rw [E.out.2.1]; rw [E.out.2.2.1] at HR2; obtain ⟨A', c', rfl, _, HC⟩ := Kd.R_reads HR2; rw [dots_length] at HC; rw [dots_length]; have S := Lib.hid (S.out.below hb2); obtain ⟨ad, eA, q0, q1⟩ := at_dot HC 0 (by omega) (by omega); obtain ⟨ad', eA', q2, q3⟩ := at_dot HC ((N : Int) - 1) (by omega) (by omega); subst eA; (injection eA' with eA'); subst eA'; rw [dots_at r 7 N _ (by omega)] at q0 q1 q2 q3; have y2 : (7 : Int) + 1 + (((N : Int) - 1).toNat : Int) = 7 + N := (by omega); rw [y2] at q3; have y3 : (7 : Int) + 1 + (Int.toNat 0 : Int) = 8 := rfl; rw [y3] at q1; rw [add_zero0] at q0 q1; have y5 : ((N : Int) - 1).toNat = N - 1 := (by omega); rw [y5] at q2 q3; clear y5 HR2 HC hb2 y2 y3) | (go_at_call 13; refine (use_any g b r 7 200000 1 N _ O2.out S.out.rs).mono ?_; rintro en v4 ⟨rfl, HR4, HG4⟩; rw [E.out.2.1]; rw [E.out.2.2.2] at HR4; have S := Lib.hid (S.out.turn HR4 HG4); clear HR4 HG4) | (go_at_call 14; refine (used_any g b r (7 + N) 200000 1 _ O3.out.r0 S.out.rs).mono ?_; rintro en v5 ⟨rfl, rfl⟩) | (go_at_call 8; refine (known_a _).mono ?_; rintro en w9 ⟨rfl, hb9⟩; have B9 := Lib.hid hb9; clear hb9))
    go_ret
    exact ⟨rfl, below_step S.out.bel B9.out⟩
theorem reserveGreats_walk (r m : Int) (w : World) : Calls Try.prog 3 #[.int .i64 r, .int .i64 m] w (LawP w) := by
  by_cases h : r < 1 ∨ 64 < r ∨ m < 65534 ∨ 65538 < m
  · exact greats_out r m w h
  · exact greats_in r m w (by omega) (by omega) (by omega) (by omega)
end Go.Proofs.Ytnkblfokfmbbhaa.Al
