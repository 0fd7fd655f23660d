/- AllocPlays answers true for every replica, last counter, end and list of calls. -/
import Derived.Test.YthbngkaajhbdjaaDp
namespace Go.Proofs.Ythbngkaajhbdjaa.Al
open Go.RowKit Go.Proofs Go.Proofs.YthbngkaajhbdjaaW.PrintWords Go.Proofs.Ythbngkaajhbdjaa.Kit
set_option linter.unusedSimpArgs false
set_option linter.unusedVariables false

def DoesAnyP (b : Nat) (r : Int) (w : World) (en : Ending) (w' : World) : Prop :=
  ∃ l e : Int, en = .returned (.tuple #[.agg #[.int .i64 r, .int .i64 l, .int .i64 e], .bool true]) ∧ Al w' b r l e ∧ w.grownBy w' (some b) ∧ 0 ≤ l ∧ l ≤ e ∧ e ≤ 4294967295
theorem does_any (b : Nat) (r l e a n : Int) (w : World) (hr : (r == 0) = false) (h : Al w b r l e) (hl : 0 ≤ l) (hle : l ≤ e) (he : e ≤ 4294967295) (ha : 0 ≤ a) (ha5 : a ≤ 5) :
    Calls Try.prog 24 #[.pointer (some ⟨b, 0, none⟩), .agg #[.int .i64 r, .int .i64 l, .int .i64 e], .agg #[.int .i64 a, .int .i64 n]] w (DoesAnyP b r w) := by
  have key : ∀ l' e' : Int, 0 ≤ l' → l' ≤ e' → e' ≤ 4294967295 → ∀ en w', DoesP b r l e a n w l' e' en w' → DoesAnyP b r w en w' := fun l' e' h1 h2 h3 en w' ⟨p, q, s⟩ => ⟨l', e', p, q, s, h1, h2, h3⟩
  have hc : a = 0 ∨ a = 1 ∨ a = 2 ∨ a = 3 ∨ a = 4 ∨ a = 5 := by omega
  rcases hc with rfl | rfl | rfl | rfl | rfl | rfl
  · exact (does_0 b r l e n w hr h hl hle he).mono (key _ _ (by unfold nextLast; split <;> omega) (by unfold nextLast; split <;> omega) he)
  · refine (does_1 b r l e n w hr h hl hle he).mono (key _ _ (by omega) ?_ he)
    unfold takeN; split
    · simpa using hle
    · split
      · simpa using hle
      · omega
  · exact (does_2 b r l e n w hr h hl hle he).mono (key _ _ hl (by unfold extendEnd; split <;> omega) (by unfold extendEnd; split <;> omega))
  · exact (does_3 b r l e n w hr h hl hle he).mono (key _ _ (by unfold passLast; split <;> (try split) <;> (try split) <;> omega) (by unfold passLast; split <;> (try split) <;> (try split) <;> omega) he)
  · exact (does_4 b r l e n w hr h hl hle he).mono (key _ _ hl (by unfold extendEnd; split <;> omega) (by unfold extendEnd; split <;> omega))
  · exact (does_5 b r l e n w hr h hl hle he).mono (key _ _ (by unfold passLast; split <;> (try split) <;> (try split) <;> omega) (by unfold passLast; split <;> (try split) <;> (try split) <;> omega) he)

/-- The state of the law at a round's head. -/
structure PS (w0 : World) (b g9 : Nat) (r l e : Int) (w : World) : Prop where
  al : Al w b r l e
  bel : Below w0.heap.size w0 w
  x9 : w.heap[g9]? = some (ralC r l e)
  ne : g9 ≠ b
  bb : w0.heap.size ≤ b
  b9 : w0.heap.size ≤ g9
section
variable {w0 w w1 : World} {b g9 : Nat} {r l e : Int}
theorem PS.below (h : PS w0 b g9 r l e w) (hb : Below w.heap.size w w1) : PS w0 b g9 r l e w1 := ⟨h.al.below hb, below_step h.bel hb, blk_below h.x9 hb, h.ne, h.bb, h.b9⟩
theorem PS.c0 (h : PS w0 b g9 r l e w) : w.cell? ⟨g9, 0, none⟩ = some (.int .i64 r) := (blk_cell h.x9 0).trans rfl
theorem PS.c1 (h : PS w0 b g9 r l e w) : w.cell? ⟨g9, 1, none⟩ = some (.int .i64 l) := (blk_cell h.x9 1).trans rfl
theorem PS.c2 (h : PS w0 b g9 r l e w) : w.cell? ⟨g9, 2, none⟩ = some (.int .i64 e) := (blk_cell h.x9 2).trans rfl
/-- The allocator has been used, and the reference's is set to the new one. -/
theorem PS.turn {l1 e1 : Int} (h : PS w0 b g9 r l e w) (ha : Al w1 b r l1 e1) (hg : w.grownBy w1 (some b)) : PS w0 b g9 r l1 e1 (set3 w1 g9 r l1 e1) :=
  ⟨ha.grown (set3_grown _ _ _ _ _) (by intro q; injection q with q; exact h.ne q.symm), grown_below (grown_below h.bel h.bel.size hg (fun k q => by injection q with q; have := h.bb; omega)) (Nat.le_trans h.bel.size hg.size) (set3_grown _ _ _ _ _) (fun k q => by injection q with q; have := h.b9; omega),
   set3_blk (blk_grown h.x9 hg (by intro q; injection q with q; exact h.ne q)) _ _ _, h.ne, h.bb, h.b9⟩
end

theorem PS.init {w0 w1 w2 : World} {b : Nat} {r l e : Int} (h1 : Below w0.heap.size w0 w1) (hb : (w1.alloc (ralC r l e)).heap.size ≤ b) (ha : Al w2 b r l e) (h2 : Below (w1.alloc (ralC r l e)).heap.size (w1.alloc (ralC r l e)) w2) : PS w0 b w1.heap.size r l e w2 := by
  have hs := h1.size
  have hb' : w1.heap.size + 1 ≤ b := by simpa using hb
  exact ⟨ha, below_step (below_alloc h1 _) h2, blk_below (blk_new w1 _) h2, by omega, by omega, hs⟩
/-- A copy has been made, and then the old allocator has been used. -/
theorem PS.swap {w0 w w1 w2 : World} {b b' g9 : Nat} {r l e : Int} (h : PS w0 b g9 r l e w) (hb : w.heap.size ≤ b') (ha : Al w1 b' r l e) (h1 : Below w.heap.size w w1) (h2 : w1.grownBy w2 (some b)) : PS w0 b' g9 r l e w2 := by
  have lb := h.al.lt
  have l9 := blk_lt h.x9
  have hs := h.bel.size
  have hs1 := h1.size
  exact ⟨ha.grown h2 (by intro q; injection q with q; omega), grown_below (below_step h.bel h1) (by omega) h2 (fun k q => by injection q with q; have := h.bb; omega), blk_grown (blk_below h.x9 h1) h2 (by intro q; injection q with q; exact h.ne q), by omega, by omega, h.b9⟩
set_option maxHeartbeats 1000000 in
theorem plays_walk (r l e : Int) (A : Option Addr) (c : Nat) (xs : List (Int × Int)) (w : World) (hx : d32.C w A xs.length xs) :
    Calls Try.prog 6 #[.int .i64 r, .int .i64 l, .int .i64 e, .slice A xs.length c] w (LawP w) := by
  have lx : xs.length ≤ 9223372036854775807 := hx.2.1
  have HX := Lib.hid hx
  clear hx
  cases h : validB r l e with
  | false =>
    have HV := Lib.hid h
    clear h
    go_enter Try.func6, Try.ntmps6
    go_wp2_with (first | (go_at_call 17; refine (few_any A c xs _ HX.out).mono ?_; rintro en w1 ⟨q, rfl, rfl⟩; cases q) | (go_at_call 8; refine (known_a _).mono ?_; rintro en w3 ⟨rfl, hb3⟩; have B3 := Lib.hid hb3; clear hb3) | (go_at_call 14; refine (rnew_no _ _ _ _ HV.out).mono ?_; rintro en w1 ⟨rfl, hb1⟩; have B := Lib.hid hb1; clear hb1) | (go_at_call 15; refine (none_ok _ _ _ _ HV.out).mono ?_; rintro en w2 ⟨rfl, hb2⟩; have B2 := Lib.hid hb2; clear hb2))
    · go_ret
      exact ⟨rfl, B3.out⟩
    · go_ret
      exact ⟨rfl, below_step (below_step (below_alloc B.out _) B2.out) B3.out⟩
  | true =>
    obtain ⟨hr, h1, h2, h3, h4, h5⟩ := valid_parts h
    have HV := Lib.hid h
    clear h
    have Hr := Lib.hid hr
    go_enter Try.func6, Try.ntmps6
    go_wp2_with (first | (go_at_call 17; refine (few_any A c xs _ HX.out).mono ?_; rintro en w1 ⟨q, rfl, rfl⟩; cases q) | (go_at_call 8; refine (known_a _).mono ?_; rintro en w3 ⟨rfl, hb3⟩; have B3 := Lib.hid hb3; clear hb3) | (go_at_call 14; refine (rnew_yes _ _ _ _ HV.out).mono ?_; rintro en w1 ⟨rfl, hb1⟩; have B := Lib.hid hb1; clear hb1) | (go_at_call 9; refine (new_yes _ _ _ _ HV.out).mono ?_; rintro en w2 ⟨b, rfl, hbw, HA2, hb2⟩; have P := Lib.hid (PS.init B.out hbw HA2 hb2); clear hb2 HA2 hbw))
    · go_ret
      exact ⟨rfl, B3.out⟩
    go_loopw [11, 53] (fun p i wr => ∃ (k b : Nat) (l e : Int), k ≤ xs.length ∧ i = .int .i64 k ∧ p = .pointer (some ⟨b, 0, none⟩) ∧ PS w b w1.heap.size r l e wr ∧ 0 ≤ l ∧ l ≤ e ∧ e ≤ 4294967295) (fun _ i _ => (xs.length : Int).toNat - (intOf i).toNat)
    case atStart => exact ⟨0, b, l, e, by omega, rfl, rfl, P.out, h3, h4, h5⟩
    case round =>
      clear P h3 h4 h5 B
      obtain ⟨k, b, l, e, hk, rfl, rfl, hP, h3, h4, h5⟩ := hrel
      generalize w1.heap.size = g9 at *
      have c0 := hP.c0
      have c1 := hP.c1
      have c2 := hP.c2
      by_cases hlt : k < xs.length
      · obtain ⟨ad, eA, q0, q1⟩ := at_dot (Kd.C_below HX.out hP.bel) (k : Int) (by omega) (by omega)
        subst eA
        rw [Int.toNat_natCast] at q0 q1
        generalize (xs.getD k D0).1 = a at *
        generalize (xs.getD k D0).2 = n at *
        have P := Lib.hid hP
        clear hP
        have a0 : ∀ o : Obj, (wr.alloc o).cell? ⟨g9, 0, none⟩ = some (.int .i64 r) := fun o => (P.out.below (below_alloc (Below.refl _ _) o)).c0
        have a1 : ∀ o : Obj, (wr.alloc o).cell? ⟨g9, 1, none⟩ = some (.int .i64 l) := fun o => (P.out.below (below_alloc (Below.refl _ _) o)).c1
        have a2 : ∀ o : Obj, (wr.alloc o).cell? ⟨g9, 2, none⟩ = some (.int .i64 e) := fun o => (P.out.below (below_alloc (Below.refl _ _) o)).c2
        by_cases ha : 0 ≤ a ∧ a ≤ 5
        · obtain ⟨ha1, ha2⟩ := ha
          go_wp2_with (first | (go_at_call 24; refine (does_any b r l e a n _ Hr.out (P.out.below (below_alloc (Below.refl _ _) _)).al h3 h4 h5 ha1 ha2).mono ?_; rintro en v1 ⟨l', e', rfl, HA', HG', k1, k2, k3⟩; have P1 := P.out.below (below_alloc (Below.refl _ _) (.cells #[.int .i64 a, .int .i64 n] 44 (0, 0))); have X9 := blk_grown P1.x9 HG' (by intro q; injection q with q; exact P1.ne q); have z0 : ∀ o : Obj, (v1.alloc o).cell? ⟨g9, 0, none⟩ = some (.int .i64 r) := fun o => (blk_cell (blk_alloc X9 o) 0).trans rfl; have z1 : ∀ o : Obj, (v1.alloc o).cell? ⟨g9, 1, none⟩ = some (.int .i64 l) := fun o => (blk_cell (blk_alloc X9 o) 1).trans rfl; have z2 : ∀ o : Obj, (v1.alloc o).cell? ⟨g9, 2, none⟩ = some (.int .i64 e) := fun o => (blk_cell (blk_alloc X9 o) 2).trans rfl; have y0 : ∀ o : Obj, (v1.alloc o).frozen? ⟨g9, 0, none⟩ = false := fun o => blk_frozen (blk_alloc X9 o) 0; have y1 : ∀ o : Obj, (v1.alloc o).frozen? ⟨g9, 1, none⟩ = false := fun o => blk_frozen (blk_alloc X9 o) 1; have y2 : ∀ o : Obj, (v1.alloc o).frozen? ⟨g9, 2, none⟩ = false := fun o => blk_frozen (blk_alloc X9 o) 2; have PT := Lib.hid (P1.turn (HA'.below (below_alloc (Below.refl _ _) (ralC r l' e'))) (grown_then HG' (World.grownBy_alloc v1 (ralC r l' e') none) (fun _ q => by cases q))); clear HA' HG' X9 P1) | (go_at_call 16; refine (looks_ok b r l' e' _ Hr.out PT.out.al k1 k2 k3).mono ?_; rintro en v3 ⟨rfl, hb3⟩; have PT := Lib.hid (PT.out.below hb3); clear hb3))
          go_roundw
          case rel => exact ⟨k + 1, b, l', e', by omega, by go_num, rfl, PT.out, k1, k2, k3⟩
          case measure => simp [intOf]; omega
        · have ha3 : a < 0 ∨ 5 < a := by omega
          clear ha
          rcases ha3 with ha3 | ha3
          · go_wp2_with (first | (go_at_call 18; refine (copy_any b r l e _ Hr.out (P.out.below (below_alloc (Below.refl _ _) _)).al).mono ?_; rintro en v1 ⟨b', rfl, hb', HA', hb1⟩; have V := Lib.hid (And.intro hb' (And.intro HA' hb1)); have O := Lib.hid ((P.out.below (below_alloc (Below.refl _ _) _)).al.below hb1); clear hb' HA' hb1) | (go_at_call 23; refine (next_any b r l e _ Hr.out O.out h3 h4 h5).mono ?_; rintro en v2 ⟨rfl, HA2, HG2⟩; have O := Lib.hid HA2; have HG2 := Lib.hid HG2; clear HA2) | (go_at_call 20; refine (extend_any b r (nextLast l e) e 4294967295 _ Hr.out O.out).mono ?_; rintro en v3 ⟨rfl, HA3, HG3⟩; have PT := Lib.hid ((P.out.below (below_alloc (Below.refl _ _) _)).swap V.out.1 V.out.2.1 V.out.2.2 (grown_then HG2.out HG3 (fun _ _ => .inr rfl))); have z0 := PT.out.c0; have z1 := PT.out.c1; have z2 := PT.out.c2; clear HA3 HG3) | (go_at_call 16; refine (looks_ok b' r l e _ Hr.out PT.out.al h3 h4 h5).mono ?_; rintro en v4 ⟨rfl, hb4⟩; have PT := Lib.hid (PT.out.below hb4); clear hb4))
            go_roundw
            case rel => exact ⟨k + 1, b', l, e, by omega, by go_num, rfl, PT.out, h3, h4, h5⟩
            case measure => simp [intOf]; omega
          · go_wp2_with (first | (go_at_call 18; refine (copy_any b r l e _ Hr.out (P.out.below (below_alloc (Below.refl _ _) _)).al).mono ?_; rintro en v1 ⟨b', rfl, hb', HA', hb1⟩; have V := Lib.hid (And.intro hb' (And.intro HA' hb1)); have O := Lib.hid ((P.out.below (below_alloc (Below.refl _ _) _)).al.below hb1); clear hb' HA' hb1) | (go_at_call 23; refine (next_any b r l e _ Hr.out O.out h3 h4 h5).mono ?_; rintro en v2 ⟨rfl, HA2, HG2⟩; have O := Lib.hid HA2; have HG2 := Lib.hid HG2; clear HA2) | (go_at_call 20; refine (extend_any b r (nextLast l e) e 4294967295 _ Hr.out O.out).mono ?_; rintro en v3 ⟨rfl, HA3, HG3⟩; have PT := Lib.hid ((P.out.below (below_alloc (Below.refl _ _) _)).swap V.out.1 V.out.2.1 V.out.2.2 (grown_then HG2.out HG3 (fun _ _ => .inr rfl))); have z0 := PT.out.c0; have z1 := PT.out.c1; have z2 := PT.out.c2; clear HA3 HG3) | (go_at_call 16; refine (looks_ok b' r l e _ Hr.out PT.out.al h3 h4 h5).mono ?_; rintro en v4 ⟨rfl, hb4⟩; have PT := Lib.hid (PT.out.below hb4); clear hb4))
            go_roundw
            case rel => exact ⟨k + 1, b', l, e, by omega, by go_num, rfl, PT.out, h3, h4, h5⟩
            case measure => simp [intOf]; omega
      · go_wp2_with (go_at_call 8; refine (known_a _).mono ?_; rintro en w5 ⟨rfl, hb5⟩; have B5 := Lib.hid hb5; clear hb5)
        go_ret
        exact ⟨rfl, below_step hP.bel B5.out⟩
end Go.Proofs.Ythbngkaajhbdjaa.Al
