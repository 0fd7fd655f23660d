/- What the methods of reserved counters do: contracts of package reserve's functions. -/
import Derived.Test.YtnkblfokfmbbhaaAln
namespace Go.Proofs.Ytnkblfokfmbbhaa.Al
open Go.RowKit Go.Proofs Go.Proofs.YtnkblfokfmbbhaaW.PrintWords Go.Proofs.Ytnkblfokfmbbhaa.Kit
set_option linter.unusedSimpArgs false
set_option linter.unusedVariables false

/-- Block g is reserved counters over the allocator in block b. -/
structure Rs (w : World) (g b : Nat) (r l e s : Int) : Prop where
  own : w.heap[g]? = some (.cells #[.pointer (some ⟨b, 0, none⟩), .int .i64 s] 55 (0, 0))
  al : Al w b r l e
  ne : g ≠ b
/-- The numbers that counters may have. -/
structure RsOk (r l e s : Int) : Prop where
  r0 : (r == 0) = false
  r1 : 1 ≤ r
  r2 : r ≤ 64
  l0 : 0 ≤ l
  le : l ≤ e
  e1 : e ≤ 4294967295
  s0 : (s == 0) = false
  s1 : 1 ≤ s
  s2 : s ≤ 1048576
section
variable {w w1 : World} {g b : Nat} {r l e s : Int}
theorem Rs.c0 (h : Rs w g b r l e s) : w.cell? ⟨g, 0, none⟩ = some (.pointer (some ⟨b, 0, none⟩)) := (blk_cell h.own 0).trans rfl
theorem Rs.c1 (h : Rs w g b r l e s) : w.cell? ⟨g, 1, none⟩ = some (.int .i64 s) := (blk_cell h.own 1).trans rfl
theorem Rs.below (h : Rs w g b r l e s) (hb : Below w.heap.size w w1) : Rs w1 g b r l e s := ⟨blk_below h.own hb, h.al.below hb, h.ne⟩
theorem Rs.turn {l1 e1 : Int} (h : Rs w g b r l e s) (ha : Al w1 b r l1 e1) (hg : w.grownBy w1 (some b)) : Rs w1 g b r l1 e1 s := ⟨blk_grown h.own hg (by intro q; injection q with q; exact h.ne q), ha, h.ne⟩
theorem Rs.lt (h : Rs w g b r l e s) : g < w.heap.size := blk_lt h.own
end

theorem al_drewN {w : World} {b : Nat} {r l e : Int} (h : Al w b r l e) (n : Nat) : Al (w.drewN n) b r l e := h
def chk (l n : Int) : Int := if n < 0 ∨ 65536 < n then 2 else if 4294967295 - l < n then 14 else 0
set_option maxHeartbeats 400000 in
theorem check_any (g b : Nat) (r l e s n : Int) (w : World) (ok : RsOk r l e s) (h : Rs w g b r l e s) :
    Calls Try.prog 28 #[.pointer (some ⟨g, 0, none⟩), .int .i64 n] w fun en w' => en = .returned (.int .i64 (chk l n)) ∧ w = w' := by
  have hc0 := h.c0
  have hc1 := h.c1
  have hs := ok.s0
  have hl := ok.l0
  have hle := ok.le
  have he := ok.e1
  have OK := Lib.hid ok
  have HR := Lib.hid h
  clear h ok
  by_cases h1 : n < 0 ∨ 65536 < n
  · have e1 : chk l n = 2 := by unfold chk; rw [if_pos h1]
    have E1 := Lib.hid e1
    clear e1
    rcases h1 with h1 | h1
    · go_enter Try.func28, Try.ntmps28
      go_wp2
      go_ret
      exact ⟨by rw [E1.out]; rfl, rfl⟩
    · go_enter Try.func28, Try.ntmps28
      go_wp2
      go_ret
      exact ⟨by rw [E1.out]; rfl, rfl⟩
  · have h2 : 0 ≤ n ∧ n ≤ 65536 := by omega
    obtain ⟨h2, h3⟩ := h2
    by_cases h4 : 4294967295 - l < n
    · have e1 : chk l n = 14 := by unfold chk; rw [if_neg h1, if_pos h4]
      have E1 := Lib.hid e1
      clear e1 h1
      go_enter Try.func28, Try.ntmps28
      go_wp2_with (go_at_call 31; refine (last_any b r l e _ OK.out.r0 HR.out.al).mono ?_; rintro en w1 ⟨rfl, rfl⟩)
      go_ret
      exact ⟨by rw [E1.out]; rfl, rfl⟩
    · have e1 : chk l n = 0 := by unfold chk; rw [if_neg h1, if_neg h4]
      have E1 := Lib.hid e1
      clear e1 h1
      go_enter Try.func28, Try.ntmps28
      go_wp2_with (go_at_call 31; refine (last_any b r l e _ OK.out.r0 HR.out.al).mono ?_; rintro en w1 ⟨rfl, rfl⟩)
      go_ret
      exact ⟨by rw [E1.out]; rfl, rfl⟩

def nx (l e n : Int) : Int := if chk l n ≠ 0 then chk l n else if e - l < n then 8 else 0
def nxN (l e n : Int) : Nat := if nx l e n = 0 then n.toNat else 0
theorem chk_zero {l n : Int} (h : chk l n = 0) : 0 ≤ n ∧ n ≤ 65536 ∧ n ≤ 4294967295 - l := by
  unfold chk at h
  split at h
  · cases h
  · split at h
    · cases h
    · omega
def RsNextP (r l e n : Int) (w : World) (en : Ending) (w' : World) : Prop :=
  ∃ v, en = .returned (.tuple #[v, .int .i64 (nx l e n)]) ∧ d32.R 34 w' w.heap.size (fun j => w.heap.size ≤ j) v (dots r l (nxN l e n)) ∧ Below w.heap.size w w'
set_option maxHeartbeats 1000000 in
theorem rsnext_any (g b : Nat) (r l e s n : Int) (w : World) (ok : RsOk r l e s) (h : Rs w g b r l e s) :
    Calls Try.prog 11 #[.pointer (some ⟨g, 0, none⟩), .int .i64 n] w (RsNextP r l e n w) := by
  have hc0 := h.c0
  have hl := ok.l0
  have hle := ok.le
  have he := ok.e1
  have nofin : ∀ x w', nx l e n = x → x ≠ 0 → Below w.heap.size w w' → RsNextP r l e n w (.returned (.tuple #[.slice none 0 0, .int .i64 x])) w' := fun x w' h1 h2 hb =>
    ⟨.slice none 0 0, by rw [h1], by unfold nxN; rw [h1, if_neg h2]; exact Kd.R_nil _ _ _ _ _, hb⟩
  have NO := Lib.hid nofin
  have OK := Lib.hid ok
  have HR := Lib.hid h
  clear h ok nofin
  by_cases h1 : chk l n = 0
  · obtain ⟨n0, n1, n2⟩ := chk_zero h1
    have C := Lib.hid h1
    clear h1
    by_cases h2 : e - l < n
    · have e1 : nx l e n = 8 := by unfold nx; rw [if_neg (by rw [C.out]; simp), if_pos h2]
      have E1 := Lib.hid e1
      clear e1
      go_enter Try.func11, Try.ntmps11
      go_wp2_with (go_at_call 28; refine (check_any g b r l e s n _ OK.out HR.out).mono ?_; rintro en w1 ⟨rfl, rfl⟩; rw [C.out])
      go_quiet ((first | (go_at_call 29; exact quiet_l (end_any b r l e _ OK.out.r0 HR.out.al)) | (go_at_call 31; exact quiet_l (last_any b r l e _ OK.out.r0 HR.out.al))))
      go_wp2
      go_ret2
      exact NO.out _ _ E1.out (by decide) (pw_below_drewN (Below.refl _ _) _)
    · have e1 : nx l e n = 0 := by unfold nx; rw [if_neg (by rw [C.out]; simp), if_neg h2]
      have E1 := Lib.hid e1
      have h3 : n ≤ e - l := by omega
      clear e1 h2
      by_cases hz : n = 0
      · subst hz
        have fin : ∀ w', Below w.heap.size w w' → RsNextP r l e 0 w (.returned (.tuple #[.slice none 0 0, .int .i64 0])) w' := fun w' hb =>
          ⟨.slice none 0 0, by rw [E1.out], by unfold nxN; rw [if_pos E1.out]; exact Kd.R_nil _ _ _ _ _, hb⟩
        have FIN := Lib.hid fin
        clear fin
        go_enter Try.func11, Try.ntmps11
        go_wp2_with (go_at_call 28; refine (check_any g b r l e s 0 _ OK.out HR.out).mono ?_; rintro en w1 ⟨rfl, rfl⟩; rw [C.out])
        go_quiet ((first | (go_at_call 29; exact quiet_l (end_any b r l e _ OK.out.r0 HR.out.al)) | (go_at_call 31; exact quiet_l (last_any b r l e _ OK.out.r0 HR.out.al))))
        go_wp2
        go_ret2
        exact FIN.out _ (pw_below_drewN (Below.refl _ _) _)
      · have hz1 : (n == 0) = false := beq_eq_false_iff_ne.2 hz
        have hd : decide (e - l < n) = false := decide_eq_false (by omega)
        have e3 : takeE l e n = 0 ∧ takeN l e n = n.toNat := by
          unfold takeE takeN
          rw [if_neg (by omega), if_neg (by omega), if_neg (by omega), if_neg (by omega)]
          exact ⟨rfl, rfl⟩
        have E3 := Lib.hid e3
        clear e3
        have fin : ∀ v w', d32.R 34 w' w.heap.size (fun j => w.heap.size ≤ j) v (dots r l n.toNat) → Below w.heap.size w w' → RsNextP r l e n w (.returned (.tuple #[v, .int .i64 0])) w' := fun v w' hv hb =>
          ⟨v, by rw [E1.out], by unfold nxN; rw [if_pos E1.out]; exact hv, hb⟩
        have FIN := Lib.hid fin
        clear fin hz
        go_enter Try.func11, Try.ntmps11
        go_wp2_with (go_at_call 28; refine (check_any g b r l e s n _ OK.out HR.out).mono ?_; rintro en w1 ⟨rfl, rfl⟩; rw [C.out])
        go_quiet ((first | (go_at_call 29; exact quiet_l (end_any b r l e _ OK.out.r0 HR.out.al)) | (go_at_call 31; exact quiet_l (last_any b r l e _ OK.out.r0 HR.out.al))))
        go_wp2_with (first | (go_at_call 32; refine (copy_any b r l e _ OK.out.r0 (al_drewN HR.out.al _)).mono ?_; rintro en v1 ⟨b2, rfl, hb2, HA2, hb1⟩; have S := Lib.hid (And.intro hb2 (And.intro HA2 hb1)); clear hb2 HA2 hb1) | (go_at_call 33; refine (take_any b2 r l e n _ OK.out.r0 S.out.2.1 hl hle he).mono ?_; rintro en v2 ⟨v, rfl, HR2, HA3, HG3⟩; rw [E3.out.1]; rw [E3.out.2] at HR2; have V := Lib.hid (And.intro HR2 HG3); clear HR2 HA3 HG3))
        go_ret2
        have s1 := S.out.1
        have s2 := S.out.2.2
        have hs : w.heap.size ≤ v1.heap.size := s2.size
        exact FIN.out _ _ (Kd.R_mono (Kd.R_lower V.out.1 hs) (fun j hj => Nat.le_trans hs hj)) (grown_below (below_step (pw_below_drewN (Below.refl _ _) _) s2) hs V.out.2 (fun k q => by injection q with q; rw [← q]; exact s1))
  · have hx : (chk l n != 0) = true := bne_iff_ne.2 h1
    have e1 : nx l e n = chk l n := by unfold nx; rw [if_pos h1]
    have fin := NO.out (chk l n) w e1 h1 (Below.refl _ _)
    have FIN := Lib.hid fin
    clear fin e1 h1
    generalize hck : chk l n = ck at *
    have CK := Lib.hid hck
    clear hck
    go_enter Try.func11, Try.ntmps11
    go_wp2_with (go_at_call 28; refine (check_any g b r l e s n _ OK.out HR.out).mono ?_; rintro en w1 ⟨rfl, rfl⟩; rw [CK.out])
    go_ret2
    exact FIN.out

def useL (l e n : Int) : Int := if nx l e n = 0 then l + n else l
def UseP (g b : Nat) (r l e s n : Int) (w : World) (en : Ending) (w' : World) : Prop :=
  en = .returned (.int .i64 (nx l e n)) ∧ Rs w' g b r (useL l e n) e s ∧ w.grownBy w' (some b)
set_option maxHeartbeats 1000000 in
theorem use_any (g b : Nat) (r l e s n : Int) (w : World) (ok : RsOk r l e s) (h : Rs w g b r l e s) :
    Calls Try.prog 13 #[.pointer (some ⟨g, 0, none⟩), .int .i64 n] w (UseP g b r l e s n w) := by
  have hl := ok.l0
  have hle := ok.le
  have he := ok.e1
  have OK := Lib.hid ok
  have HR := Lib.hid h
  clear h ok
  by_cases h1 : nx l e n = 0 ∧ n ≠ 0
  · obtain ⟨h1, h2⟩ := h1
    have hn : chk l n = 0 ∧ n ≤ e - l := by
      unfold nx at h1
      by_cases q : chk l n ≠ 0
      · rw [if_pos q] at h1; exact absurd h1 q
      · rw [if_neg q] at h1
        by_cases q2 : e - l < n
        · rw [if_pos q2] at h1; cases h1
        · exact ⟨by simpa using q, by omega⟩
    obtain ⟨n0, n1, n2⟩ := chk_zero hn.1
    have n3 := hn.2
    have e3 : takeE l e n = 0 ∧ takeN l e n = n.toNat := by
      unfold takeE takeN
      rw [if_neg (by omega), if_neg (by omega), if_neg (by omega), if_neg (by omega)]
      exact ⟨rfl, rfl⟩
    have hz1 : (n == 0) = false := beq_eq_false_iff_ne.2 h2
    have fin : ∀ w', Al w' b r (l + n.toNat) e → Rs w' g b r (l + n.toNat) e s → w.grownBy w' (some b) → UseP g b r l e s n w (.returned (.int .i64 0)) w' := fun w' _ q1 q2 =>
      ⟨by rw [h1], by unfold useL; rw [if_pos h1, show l + n = l + (n.toNat : Int) by omega]; exact q1, q2⟩
    have FIN := Lib.hid fin
    have E3 := Lib.hid e3
    have E1 := Lib.hid h1
    clear fin e3 h1 h2 hn n3
    go_enter Try.func13, Try.ntmps13
    go_wp2_with (first | (go_at_call 11; refine (rsnext_any g b r l e s n _ OK.out HR.out).mono ?_; rintro en w1 ⟨v, rfl, _, hb1⟩; rw [E1.out]; have H1 := Lib.hid (HR.out.below hb1); have hc0 := H1.out.c0; have B1 := Lib.hid hb1; clear hb1) | (go_at_call 33; refine (take_any b r l e n _ OK.out.r0 H1.out.al hl hle he).mono ?_; rintro en v2 ⟨v2', rfl, _, HA3, HG3⟩; rw [E3.out.1]; rw [E3.out.2] at HA3; have V := Lib.hid (And.intro HA3 HG3); clear HA3 HG3))
    go_ret
    exact FIN.out _ V.out.1 (H1.out.turn V.out.1 V.out.2) (grown_then (below_grown B1.out _) V.out.2 (fun _ _ => .inr rfl))
  · have e2 : useL l e n = l := by
      unfold useL
      by_cases q : nx l e n = 0
      · rw [if_pos q]
        have : n = 0 := Classical.byContradiction fun q2 => h1 ⟨q, q2⟩
        omega
      · rw [if_neg q]
    have fin : ∀ w', Rs w' g b r l e s → w.grownBy w' (some b) → UseP g b r l e s n w (.returned (.int .i64 (nx l e n))) w' := fun w' q1 q2 => ⟨rfl, by rw [e2]; exact q1, q2⟩
    have FIN := Lib.hid fin
    clear fin e2
    generalize hck : nx l e n = ck at *
    have CK := Lib.hid hck
    clear hck
    by_cases h2 : ck = 0
    · obtain rfl : n = 0 := Classical.byContradiction fun q2 => h1 ⟨h2, q2⟩
      have h3 : (ck != 0) = false := bne_eq_false_iff_eq.2 h2
      clear h1 h2
      go_enter Try.func13, Try.ntmps13
      go_wp2_with (go_at_call 11; refine (rsnext_any g b r l e s 0 _ OK.out HR.out).mono ?_; rintro en w1 ⟨v, rfl, _, hb1⟩; rw [CK.out]; have H1 := Lib.hid (HR.out.below hb1); have B1 := Lib.hid hb1; clear hb1)
      go_ret
      exact FIN.out _ H1.out (below_grown B1.out _)
    · have h3 : (ck != 0) = true := bne_iff_ne.2 h2
      clear h1 h2
      go_enter Try.func13, Try.ntmps13
      go_wp2_with (go_at_call 11; refine (rsnext_any g b r l e s n _ OK.out HR.out).mono ?_; rintro en w1 ⟨v, rfl, _, hb1⟩; rw [CK.out]; have H1 := Lib.hid (HR.out.below hb1); have B1 := Lib.hid hb1; clear hb1)
      go_ret
      exact FIN.out _ H1.out (below_grown B1.out _)
end Go.Proofs.Ytnkblfokfmbbhaa.Al
