/- What the other methods of reserved counters do: contracts of package reserve's functions, nil and zero counters among them. -/
import Derived.Test.YtnkblfokfmbbhaaRs
import Derived.Test.YtnkblfokfmbbhaaWMore
import Derived.IntWalk
namespace Go.Proofs.Ytnkblfokfmbbhaa.Al
open Go.RowKit Go.Proofs Go.Proofs.YtnkblfokfmbbhaaW.PrintWords Go.Proofs.Ytnkblfokfmbbhaa.Kit
set_option linter.unusedSimpArgs false
set_option linter.unusedVariables false

theorem rs_drewN {w : World} {g b : Nat} {r l e s : Int} (h : Rs w g b r l e s) (n : Nat) : Rs (w.drewN n) g b r l e s := ⟨h.own, h.al, h.ne⟩
theorem rs_drew {w : World} {g b : Nat} {r l e s : Int} (h : Rs w g b r l e s) : Rs w.drew g b r l e s := ⟨h.own, h.al, h.ne⟩
theorem rsreplica_any (g b : Nat) (r l e s : Int) (w : World) (h : Rs w g b r l e s) :
    Calls Try.prog 26 #[.pointer (some ⟨g, 0, none⟩)] w fun en w' => en = .returned (.int .i64 r) ∧ w = w' := by
  have hc0 := h.c0
  have HR := Lib.hid h
  clear h
  go_enter Try.func26, Try.ntmps26
  go_wp2_with (go_at_call 35; refine (replica_any b r l e _ HR.out.al).mono ?_; rintro en w1 ⟨rfl, rfl⟩)
  go_ret
  exact ⟨rfl, rfl⟩
theorem used_any (g b : Nat) (r l e s : Int) (w : World) (hr : (r == 0) = false) (h : Rs w g b r l e s) :
    Calls Try.prog 14 #[.pointer (some ⟨g, 0, none⟩)] w fun en w' => en = .returned (.int .i64 l) ∧ w = w' := by
  have hc0 := h.c0
  have HR := Lib.hid h
  have Hr := Lib.hid hr
  clear h
  go_enter Try.func14, Try.ntmps14
  go_wp2_with (go_at_call 31; refine (last_any b r l e _ Hr.out HR.out.al).mono ?_; rintro en w1 ⟨rfl, rfl⟩)
  go_ret
  exact ⟨rfl, rfl⟩
theorem reserved_any (g b : Nat) (r l e s : Int) (w : World) (hr : (r == 0) = false) (h : Rs w g b r l e s) :
    Calls Try.prog 15 #[.pointer (some ⟨g, 0, none⟩)] w fun en w' => en = .returned (.int .i64 e) ∧ w = w' := by
  have hc0 := h.c0
  have HR := Lib.hid h
  have Hr := Lib.hid hr
  clear h
  go_enter Try.func15, Try.ntmps15
  go_wp2_with (go_at_call 29; refine (end_any b r l e _ Hr.out HR.out.al).mono ?_; rintro en w1 ⟨rfl, rfl⟩)
  go_ret
  exact ⟨rfl, rfl⟩

def needV (l e s n : Int) : Int := if chk l n ≠ 0 then 0 else if n ≤ e - l then e else if l + n + s < 4294967295 then l + n + s else 4294967295
def NeedP (l e s n : Int) (w : World) (en : Ending) (w' : World) : Prop := en = .returned (.tuple #[.int .i64 (needV l e s n), .int .i64 (chk l n)]) ∧ Below w.heap.size w w'
attribute [local go_sem] Go.Proofs.YtnkblfokfmbbhaaW.PrintMore.max2_int Go.Proofs.YtnkblfokfmbbhaaW.PrintMore.min2_int Go.Proofs.YtnkblfokfmbbhaaW.PrintMore.max_two Go.Proofs.YtnkblfokfmbbhaaW.PrintMore.min_two
set_option maxHeartbeats 1000000 in
theorem need_any (g b : Nat) (r l e s n : Int) (w : World) (ok : RsOk r l e s) (h : Rs w g b r l e s) :
    Calls Try.prog 16 #[.pointer (some ⟨g, 0, none⟩), .int .i64 n] w (NeedP l e s n w) := by
  have hc0 := h.c0
  have hc1 := h.c1
  have hl := ok.l0
  have hle := ok.le
  have he := ok.e1
  have hs1 := ok.s1
  have hs2 := ok.s2
  have OK := Lib.hid ok
  have HR := Lib.hid h
  have fin : ∀ x y w', needV l e s n = x → chk l n = y → Below w.heap.size w w' → NeedP l e s n w (.returned (.tuple #[.int .i64 x, .int .i64 y])) w' := fun x y w' h1 h2 hb => ⟨by rw [h1, h2], hb⟩
  have FIN := Lib.hid fin
  clear h ok fin
  by_cases h1 : chk l n = 0
  · obtain ⟨n0, n1, n2⟩ := chk_zero h1
    have hn0 : ¬ (chk l n ≠ 0) := by simp [h1]
    by_cases h2 : n ≤ e - l
    · have e1 : needV l e s n = e := by unfold needV; rw [if_neg hn0, if_pos h2]
      have E1 := Lib.hid e1
      have C := Lib.hid h1
      clear e1 h1 hn0
      go_enter Try.func16, Try.ntmps16
      go_wp2_with (go_at_call 28; refine (check_any g b r l e s n _ OK.out HR.out).mono ?_; rintro en w1 ⟨rfl, rfl⟩; rw [C.out])
      go_quiet ((first | (go_at_call 29; exact quiet_l (end_any b r l e _ OK.out.r0 HR.out.al)) | (go_at_call 31; exact quiet_l (last_any b r l e _ OK.out.r0 HR.out.al))))
      go_wp2_with (go_at_call 29; refine (end_any b r l e _ OK.out.r0 (al_drewN HR.out.al _)).mono ?_; rintro en w1 ⟨rfl, rfl⟩)
      go_ret2
      exact FIN.out _ _ _ E1.out C.out (pw_below_drewN (Below.refl _ _) _)
    · have e1 : needV l e s n = if l + n + s < 4294967295 then l + n + s else 4294967295 := by unfold needV; rw [if_neg hn0, if_neg h2]
      have hd : decide (n ≤ e - l) = false := decide_eq_false h2
      by_cases h3 : l + n + s < 4294967295
      · rw [if_pos h3] at e1
        have E1 := Lib.hid e1
        have C := Lib.hid h1
        clear e1 h1 hn0 h2
        go_enter Try.func16, Try.ntmps16
        go_wp2_with (go_at_call 28; refine (check_any g b r l e s n _ OK.out HR.out).mono ?_; rintro en w1 ⟨rfl, rfl⟩; rw [C.out])
        go_quiet ((first | (go_at_call 29; exact quiet_l (end_any b r l e _ OK.out.r0 HR.out.al)) | (go_at_call 31; exact quiet_l (last_any b r l e _ OK.out.r0 HR.out.al))))
        go_wp2
        have HRd := Lib.hid (rs_drewN HR.out nq)
        have BQ := Lib.hid (pw_below_drewN (Below.refl w.heap.size w) nq)
        clear HR hc0 hc1
        generalize w.drewN nq = w2 at *
        have hc0 := HRd.out.c0
        have hc1 := HRd.out.c1
        have hw1 : IntKind.i64.wrap (l + n) = l + n := IntWalk.i64_in _ (by omega)
        have hw2 : IntKind.i64.wrap (l + n + s) = l + n + s := IntWalk.i64_in _ (by omega)
        have hd4 : (l + n + s < 4294967295) := by omega
        go_quiet ((first | (go_at_call 31; exact quiet_l (last_any b r l e _ OK.out.r0 HRd.out.al))))
        clear hw1 hw2
        go_wp2
        go_ret2
        exact FIN.out _ _ _ E1.out C.out (pw_below_drewN BQ.out _)
      · rw [if_neg h3] at e1
        have E1 := Lib.hid e1
        have C := Lib.hid h1
        clear e1 h1 hn0 h2
        go_enter Try.func16, Try.ntmps16
        go_wp2_with (go_at_call 28; refine (check_any g b r l e s n _ OK.out HR.out).mono ?_; rintro en w1 ⟨rfl, rfl⟩; rw [C.out])
        go_quiet ((first | (go_at_call 29; exact quiet_l (end_any b r l e _ OK.out.r0 HR.out.al)) | (go_at_call 31; exact quiet_l (last_any b r l e _ OK.out.r0 HR.out.al))))
        go_wp2
        have HRd := Lib.hid (rs_drewN HR.out nq)
        have BQ := Lib.hid (pw_below_drewN (Below.refl w.heap.size w) nq)
        clear HR hc0 hc1
        generalize w.drewN nq = w2 at *
        have hc0 := HRd.out.c0
        have hc1 := HRd.out.c1
        have hw1 : IntKind.i64.wrap (l + n) = l + n := IntWalk.i64_in _ (by omega)
        have hw2 : IntKind.i64.wrap (l + n + s) = l + n + s := IntWalk.i64_in _ (by omega)
        have hd4 : ¬ (l + n + s < 4294967295) := by omega
        go_quiet ((first | (go_at_call 31; exact quiet_l (last_any b r l e _ OK.out.r0 HRd.out.al))))
        clear hw1 hw2
        go_wp2
        go_ret2
        exact FIN.out _ _ _ E1.out C.out (pw_below_drewN BQ.out _)
  · have hx : (chk l n != 0) = true := bne_iff_ne.2 h1
    have e1 : needV l e s n = 0 := by unfold needV; rw [if_pos h1]
    have E1 := Lib.hid e1
    clear e1 h1
    generalize hck : chk l n = ck at *
    have CK := Lib.hid hck
    clear hck
    go_enter Try.func16, Try.ntmps16
    go_wp2_with (go_at_call 28; refine (check_any g b r l e s n _ OK.out HR.out).mono ?_; rintro en w1 ⟨rfl, rfl⟩; rw [CK.out])
    go_ret2
    exact FIN.out _ _ _ E1.out rfl (Below.refl _ _)

def grantE (u : Int) : Int := if u < 0 ∨ 4294967295 < u then 2 else 0
def grantEnd (e u : Int) : Int := if u < 0 ∨ 4294967295 < u then e else if e < u then u else e
def GrantP (g b : Nat) (r l e s u : Int) (w : World) (en : Ending) (w' : World) : Prop := en = .returned (.int .i64 (grantE u)) ∧ Rs w' g b r l (grantEnd e u) s ∧ w.grownBy w' (some b)
set_option maxHeartbeats 1000000 in
theorem grant_any (g b : Nat) (r l e s u : Int) (w : World) (ok : RsOk r l e s) (h : Rs w g b r l e s) :
    Calls Try.prog 10 #[.pointer (some ⟨g, 0, none⟩), .int .i64 u] w (GrantP g b r l e s u w) := by
  have hc0 := h.c0
  have hl := ok.l0
  have hle := ok.le
  have he := ok.e1
  have OK := Lib.hid ok
  have HR := Lib.hid h
  have c0 : chk l 0 = 0 := by unfold chk; rw [if_neg (by omega), if_neg (by omega)]
  have C := Lib.hid c0
  have fin : ∀ x y w', grantE u = x → grantEnd e u = y → Rs w' g b r l y s → w.grownBy w' (some b) → GrantP g b r l e s u w (.returned (.int .i64 x)) w' := fun x y w' h1 h2 h3 h4 => ⟨by rw [h1], by rw [h2]; exact h3, h4⟩
  have FIN := Lib.hid fin
  clear h ok fin c0
  by_cases h1 : u < 0 ∨ 4294967295 < u
  · have e1 : grantE u = 2 ∧ grantEnd e u = e := by unfold grantE grantEnd; rw [if_pos h1, if_pos h1]; exact ⟨rfl, rfl⟩
    have E1 := Lib.hid e1
    clear e1
    rcases h1 with h1 | h1
    · go_enter Try.func10, Try.ntmps10
      go_wp2_with (go_at_call 28; refine (check_any g b r l e s 0 _ OK.out HR.out).mono ?_; rintro en w1 ⟨rfl, rfl⟩; rw [C.out])
      go_ret
      exact FIN.out _ _ _ E1.out.1 E1.out.2 HR.out (grown_refl _ _)
    · go_enter Try.func10, Try.ntmps10
      go_wp2_with (go_at_call 28; refine (check_any g b r l e s 0 _ OK.out HR.out).mono ?_; rintro en w1 ⟨rfl, rfl⟩; rw [C.out])
      go_ret
      exact FIN.out _ _ _ E1.out.1 E1.out.2 HR.out (grown_refl _ _)
  · have u1 : 0 ≤ u ∧ u ≤ 4294967295 := by omega
    obtain ⟨u1, u2⟩ := u1
    by_cases h2 : e < u
    · have e1 : grantE u = 0 ∧ grantEnd e u = u := by unfold grantE grantEnd; rw [if_neg h1, if_neg h1, if_pos h2]; exact ⟨rfl, rfl⟩
      have e2 : extendE e u = 0 ∧ extendEnd e u = u := by unfold extendE extendEnd; rw [if_neg (by omega), if_neg (by omega)]; exact ⟨rfl, rfl⟩
      have E1 := Lib.hid e1
      have E2 := Lib.hid e2
      clear e1 e2 h1
      go_enter Try.func10, Try.ntmps10
      go_wp2_with (first | (go_at_call 28; refine (check_any g b r l e s 0 _ OK.out HR.out).mono ?_; rintro en w1 ⟨rfl, rfl⟩; rw [C.out]) | (go_at_call 29; refine (end_any b r l e _ OK.out.r0 HR.out.al).mono ?_; rintro en w1 ⟨rfl, rfl⟩) | (go_at_call 30; refine (extend_any b r l e u _ OK.out.r0 HR.out.al).mono ?_; rintro en w1 ⟨rfl, HA, HG⟩; rw [E2.out.1]; rw [E2.out.2] at HA; have V := Lib.hid (And.intro HA HG); clear HA HG))
      go_ret
      exact FIN.out _ _ _ E1.out.1 E1.out.2 (HR.out.turn V.out.1 V.out.2) V.out.2
    · have e1 : grantE u = 0 ∧ grantEnd e u = e := by unfold grantE grantEnd; rw [if_neg h1, if_neg h1, if_neg h2]; exact ⟨rfl, rfl⟩
      have E1 := Lib.hid e1
      clear e1 h1
      go_enter Try.func10, Try.ntmps10
      go_wp2_with (first | (go_at_call 28; refine (check_any g b r l e s 0 _ OK.out HR.out).mono ?_; rintro en w1 ⟨rfl, rfl⟩; rw [C.out]) | (go_at_call 29; refine (end_any b r l e _ OK.out.r0 HR.out.al).mono ?_; rintro en w1 ⟨rfl, rfl⟩))
      go_ret
      exact FIN.out _ _ _ E1.out.1 E1.out.2 HR.out (grown_refl _ _)

def RsCopyP (r l e s : Int) (w : World) (en : Ending) (w' : World) : Prop :=
  ∃ g' b', en = .returned (.pointer (some ⟨g', 0, none⟩)) ∧ w.heap.size ≤ g' ∧ w.heap.size ≤ b' ∧ Rs w' g' b' r l e s ∧ Below w.heap.size w w'
theorem rs_new {w1 : World} {b : Nat} {r l e s : Int} (ha : Al w1 b r l e) : Rs (w1.alloc (.cells #[.pointer (some ⟨b, 0, none⟩), .int .i64 s] 55)) w1.heap.size b r l e s :=
  ⟨blk_new w1 _, ha.below (below_alloc (Below.refl _ _) _), Nat.ne_of_gt ha.lt⟩
set_option maxHeartbeats 1000000 in
theorem rscopy_any (g b : Nat) (r l e s : Int) (w : World) (ok : RsOk r l e s) (h : Rs w g b r l e s) :
    Calls Try.prog 25 #[.pointer (some ⟨g, 0, none⟩)] w (RsCopyP r l e s w) := by
  have hc0 := h.c0
  have hc1 := h.c1
  have hl := ok.l0
  have hle := ok.le
  have he := ok.e1
  have OK := Lib.hid ok
  have HR := Lib.hid h
  have c0 : chk l 0 = 0 := by unfold chk; rw [if_neg (by omega), if_neg (by omega)]
  have C := Lib.hid c0
  clear h ok c0
  go_enter Try.func25, Try.ntmps25
  go_wp2_with (go_at_call 28; refine (check_any g b r l e s 0 _ OK.out HR.out).mono ?_; rintro en w1 ⟨rfl, rfl⟩; rw [C.out])
  go_region_with (go_at_call 32; refine (copy_any b r l e w.drew OK.out.r0 (rs_drew HR.out).al).mono ?_; rintro en v1 ⟨b2, rfl, hb2, HA2, hb1⟩; have H1 := Lib.hid ((rs_drew HR.out).below hb1); have hc0 := H1.out.c0; have hc1 := H1.out.c1; have S := Lib.hid (And.intro hb2 (And.intro HA2 hb1)); clear hb2 HA2 hb1)
  all_goals
    go_wp2
    go_ret
    have s1 : w.heap.size ≤ v1.heap.size := S.out.2.2.size
    exact ⟨v1.heap.size, b2, rfl, s1, S.out.1, rs_new S.out.2.1, below_alloc (below_step (below_drew (Below.refl _ _)) S.out.2.2) _⟩

def rvalid (r l s : Int) : Bool := validB r l l && decide (1 ≤ s) && decide (s ≤ 1048576)
theorem rvalid_ok {r l s : Int} (h : rvalid r l s = true) : RsOk r l l s ∧ validB r l l = true := by
  simp only [rvalid, Bool.and_eq_true, decide_eq_true_eq] at h
  obtain ⟨⟨h1, h2⟩, h3⟩ := h
  have hv := h1
  simp only [validB, Bool.and_eq_true, decide_eq_true_eq] at h1
  obtain ⟨⟨⟨⟨q1, q2⟩, q3⟩, q4⟩, q5⟩ := h1
  exact ⟨⟨beq_eq_false_iff_ne.2 (by omega), q1, q2, q3, q4, q5, beq_eq_false_iff_ne.2 (by omega), h2, h3⟩, hv⟩
theorem new_yes (r l e : Int) (w : World) (h : validB r l e = true) : Calls Try.prog 27 #[.int .i64 r, .int .i64 l, .int .i64 e] w fun en w' =>
    ∃ b, en = .returned (.tuple #[.pointer (some ⟨b, 0, none⟩), .int .i64 0]) ∧ w.heap.size ≤ b ∧ Al w' b r l e ∧ Below w.heap.size w w' :=
  (new_any r l e w).mono fun en w' hp => by
    rcases hp with ⟨_, hp⟩ | ⟨h1, _⟩
    · exact hp
    · rw [h] at h1; cases h1
theorem new_no (r l e : Int) (w : World) (h : validB r l e = false) : Calls Try.prog 27 #[.int .i64 r, .int .i64 l, .int .i64 e] w fun en w' =>
    en = .returned (.tuple #[.pointer none, .int .i64 2]) ∧ Below w.heap.size w w' :=
  (new_any r l e w).mono fun en w' hp => by
    rcases hp with ⟨h1, _⟩ | ⟨_, hp⟩
    · rw [h] at h1; cases h1
    · exact hp
def RsNewP (r l s : Int) (w : World) (en : Ending) (w' : World) : Prop :=
  ∃ g b, en = .returned (.tuple #[.pointer (some ⟨g, 0, none⟩), .int .i64 0]) ∧ w.heap.size ≤ g ∧ w.heap.size ≤ b ∧ Rs w' g b r l l s ∧ Below w.heap.size w w'
set_option maxHeartbeats 1000000 in
theorem rsnew_yes (r l s : Int) (w : World) (h : rvalid r l s = true) : Calls Try.prog 9 #[.int .i64 r, .int .i64 l, .int .i64 s] w (RsNewP r l s w) := by
  obtain ⟨ok, hv⟩ := rvalid_ok h
  have hs1 := ok.s1
  have hs2 := ok.s2
  have HV := Lib.hid hv
  clear h hv ok
  go_enter Try.func9, Try.ntmps9
  go_wp2_with (go_at_call 27; refine (new_yes r l l _ HV.out).mono ?_; rintro en v1 ⟨b, rfl, hb, HA, hb1⟩; have S := Lib.hid (And.intro hb (And.intro HA hb1)); clear hb HA hb1)
  go_ret2
  exact ⟨v1.heap.size, b, rfl, S.out.2.2.size, S.out.1, rs_new S.out.2.1, below_alloc S.out.2.2 _⟩
set_option maxHeartbeats 1000000 in
theorem rsnew_no (r l s : Int) (w : World) (h : rvalid r l s = false) : Calls Try.prog 9 #[.int .i64 r, .int .i64 l, .int .i64 s] w fun en w' => en = .returned (.tuple #[.pointer none, .int .i64 2]) ∧ Below w.heap.size w w' := by
  cases hv : validB r l l with
  | false =>
    have HV := Lib.hid hv
    clear h hv
    go_enter Try.func9, Try.ntmps9
    go_wp2_with (go_at_call 27; refine (new_no r l l _ HV.out).mono ?_; rintro en v1 ⟨rfl, hb1⟩; have S := Lib.hid hb1; clear hb1)
    go_ret2
    exact ⟨rfl, S.out⟩
  | true =>
    have hs : s < 1 ∨ 1048576 < s := by
      by_cases q : 1 ≤ s ∧ s ≤ 1048576
      · rw [rvalid, hv, decide_eq_true q.1, decide_eq_true q.2] at h; cases h
      · omega
    have HV := Lib.hid hv
    clear h hv
    rcases hs with hs | hs
    · go_enter Try.func9, Try.ntmps9
      go_wp2_with (go_at_call 27; refine (new_yes r l l _ HV.out).mono ?_; rintro en v1 ⟨b, rfl, hb, HA, hb1⟩; have S := Lib.hid hb1; clear hb HA hb1)
      go_ret2
      exact ⟨rfl, S.out⟩
    · go_enter Try.func9, Try.ntmps9
      go_wp2_with (go_at_call 27; refine (new_yes r l l _ HV.out).mono ?_; rintro en v1 ⟨b, rfl, hb, HA, hb1⟩; have S := Lib.hid hb1; clear hb HA hb1)
      go_ret2
      exact ⟨rfl, S.out⟩
end Go.Proofs.Ytnkblfokfmbbhaa.Al
