/- What the other methods of an allocator do: contracts of package alloc's functions, nil and zero allocators among them. -/
import Derived.Test.YthbngkaajhbdjaaAl
namespace Go.Proofs.Ythbngkaajhbdjaa.Al
open Go.RowKit Go.Proofs Go.Proofs.YthbngkaajhbdjaaW.PrintWords Go.Proofs.Ythbngkaajhbdjaa.Kit

set_option maxHeartbeats 400000 in
theorem replica_any (b : Nat) (r l e : Int) (w : World) (h : Al w b r l e) :
    Calls Try.prog 26 #[.pointer (some ⟨b, 0, none⟩)] w fun en w' => en = .returned (.int .i64 r) ∧ w = w' := by
  have hc0 := h.c0
  have hc1 := h.c1
  have hc2 := h.c2
  by_cases hr : r = 0
  · subst hr
    go_enter Try.func26, Try.ntmps26
    go_wp2
    go_ret
    exact ⟨rfl, rfl⟩
  · have hr1 : (r == 0) = false := beq_eq_false_iff_ne.2 hr
    clear hr
    go_enter Try.func26, Try.ntmps26
    go_wp2
    go_ret
    exact ⟨rfl, rfl⟩
set_option maxHeartbeats 400000 in
theorem last_any (b : Nat) (r l e : Int) (w : World) (hr : (r == 0) = false) (h : Al w b r l e) :
    Calls Try.prog 11 #[.pointer (some ⟨b, 0, none⟩)] w fun en w' => en = .returned (.int .i64 l) ∧ w = w' := by
  have hc0 := h.c0
  have hc1 := h.c1
  go_enter Try.func11, Try.ntmps11
  go_wp2
  go_ret
  exact ⟨rfl, rfl⟩
set_option maxHeartbeats 400000 in
theorem end_any (b : Nat) (r l e : Int) (w : World) (hr : (r == 0) = false) (h : Al w b r l e) :
    Calls Try.prog 22 #[.pointer (some ⟨b, 0, none⟩)] w fun en w' => en = .returned (.int .i64 e) ∧ w = w' := by
  have hc0 := h.c0
  have hc2 := h.c2
  go_enter Try.func22, Try.ntmps22
  go_wp2
  go_ret
  exact ⟨rfl, rfl⟩
set_option maxHeartbeats 400000 in
theorem left_any (b : Nat) (r l e : Int) (w : World) (hr : (r == 0) = false) (h : Al w b r l e) (hl : 0 ≤ l) (hle : l ≤ e) (he : e ≤ 4294967295) :
    Calls Try.prog 12 #[.pointer (some ⟨b, 0, none⟩)] w fun en w' => en = .returned (.int .i64 (e - l)) ∧ w = w' := by
  have hc0 := h.c0
  have hc1 := h.c1
  have hc2 := h.c2
  go_enter Try.func12, Try.ntmps12
  go_wp2
  go_ret
  exact ⟨rfl, rfl⟩

def extendE (e n : Int) : Int := if n < e ∨ 4294967295 < n then 2 else 0
def extendEnd (e n : Int) : Int := if n < e ∨ 4294967295 < n then e else n
def ExtendP (b : Nat) (r l e n : Int) (w : World) (en : Ending) (w' : World) : Prop :=
  en = .returned (.int .i64 (extendE e n)) ∧ Al w' b r l (extendEnd e n) ∧ w.grownBy w' (some b)
set_option maxHeartbeats 400000 in
theorem extend_any (b : Nat) (r l e n : Int) (w : World) (hr : (r == 0) = false) (h : Al w b r l e) :
    Calls Try.prog 20 #[.pointer (some ⟨b, 0, none⟩), .int .i64 n] w (ExtendP b r l e n w) := by
  have hc0 := h.c0
  have hc2 := h.c2
  have hf2 := h.f 2
  have no : n < e ∨ 4294967295 < n → ExtendP b r l e n w (.returned (.int .i64 2)) w := fun h1 =>
    ⟨by unfold extendE; rw [if_pos h1], by unfold extendEnd; rw [if_pos h1]; exact h, grown_refl _ _⟩
  have yes : ¬ (n < e ∨ 4294967295 < n) → ExtendP b r l e n w (.returned (.int .i64 0)) (w.setCell ⟨b, 2, none⟩ (.int .i64 n)) := fun h1 =>
    ⟨by unfold extendE; rw [if_neg h1], by unfold extendEnd; rw [if_neg h1]; exact h.set2 n, grown_set _ _ _ _⟩
  have NO := Lib.hid no
  have YES := Lib.hid yes
  clear no yes
  go_enter Try.func20, Try.ntmps20
  go_wp2
  all_goals go_ret
  all_goals first
  | exact YES.out (by omega)
  | exact NO.out (by omega)

def passE (e n : Int) : Int := if n < 0 then 2 else if e < n then 3 else 0
def passLast (l e n : Int) : Int := if n < 0 then l else if e < n then l else if l < n then n else l
def PassP (b : Nat) (r l e n : Int) (w : World) (en : Ending) (w' : World) : Prop :=
  en = .returned (.int .i64 (passE e n)) ∧ Al w' b r (passLast l e n) e ∧ w.grownBy w' (some b)
set_option maxHeartbeats 400000 in
theorem pass_any (b : Nat) (r l e n : Int) (w : World) (hr : (r == 0) = false) (h : Al w b r l e) :
    Calls Try.prog 21 #[.pointer (some ⟨b, 0, none⟩), .int .i64 n] w (PassP b r l e n w) := by
  have hc0 := h.c0
  have hc1 := h.c1
  have hc2 := h.c2
  have hf1 := h.f 1
  have no1 : n < 0 → PassP b r l e n w (.returned (.int .i64 2)) w := fun h1 =>
    ⟨by unfold passE; rw [if_pos h1], by unfold passLast; rw [if_pos h1]; exact h, grown_refl _ _⟩
  have no2 : ¬ n < 0 → e < n → PassP b r l e n w (.returned (.int .i64 3)) w := fun h1 h2 =>
    ⟨by unfold passE; rw [if_neg h1, if_pos h2], by unfold passLast; rw [if_neg h1, if_pos h2]; exact h, grown_refl _ _⟩
  have yes : ∀ x : Int, ¬ n < 0 → ¬ e < n → x = (if l < n then n else l) → PassP b r l e n w (.returned (.int .i64 0)) (w.setCell ⟨b, 1, none⟩ (.int .i64 x)) := fun x h1 h2 h3 =>
    ⟨by unfold passE; rw [if_neg h1, if_neg h2], by unfold passLast; rw [if_neg h1, if_neg h2, ← h3]; exact h.set1 x, grown_set _ _ _ _⟩
  have NO1 := Lib.hid no1
  have NO2 := Lib.hid no2
  have YES := Lib.hid yes
  clear no1 no2 yes
  go_enter Try.func21, Try.ntmps21
  go_wp2
  all_goals go_ret
  all_goals first
  | exact YES.out _ (by omega) (by omega) (by first | rfl | (split <;> omega))
  | exact NO1.out (by omega)
  | exact NO2.out (by omega) (by omega)

def CopyP (r l e : Int) (w : World) (en : Ending) (w' : World) : Prop :=
  ∃ b', en = .returned (.pointer (some ⟨b', 0, none⟩)) ∧ w.heap.size ≤ b' ∧ Al w' b' r l e ∧ Below w.heap.size w w'
set_option maxHeartbeats 400000 in
theorem copy_any (b : Nat) (r l e : Int) (w : World) (hr : (r == 0) = false) (h : Al w b r l e) :
    Calls Try.prog 18 #[.pointer (some ⟨b, 0, none⟩)] w (CopyP r l e w) := by
  have hc0 := h.c0
  have hc1 := h.c1
  have hc2 := h.c2
  have hlt := h.lt
  have yes : CopyP r l e w (.returned (.pointer (some ⟨w.heap.size, 0, none⟩))) (w.alloc (.cells #[.int .i64 r, .int .i64 l, .int .i64 e] 54)) :=
    ⟨_, rfl, Nat.le_refl _, blk_new w _, below_alloc (Below.refl _ _) _⟩
  have YES := Lib.hid yes
  clear yes
  go_enter Try.func18, Try.ntmps18
  go_wp2
  go_ret
  exact YES.out

/-- One dot in a row of the call's own. -/
theorem own_dot {w : World} {base : Nat} {ok : Nat → Prop} {v : Value} {xs : List (Int × Int)} (h : d32.R 32 w base ok v xs) (i : Nat) (hi : i < xs.length) :
    ∃ g cap, v = .slice (some ⟨g, 0, none⟩) xs.length cap ∧ base ≤ g ∧ w.cell? ⟨g, i * 2, none⟩ = some (.int .i64 xs[i].1) ∧ w.cell? ⟨g, i * 2 + 1, none⟩ = some (.int .i64 xs[i].2) := by
  obtain ⟨inner, ho⟩ := Kd.R_own h
  obtain ⟨g, cap, rfl, hg, _⟩ := World.ownsRow.form ho (by omega)
  obtain ⟨_, _, hC⟩ := Kd.R_reads' h
  obtain ⟨ad, c, e, hl, hK, hc⟩ := Kd.C_get hC (0, 0) (i : Int) (by omega) (by omega)
  injection e with e
  subst e
  obtain ⟨c0, c1, rfl, h0, h1⟩ := hK
  rw [Int.toNat_natCast] at hc h0 h1
  have e1 : xs.getD i (0, 0) = xs[i] := by rw [List.getD_eq_getElem?_getD, List.getElem?_eq_getElem hi]; rfl
  rw [e1] at h0 h1
  have h0' : c0 = [.int .i64 xs[i].1] := h0
  have h1' : c1 = [.int .i64 xs[i].2] := h1
  subst h0'
  subst h1'
  have q0 := hc 0 _ rfl
  have q1 := hc 1 _ rfl
  simp only [show d32.sz = 2 from rfl, add_plain] at q0 q1
  exact ⟨g, cap, rfl, hg, q0, q1⟩

def TakeOneP (b : Nat) (r l e : Int) (w : World) (en : Ending) (w' : World) : Prop :=
  ∃ g cap, en = .returned (.tuple #[.slice (some ⟨g, 0, none⟩) 1 cap, .int .i64 0]) ∧ w'.cell? ⟨g, 0, none⟩ = some (.int .i64 r) ∧ w'.cell? ⟨g, 1, none⟩ = some (.int .i64 (l + 1)) ∧ w.heap.size ≤ g ∧ Al w' b r (l + 1) e ∧ w.grownBy w' (some b)
theorem take_one (b : Nat) (r l e : Int) (w : World) (hr : (r == 0) = false) (h : Al w b r l e) (hl : 0 ≤ l) (hle : l < e) (he : e ≤ 4294967295) :
    Calls Try.prog 10 #[.pointer (some ⟨b, 0, none⟩), .int .i64 1] w (TakeOneP b r l e w) := by
  refine (take_any b r l e 1 w hr h hl (by omega) he).mono ?_
  rintro en w1 ⟨v, rfl, HR, HA, HG⟩
  have e1 : takeE l e 1 = 0 := by unfold takeE; rw [if_neg (by omega), if_neg (by omega)]
  have e2 : takeN l e 1 = 1 := by unfold takeN; rw [if_neg (by omega), if_neg (by omega)]; rfl
  rw [e2] at HR HA
  have e3 : dots r l 1 = [(r, l + 1)] := by simp [dots]
  rw [e3] at HR
  obtain ⟨g, cap, rfl, hg, q0, q1⟩ := own_dot HR 0 (by simp)
  exact ⟨g, cap, by rw [e1]; rfl, q0, q1, hg, HA, HG⟩
def TakeNoneP (b : Nat) (r l e : Int) (w : World) (en : Ending) (w' : World) : Prop :=
  ∃ v, en = .returned (.tuple #[v, .int .i64 14]) ∧ Al w' b r l e ∧ w.grownBy w' (some b)
theorem take_none (b : Nat) (r l e : Int) (w : World) (hr : (r == 0) = false) (h : Al w b r l e) (hl : 0 ≤ l) (hle : l = e) (he : e ≤ 4294967295) :
    Calls Try.prog 10 #[.pointer (some ⟨b, 0, none⟩), .int .i64 1] w (TakeNoneP b r l e w) := by
  refine (take_any b r l e 1 w hr h hl (by omega) he).mono ?_
  rintro en w1 ⟨v, rfl, HR, HA, HG⟩
  have e1 : takeE l e 1 = 14 := by unfold takeE; rw [if_neg (by omega), if_pos (by omega)]
  have e2 : takeN l e 1 = 0 := by unfold takeN; rw [if_neg (by omega), if_pos (by omega)]
  rw [e2] at HA
  exact ⟨v, by rw [e1], by simpa using HA, HG⟩

def nextE (l e : Int) : Int := if l < e then 0 else 14
def nextLast (l e : Int) : Int := if l < e then l + 1 else l
def NextP (b : Nat) (r l e : Int) (w : World) (en : Ending) (w' : World) : Prop :=
  en = .returned (.tuple #[.agg #[.int .i64 (if l < e then r else 0), .int .i64 (if l < e then l + 1 else 0)], .int .i64 (nextE l e)]) ∧ Al w' b r (nextLast l e) e ∧ w.grownBy w' (some b)
set_option maxHeartbeats 400000 in
theorem next_any (b : Nat) (r l e : Int) (w : World) (hr : (r == 0) = false) (h : Al w b r l e) (hl : 0 ≤ l) (hle : l ≤ e) (he : e ≤ 4294967295) :
    Calls Try.prog 23 #[.pointer (some ⟨b, 0, none⟩)] w (NextP b r l e w) := by
  have hlt := h.lt
  have HA := Lib.hid h
  clear h
  by_cases hc : l < e
  · have fin : ∀ w', Al w' b r (l + 1) e → w.grownBy w' (some b) → NextP b r l e w (.returned (.tuple #[.agg #[.int .i64 r, .int .i64 (l + 1)], .int .i64 0])) w' := fun w' h1 h2 =>
      ⟨by unfold nextE; rw [if_pos hc, if_pos hc, if_pos hc], by unfold nextLast; rw [if_pos hc]; exact h1, h2⟩
    have FIN := Lib.hid fin
    clear fin
    go_enter Try.func23, Try.ntmps23
    go_wp2_with (first | (((with_reducible refine gate_dst (N := 2) rfl ?_); refine box_event rfl (N := 2) rfl (cs := #[.int .i64 0, .int .i64 0]) (t := 32) ?hr ?_; (case hr => first | (go_simp; done) | (go_simp; rfl)); intro g hg w5 hbox hb; have HB5 := Lib.hid hb; have HX5 := Lib.hid hbox; have HG5 := Lib.hid hg; clear hb hbox hg)) | (go_at_call 10; refine (take_one b r l e _ hr (HA.out.below HB5.out) hl hc he).mono ?_; rintro en w1 ⟨g1, cap, rfl, q0, q1, hg1, HA1, HG1⟩; have hgb : some g ≠ some b := (by rw [HG5.out]; intro e; injection e with e; omega); have hbx := blk_grown HX5.out HG1 hgb; have hf0 := blk_frozen hbx 0; have hf1 := blk_frozen hbx 1; have p0 := (blk_cell hbx 0).trans rfl; have p1 := (blk_cell hbx 1).trans rfl; have HX1 := Lib.hid hbx; have HA1 := Lib.hid HA1; have HG1 := Lib.hid HG1; clear hbx))
    have hgw : w.heap.size ≤ g := by rw [HG5.out]; exact Nat.le_refl _
    have hg2 : w.grownBy w1 (some b) := grown_then (below_grown HB5.out _) HG1.out (fun j hj => Or.inr rfl)
    refine bodyPost_ret (results_ct rfl _ _ g 32 #[.int .i64 r, .int .i64 (l + 1)] (0, 0) _ rfl (blk_put (cs := #[.int .i64 r, .int .i64 0]) (blk_put HX1.out 0 _ rfl) 1 _ rfl) Try.underlying32 rfl (by kernel_rfl)) rfl ?_
    refine FIN.out _ ?_ ?_
    · exact ((HA1.out.grown (grown_set w1 g 0 _) (fun e => hgb e.symm)).grown (grown_set _ g 1 _) (fun e => hgb e.symm))
    · exact grown_then (grown_then hg2 (grown_set w1 g 0 _) (fun j hj => Or.inl (by injection hj with hj; omega))) (grown_set _ g 1 _) (fun j hj => Or.inl (by injection hj with hj; omega))
  · have hle2 : l = e := by omega
    have fin : ∀ w', Al w' b r l e → w.grownBy w' (some b) → NextP b r l e w (.returned (.tuple #[.agg #[.int .i64 0, .int .i64 0], .int .i64 14])) w' := fun w' h1 h2 =>
      ⟨by unfold nextE; rw [if_neg hc, if_neg hc, if_neg hc], by unfold nextLast; rw [if_neg hc]; exact h1, h2⟩
    have FIN := Lib.hid fin
    have HLE := Lib.hid hle2
    clear fin hc hle hle2
    go_enter Try.func23, Try.ntmps23
    go_wp2_with (first | (((with_reducible refine gate_dst (N := 2) rfl ?_); refine box_event rfl (N := 2) rfl (cs := #[.int .i64 0, .int .i64 0]) (t := 32) ?hr ?_; (case hr => first | (go_simp; done) | (go_simp; rfl)); intro g hg w5 hbox hb; have HB5 := Lib.hid hb; have HX5 := Lib.hid hbox; have HG5 := Lib.hid hg; clear hb hbox hg)) | (go_at_call 10; refine (take_none b r l e _ hr (HA.out.below HB5.out) hl HLE.out he).mono ?_; rintro en w1 ⟨v, rfl, HA1, HG1⟩; have hgb : some g ≠ some b := (by rw [HG5.out]; intro e; injection e with e; omega); have hbx := blk_grown HX5.out HG1 hgb; have hf0 := blk_frozen hbx 0; have hf1 := blk_frozen hbx 1; have p0 := (blk_cell hbx 0).trans rfl; have p1 := (blk_cell hbx 1).trans rfl; have HX1 := Lib.hid hbx; have HA1 := Lib.hid HA1; have HG1 := Lib.hid HG1; clear hbx))
    have hgw : w.heap.size ≤ g := by rw [HG5.out]; exact Nat.le_refl _
    have hg2 : w.grownBy w1 (some b) := grown_then (below_grown HB5.out _) HG1.out (fun j hj => Or.inr rfl)
    refine bodyPost_ret (results_ct rfl _ _ g 32 #[.int .i64 0, .int .i64 0] (0, 0) _ rfl (blk_put (cs := #[.int .i64 0, .int .i64 0]) (blk_put HX1.out 0 _ rfl) 1 _ rfl) Try.underlying32 rfl (by kernel_rfl)) rfl ?_
    refine FIN.out _ ?_ ?_
    · exact ((HA1.out.grown (grown_set w1 g 0 _) (fun e => hgb e.symm)).grown (grown_set _ g 1 _) (fun e => hgb e.symm))
    · exact grown_then (grown_then hg2 (grown_set w1 g 0 _) (fun j hj => Or.inl (by injection hj with hj; omega))) (grown_set _ g 1 _) (fun j hj => Or.inl (by injection hj with hj; omega))
end Go.Proofs.Ythbngkaajhbdjaa.Al
