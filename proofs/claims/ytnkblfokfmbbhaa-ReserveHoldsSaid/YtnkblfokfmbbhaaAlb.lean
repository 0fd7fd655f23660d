/- What the other methods of an allocator do: contracts of package alloc's functions, nil and zero allocators among them. -/
import Derived.Test.YtnkblfokfmbbhaaAl
namespace Go.Proofs.Ytnkblfokfmbbhaa.Al
open Go.RowKit Go.Proofs Go.Proofs.YtnkblfokfmbbhaaW.PrintWords Go.Proofs.Ytnkblfokfmbbhaa.Kit

set_option maxHeartbeats 400000 in
theorem replica_any (b : Nat) (r l e : Int) (w : World) (h : Al w b r l e) :
    Calls Try.prog 35 #[.pointer (some ⟨b, 0, none⟩)] w fun en w' => en = .returned (.int .i64 r) ∧ w = w' := by
  have hc0 := h.c0
  have hc1 := h.c1
  have hc2 := h.c2
  by_cases hr : r = 0
  · subst hr
    go_enter Try.func35, Try.ntmps35
    go_wp2
    go_ret
    exact ⟨rfl, rfl⟩
  · have hr1 : (r == 0) = false := beq_eq_false_iff_ne.2 hr
    clear hr
    go_enter Try.func35, Try.ntmps35
    go_wp2
    go_ret
    exact ⟨rfl, rfl⟩
set_option maxHeartbeats 400000 in
theorem last_any (b : Nat) (r l e : Int) (w : World) (hr : (r == 0) = false) (h : Al w b r l e) :
    Calls Try.prog 31 #[.pointer (some ⟨b, 0, none⟩)] w fun en w' => en = .returned (.int .i64 l) ∧ w = w' := by
  have hc0 := h.c0
  have hc1 := h.c1
  go_enter Try.func31, Try.ntmps31
  go_wp2
  go_ret
  exact ⟨rfl, rfl⟩
set_option maxHeartbeats 400000 in
theorem end_any (b : Nat) (r l e : Int) (w : World) (hr : (r == 0) = false) (h : Al w b r l e) :
    Calls Try.prog 29 #[.pointer (some ⟨b, 0, none⟩)] w fun en w' => en = .returned (.int .i64 e) ∧ w = w' := by
  have hc0 := h.c0
  have hc2 := h.c2
  go_enter Try.func29, Try.ntmps29
  go_wp2
  go_ret
  exact ⟨rfl, rfl⟩
set_option maxHeartbeats 400000 in
theorem left_any (b : Nat) (r l e : Int) (w : World) (hr : (r == 0) = false) (h : Al w b r l e) (hl : 0 ≤ l) (hle : l ≤ e) (he : e ≤ 4294967295) :
    Calls Try.prog 38 #[.pointer (some ⟨b, 0, none⟩)] w fun en w' => en = .returned (.int .i64 (e - l)) ∧ w = w' := by
  have hc0 := h.c0
  have hc1 := h.c1
  have hc2 := h.c2
  go_enter Try.func38, Try.ntmps38
  go_wp2
  go_ret
  exact ⟨rfl, rfl⟩

def extendE (e n : Int) : Int := if n < e ∨ 4294967295 < n then 2 else 0
def extendEnd (e n : Int) : Int := if n < e ∨ 4294967295 < n then e else n
def ExtendP (b : Nat) (r l e n : Int) (w : World) (en : Ending) (w' : World) : Prop :=
  en = .returned (.int .i64 (extendE e n)) ∧ Al w' b r l (extendEnd e n) ∧ w.grownBy w' (some b)
set_option maxHeartbeats 400000 in
theorem extend_any (b : Nat) (r l e n : Int) (w : World) (hr : (r == 0) = false) (h : Al w b r l e) :
    Calls Try.prog 30 #[.pointer (some ⟨b, 0, none⟩), .int .i64 n] w (ExtendP b r l e n w) := by
  have hc0 := h.c0
  have hc2 := h.c2
  have hf2 := h.f 2
  have no : n < e ∨ 4294967295 < n → ExtendP b r l e n w (.returned (.int .i64 2)) w := fun h1 =>
    ⟨by unfold extendE; rw [if_pos h1], by unfold extendEnd; rw [if_pos h1]; exact h, grown_refl _ _⟩
  have yes : ¬ (n < e ∨ 4294967295 < n) → ExtendP b r l e n w (.returned (.int .i64 0)) (w.setCell ⟨b, 2, none⟩ (.int .i64 n)) := fun h1 =>
    ⟨by unfold extendE; rw [if_neg h1], by unfold extendEnd; rw [if_neg h1]; exact h.set2 n, grown_set _ _ _ _⟩
  have NO := Lib.hid no
  have YES := Lib.hid yes
  clear no yes
  go_enter Try.func30, Try.ntmps30
  go_wp2
  all_goals go_ret
  all_goals first
  | exact YES.out (by omega)
  | exact NO.out (by omega)

def CopyP (r l e : Int) (w : World) (en : Ending) (w' : World) : Prop :=
  ∃ b', en = .returned (.pointer (some ⟨b', 0, none⟩)) ∧ w.heap.size ≤ b' ∧ Al w' b' r l e ∧ Below w.heap.size w w'
set_option maxHeartbeats 400000 in
theorem copy_any (b : Nat) (r l e : Int) (w : World) (hr : (r == 0) = false) (h : Al w b r l e) :
    Calls Try.prog 32 #[.pointer (some ⟨b, 0, none⟩)] w (CopyP r l e w) := by
  have hc0 := h.c0
  have hc1 := h.c1
  have hc2 := h.c2
  have hlt := h.lt
  have yes : CopyP r l e w (.returned (.pointer (some ⟨w.heap.size, 0, none⟩))) (w.alloc (.cells #[.int .i64 r, .int .i64 l, .int .i64 e] 65)) :=
    ⟨_, rfl, Nat.le_refl _, blk_new w _, below_alloc (Below.refl _ _) _⟩
  have YES := Lib.hid yes
  clear yes
  go_enter Try.func32, Try.ntmps32
  go_wp2
  go_ret
  exact YES.out

/-- One dot in a row of the call's own. -/
theorem own_dot {w : World} {base : Nat} {ok : Nat → Prop} {v : Value} {xs : List (Int × Int)} (h : d32.R 34 w base ok v xs) (i : Nat) (hi : i < xs.length) :
    ∃ g cap, v = .slice (some ⟨g, 0, none⟩) xs.length cap ∧ base ≤ g ∧ w.cell? ⟨g, i * 2, none⟩ = some (.int .i64 xs[i].1) ∧ w.cell? ⟨g, i * 2 + 1, none⟩ = some (.int .i64 xs[i].2) := by
  obtain ⟨inner, ho⟩ := Kd.R_own h
  obtain ⟨g, cap, rfl, hg, _⟩ := World.ownsRow.form ho (by omega)
  obtain ⟨_, _, hC⟩ := Kd.R_reads' h
  obtain ⟨ad, c, e, hl, hK, hc⟩ := Kd.C_get hC (0, 0) (i : Int) (by omega) (by omega)
  injection e with e
  subst e
  obtain ⟨c0, c1, rfl, h0, h1⟩ := hK
  rw [Int.toNat_natCast] at hc h0 h1
  have e1 : xs.getD i (0, 0) = xs[i] := by rw [List.getD_eq_getElem?_getD, List.getElem?_eq_getElem hi]; rfl
  rw [e1] at h0 h1
  have h0' : c0 = [.int .i64 xs[i].1] := h0
  have h1' : c1 = [.int .i64 xs[i].2] := h1
  subst h0'
  subst h1'
  have q0 := hc 0 _ rfl
  have q1 := hc 1 _ rfl
  simp only [show d32.sz = 2 from rfl, add_plain] at q0 q1
  exact ⟨g, cap, rfl, hg, q0, q1⟩

def TakeOneP (b : Nat) (r l e : Int) (w : World) (en : Ending) (w' : World) : Prop :=
  ∃ g cap, en = .returned (.tuple #[.slice (some ⟨g, 0, none⟩) 1 cap, .int .i64 0]) ∧ w'.cell? ⟨g, 0, none⟩ = some (.int .i64 r) ∧ w'.cell? ⟨g, 1, none⟩ = some (.int .i64 (l + 1)) ∧ w.heap.size ≤ g ∧ Al w' b r (l + 1) e ∧ w.grownBy w' (some b)
theorem take_one (b : Nat) (r l e : Int) (w : World) (hr : (r == 0) = false) (h : Al w b r l e) (hl : 0 ≤ l) (hle : l < e) (he : e ≤ 4294967295) :
    Calls Try.prog 33 #[.pointer (some ⟨b, 0, none⟩), .int .i64 1] w (TakeOneP b r l e w) := by
  refine (take_any b r l e 1 w hr h hl (by omega) he).mono ?_
  rintro en w1 ⟨v, rfl, HR, HA, HG⟩
  have e1 : takeE l e 1 = 0 := by unfold takeE; rw [if_neg (by omega), if_neg (by omega)]
  have e2 : takeN l e 1 = 1 := by unfold takeN; rw [if_neg (by omega), if_neg (by omega)]; rfl
  rw [e2] at HR HA
  have e3 : dots r l 1 = [(r, l + 1)] := by simp [dots]
  rw [e3] at HR
  obtain ⟨g, cap, rfl, hg, q0, q1⟩ := own_dot HR 0 (by simp)
  exact ⟨g, cap, by rw [e1]; rfl, q0, q1, hg, HA, HG⟩
def TakeNoneP (b : Nat) (r l e : Int) (w : World) (en : Ending) (w' : World) : Prop :=
  ∃ v, en = .returned (.tuple #[v, .int .i64 14]) ∧ Al w' b r l e ∧ w.grownBy w' (some b)
theorem take_none (b : Nat) (r l e : Int) (w : World) (hr : (r == 0) = false) (h : Al w b r l e) (hl : 0 ≤ l) (hle : l = e) (he : e ≤ 4294967295) :
    Calls Try.prog 33 #[.pointer (some ⟨b, 0, none⟩), .int .i64 1] w (TakeNoneP b r l e w) := by
  refine (take_any b r l e 1 w hr h hl (by omega) he).mono ?_
  rintro en w1 ⟨v, rfl, HR, HA, HG⟩
  have e1 : takeE l e 1 = 14 := by unfold takeE; rw [if_neg (by omega), if_pos (by omega)]
  have e2 : takeN l e 1 = 0 := by unfold takeN; rw [if_neg (by omega), if_pos (by omega)]
  rw [e2] at HA
  exact ⟨v, by rw [e1], by simpa using HA, HG⟩

end Go.Proofs.Ytnkblfokfmbbhaa.Al
