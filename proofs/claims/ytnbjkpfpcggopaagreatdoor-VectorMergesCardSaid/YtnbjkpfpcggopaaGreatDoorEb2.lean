/- Version vectors, walks: IndexFunc and ContainsFunc over dots, vector.Get, vector.Valid. Printed by wip/tools/mkec.py out of layer 17's walks. -/
/- Version vectors: the order of replicas as the sort asks for it. -/
/- Version vectors, plain law: what the reference's printed functions compute. -/
/- Version vectors, walks: Text. -/
import Derived.Test.YtnbjkpfpcggopaaGreatDoorEb1
import Derived.Test.YtnbjkpfpcggopaaGreatDoorPAllx2
import Derived.Test.YtnbjkpfpcggopaaGreatDoorShelf
namespace Go.Proofs.YtnbjkpfpcggopaaGreatDoor.Ev
open Go Go.RowKit Go.Proofs Go.Proofs.YtnbjkpfpcggopaaGreatDoor.Kit Go.Proofs.YtnbjkpfpcggopaaGreatDoor.PAll Go.Proofs.YtnbjkpfpcggopaaGreatDoorW.PrintWords Go.Proofs.YtnbjkpfpcggopaaGreatDoor.Dx Go.Proofs.YtnbjkpfpcggopaaGreatDoor.Dl
set_option linter.unusedSimpArgs false
set_option linter.unusedVariables false

def BeP (v : Value) (w : World) (en : Ending) (w' : World) : Prop := en = .returned v ∧ Below w.heap.size w w'
def Fst {α : Type} (p : α → Prop) (z : α) (xs : List α) (r : Int) : Prop := (∃ e : Nat, r = e ∧ e < xs.length ∧ ¬ p (xs.getD e z) ∧ ∀ j, j < e → p (xs.getD j z)) ∨ (r = -1 ∧ ∀ j, j < xs.length → p (xs.getD j z))
theorem fst_total {α : Type} (p : α → Prop) [∀ a, Decidable (p a)] (z : α) (xs : List α) : ∃ r, Fst p z xs r := by
  have : ∀ m, m ≤ xs.length → (∃ e, e < m ∧ ¬ p (xs.getD e z) ∧ ∀ j, j < e → p (xs.getD j z)) ∨ ∀ j, j < m → p (xs.getD j z) := by
    intro m
    induction m with
    | zero => exact fun _ => .inr fun j hj => by omega
    | succ m ih =>
      intro hm
      rcases ih (by omega) with ⟨e, h1, h2, h3⟩ | h
      · exact .inl ⟨e, by omega, h2, h3⟩
      · by_cases q : p (xs.getD m z)
        · exact .inr fun j hj => by
            rcases Nat.lt_or_ge j m with q2 | q2
            · exact h j q2
            · obtain rfl : j = m := by omega
              exact q
        · exact .inl ⟨m, by omega, q, h⟩
  rcases this xs.length (Nat.le_refl _) with ⟨e, h1, h2, h3⟩ | h
  · exact ⟨e, .inl ⟨e, rfl, h1, h2, h3⟩⟩
  · exact ⟨-1, .inr ⟨rfl, h⟩⟩
theorem fst_at {α : Type} {p : α → Prop} {z : α} {xs : List α} {r : Int} (h : Fst p z xs r) {k : Nat} (hk : k < xs.length) (hn : ¬ p (xs.getD k z)) (hall : ∀ j, j < k → p (xs.getD j z)) : r = k := by
  rcases h with ⟨e, rfl, h1, h2, h3⟩ | ⟨_, h2⟩
  · rcases Nat.lt_trichotomy e k with q | q | q
    · exact absurd (hall e q) h2
    · rw [q]
    · exact absurd (h3 k q) hn
  · exact absurd (h2 k hk) hn
theorem fst_end {α : Type} {p : α → Prop} {z : α} {xs : List α} {r : Int} (h : Fst p z xs r) (hall : ∀ j, j < xs.length → p (xs.getD j z)) : r = -1 := by
  rcases h with ⟨e, rfl, h1, h2, h3⟩ | ⟨h1, _⟩
  · exact absurd (hall e h1) h2
  · exact h1
set_option maxHeartbeats 4000000 in
theorem idx_get (q : Nat) (A : Option Addr) (c : Nat) (ds : List S25) (r : Int) (w : World) (p : S25 → Prop) [∀ a, Decidable (p a)] (hx : k25.C w A ds.length ds) (h : Fst p z25 ds r)
    (hf : ∀ (x : S25) (w' : World), Below w.heap.size w w' → Calls Tryz.prog 37 #[.agg #[.int .i64 x.f0, .int .i64 x.f1], .pointer (some ⟨q, 0, none⟩)] w' (BeP (.bool (!decide (p x))) w')) :
    Calls Tryz.prog 36 #[.slice A ds.length c, .func (.func 37) #[] #[.pointer (some ⟨q, 0, none⟩)]] w (BeP (.int .i64 r) w) := by
  have lx : ds.length ≤ 9223372036854775807 := hx.2.1
  have HX := Lib.hid hx
  have H := Lib.hid h
  have HF := Lib.hid hf
  clear hx h hf
  go_enter Tryz.func36, Tryz.ntmps36
  go_wp2
  go_loopw [8] (fun i wr => ∃ k : Nat, k ≤ ds.length ∧ i = .int .i64 k ∧ (∀ j, j < k → p (ds.getD j z25)) ∧ Below w.heap.size w wr) (fun i _ => (ds.length : Int).toNat - (intOf i).toNat)
  case atStart => exact ⟨0, by omega, rfl, fun j hj => by omega, Below.refl _ _⟩
  case round =>
    obtain ⟨k, hk, rfl, hall, hB⟩ := hrel
    have HA := Lib.hid hall
    have KB := Lib.hid hB
    clear hall hB
    by_cases hlt : k < ds.length
    · obtain ⟨ad, eA, q0, q1⟩ := at_T25 (Kd.C_below HX.out KB.out) (k : Int) (by omega) (by omega)
      subst eA
      have hrd : rd_T25 ds (k : Int) = ds.getD k z25 := by unfold rd_T25; rw [Int.toNat_natCast]
      rw [hrd, Int.toNat_natCast] at q0 q1
      have hfa := fun (q : ¬ p (ds.getD k z25)) => fst_at H.out hlt q HA.out
      have FA := Lib.hid hfa
      clear hfa
      generalize hx : ds.getD k z25 = x at *
      have X := Lib.hid hx
      clear hx hrd
      by_cases hq : p x
      · have hd : (!decide (p x)) = false := by rw [decide_eq_true hq]; rfl
        have IV := HF.out x _ KB.out
        rw [hd] at IV
        have IV := Lib.hid IV
        have HQ := Lib.hid hq
        clear hq hd
        go_wp2_with (go_at_call 37; refine IV.out.mono ?_; rintro en w1 ⟨rfl, hb⟩; have KB := Lib.hid (below_step KB.out hb); clear hb)
        go_roundw
        case rel => exact ⟨k + 1, by omega, by go_num, fun j hj => by
          rcases Nat.lt_or_ge j k with q | q
          · exact HA.out j q
          · obtain rfl : j = k := by omega
            rw [X.out]; exact HQ.out, KB.out⟩
        case measure => simp [intOf]; omega
      · have hd : (!decide (p x)) = true := by rw [decide_eq_false hq]; rfl
        have IV := HF.out x _ KB.out
        rw [hd] at IV
        have IV := Lib.hid IV
        have hr := FA.out hq
        subst hr
        clear hq hd
        go_wp2_with (go_at_call 37; refine IV.out.mono ?_; rintro en w1 ⟨rfl, hb⟩; have KB := Lib.hid (below_step KB.out hb); clear hb)
        go_ret
        exact ⟨rfl, KB.out⟩
    · obtain rfl : k = ds.length := by omega
      have hr := fst_end H.out HA.out
      subst hr
      go_wp2
      go_ret
      exact ⟨rfl, KB.out⟩
set_option maxHeartbeats 4000000 in
theorem idx_vinv (A : Option Addr) (c : Nat) (ds : List S25) (r : Int) (w : World) (p : S25 → Prop) [∀ a, Decidable (p a)] (hx : k25.C w A ds.length ds) (h : Fst p z25 ds r)
    (hf : ∀ (x : S25) (w' : World), Below w.heap.size w w' → Calls Tryz.prog 35 #[.agg #[.int .i64 x.f0, .int .i64 x.f1]] w' (BeP (.bool (!decide (p x))) w')) :
    Calls Tryz.prog 36 #[.slice A ds.length c, .func (.func 35) #[] #[]] w (BeP (.int .i64 r) w) := by
  have lx : ds.length ≤ 9223372036854775807 := hx.2.1
  have HX := Lib.hid hx
  have H := Lib.hid h
  have HF := Lib.hid hf
  clear hx h hf
  go_enter Tryz.func36, Tryz.ntmps36
  go_wp2
  go_loopw [8] (fun i wr => ∃ k : Nat, k ≤ ds.length ∧ i = .int .i64 k ∧ (∀ j, j < k → p (ds.getD j z25)) ∧ Below w.heap.size w wr) (fun i _ => (ds.length : Int).toNat - (intOf i).toNat)
  case atStart => exact ⟨0, by omega, rfl, fun j hj => by omega, Below.refl _ _⟩
  case round =>
    obtain ⟨k, hk, rfl, hall, hB⟩ := hrel
    have HA := Lib.hid hall
    have KB := Lib.hid hB
    clear hall hB
    by_cases hlt : k < ds.length
    · obtain ⟨ad, eA, q0, q1⟩ := at_T25 (Kd.C_below HX.out KB.out) (k : Int) (by omega) (by omega)
      subst eA
      have hrd : rd_T25 ds (k : Int) = ds.getD k z25 := by unfold rd_T25; rw [Int.toNat_natCast]
      rw [hrd, Int.toNat_natCast] at q0 q1
      have hfa := fun (q : ¬ p (ds.getD k z25)) => fst_at H.out hlt q HA.out
      have FA := Lib.hid hfa
      clear hfa
      generalize hx : ds.getD k z25 = x at *
      have X := Lib.hid hx
      clear hx hrd
      by_cases hq : p x
      · have hd : (!decide (p x)) = false := by rw [decide_eq_true hq]; rfl
        have IV := HF.out x _ KB.out
        rw [hd] at IV
        have IV := Lib.hid IV
        have HQ := Lib.hid hq
        clear hq hd
        go_wp2_with (go_at_call 35; refine IV.out.mono ?_; rintro en w1 ⟨rfl, hb⟩; have KB := Lib.hid (below_step KB.out hb); clear hb)
        go_roundw
        case rel => exact ⟨k + 1, by omega, by go_num, fun j hj => by
          rcases Nat.lt_or_ge j k with q | q
          · exact HA.out j q
          · obtain rfl : j = k := by omega
            rw [X.out]; exact HQ.out, KB.out⟩
        case measure => simp [intOf]; omega
      · have hd : (!decide (p x)) = true := by rw [decide_eq_false hq]; rfl
        have IV := HF.out x _ KB.out
        rw [hd] at IV
        have IV := Lib.hid IV
        have hr := FA.out hq
        subst hr
        clear hq hd
        go_wp2_with (go_at_call 35; refine IV.out.mono ?_; rintro en w1 ⟨rfl, hb⟩; have KB := Lib.hid (below_step KB.out hb); clear hb)
        go_ret
        exact ⟨rfl, KB.out⟩
    · obtain rfl : k = ds.length := by omega
      have hr := fst_end H.out HA.out
      subst hr
      go_wp2
      go_ret
      exact ⟨rfl, KB.out⟩
set_option maxHeartbeats 4000000 in
theorem idx_vinvD (A : Option Addr) (c : Nat) (ds : List S25) (r : Int) (w : World) (p : S25 → Prop) [∀ a, Decidable (p a)] (hx : k25.C w A ds.length ds) (h : Fst p z25 ds r)
    (hf : ∀ (x : S25) (w' : World), Below w.heap.size w w' → Calls Tryz.prog 35 #[.agg #[.int .i64 x.f0, .int .i64 x.f1]] w' (BeP (.bool (!decide (p x))) w')) :
    Calls Tryz.prog 64 #[.slice A ds.length c, .func (.func 35) #[] #[]] w (BeP (.int .i64 r) w) := by
  have lx : ds.length ≤ 9223372036854775807 := hx.2.1
  have HX := Lib.hid hx
  have H := Lib.hid h
  have HF := Lib.hid hf
  clear hx h hf
  go_enter Tryz.func64, Tryz.ntmps64
  go_wp2
  go_loopw [8] (fun i wr => ∃ k : Nat, k ≤ ds.length ∧ i = .int .i64 k ∧ (∀ j, j < k → p (ds.getD j z25)) ∧ Below w.heap.size w wr) (fun i _ => (ds.length : Int).toNat - (intOf i).toNat)
  case atStart => exact ⟨0, by omega, rfl, fun j hj => by omega, Below.refl _ _⟩
  case round =>
    obtain ⟨k, hk, rfl, hall, hB⟩ := hrel
    have HA := Lib.hid hall
    have KB := Lib.hid hB
    clear hall hB
    by_cases hlt : k < ds.length
    · obtain ⟨ad, eA, q0, q1⟩ := at_T25 (Kd.C_below HX.out KB.out) (k : Int) (by omega) (by omega)
      subst eA
      have hrd : rd_T25 ds (k : Int) = ds.getD k z25 := by unfold rd_T25; rw [Int.toNat_natCast]
      rw [hrd, Int.toNat_natCast] at q0 q1
      have hfa := fun (q : ¬ p (ds.getD k z25)) => fst_at H.out hlt q HA.out
      have FA := Lib.hid hfa
      clear hfa
      generalize hx : ds.getD k z25 = x at *
      have X := Lib.hid hx
      clear hx hrd
      by_cases hq : p x
      · have hd : (!decide (p x)) = false := by rw [decide_eq_true hq]; rfl
        have IV := HF.out x _ KB.out
        rw [hd] at IV
        have IV := Lib.hid IV
        have HQ := Lib.hid hq
        clear hq hd
        go_wp2_with (go_at_call 35; refine IV.out.mono ?_; rintro en w1 ⟨rfl, hb⟩; have KB := Lib.hid (below_step KB.out hb); clear hb)
        go_roundw
        case rel => exact ⟨k + 1, by omega, by go_num, fun j hj => by
          rcases Nat.lt_or_ge j k with q | q
          · exact HA.out j q
          · obtain rfl : j = k := by omega
            rw [X.out]; exact HQ.out, KB.out⟩
        case measure => simp [intOf]; omega
      · have hd : (!decide (p x)) = true := by rw [decide_eq_false hq]; rfl
        have IV := HF.out x _ KB.out
        rw [hd] at IV
        have IV := Lib.hid IV
        have hr := FA.out hq
        subst hr
        clear hq hd
        go_wp2_with (go_at_call 35; refine IV.out.mono ?_; rintro en w1 ⟨rfl, hb⟩; have KB := Lib.hid (below_step KB.out hb); clear hb)
        go_ret
        exact ⟨rfl, KB.out⟩
    · obtain rfl : k = ds.length := by omega
      have hr := fst_end H.out HA.out
      subst hr
      go_wp2
      go_ret
      exact ⟨rfl, KB.out⟩
theorem con_vinv (A : Option Addr) (c : Nat) (ds : List S25) (b : Bool) (w : World) (p : S25 → Prop) [∀ a, Decidable (p a)] (hx : k25.C w A ds.length ds) (h : b = true ↔ ¬ ∀ x ∈ ds, p x)
    (hf : ∀ (x : S25) (w' : World), Below w.heap.size w w' → Calls Tryz.prog 35 #[.agg #[.int .i64 x.f0, .int .i64 x.f1]] w' (BeP (.bool (!decide (p x))) w')) :
    Calls Tryz.prog 34 #[.slice A ds.length c, .func (.func 35) #[] #[]] w (BeP (.bool b) w) := by
  obtain ⟨r, hr⟩ := fst_total p z25 ds
  have hb : b = decide (0 ≤ r) := by
    rcases hr with ⟨e, rfl, h1, h2, h3⟩ | ⟨rfl, h2⟩
    · rw [decide_eq_true (by omega)]
      refine h.2 fun q => h2 ?_
      rw [List.getD_eq_getElem?_getD, List.getElem?_eq_getElem h1]
      exact q _ (List.getElem_mem h1)
    · rw [decide_eq_false (by omega)]
      refine Bool.eq_false_iff.2 fun q => h.1 q fun x hx => ?_
      obtain ⟨j, hj, rfl⟩ := List.getElem_of_mem hx
      have := h2 j hj
      rwa [List.getD_eq_getElem?_getD, List.getElem?_eq_getElem hj] at this
  have IX := Lib.hid (idx_vinv  A c ds r w p hx hr hf)
  clear hx hr h hf
  subst hb
  go_enter Tryz.func34, Tryz.ntmps34
  go_wp2_with (go_at_call 36; refine IX.out.mono ?_; rintro en w1 ⟨rfl, hb⟩; have KB := Lib.hid hb; clear hb)
  go_ret
  exact ⟨rfl, KB.out⟩

theorem con_vinvD (A : Option Addr) (c : Nat) (ds : List S25) (b : Bool) (w : World) (p : S25 → Prop) [∀ a, Decidable (p a)] (hx : k25.C w A ds.length ds) (h : b = true ↔ ¬ ∀ x ∈ ds, p x)
    (hf : ∀ (x : S25) (w' : World), Below w.heap.size w w' → Calls Tryz.prog 35 #[.agg #[.int .i64 x.f0, .int .i64 x.f1]] w' (BeP (.bool (!decide (p x))) w')) :
    Calls Tryz.prog 50 #[.slice A ds.length c, .func (.func 35) #[] #[]] w (BeP (.bool b) w) := by
  obtain ⟨r, hr⟩ := fst_total p z25 ds
  have hb : b = decide (0 ≤ r) := by
    rcases hr with ⟨e, rfl, h1, h2, h3⟩ | ⟨rfl, h2⟩
    · rw [decide_eq_true (by omega)]
      refine h.2 fun q => h2 ?_
      rw [List.getD_eq_getElem?_getD, List.getElem?_eq_getElem h1]
      exact q _ (List.getElem_mem h1)
    · rw [decide_eq_false (by omega)]
      refine Bool.eq_false_iff.2 fun q => h.1 q fun x hx => ?_
      obtain ⟨j, hj, rfl⟩ := List.getElem_of_mem hx
      have := h2 j hj
      rwa [List.getD_eq_getElem?_getD, List.getElem?_eq_getElem hj] at this
  have IX := Lib.hid (idx_vinvD  A c ds r w p hx hr hf)
  clear hx hr h hf
  subst hb
  go_enter Tryz.func50, Tryz.ntmps50
  go_wp2_with (go_at_call 64; refine IX.out.mono ?_; rintro en w1 ⟨rfl, hb⟩; have KB := Lib.hid hb; clear hb)
  go_ret
  exact ⟨rfl, KB.out⟩

theorem dot_f (r c : Int) : dot_Valid.f r c = some (decide (okDot r c)) := by
  unfold dot_Valid.f
  by_cases h1 : r ≥ 1
  · rw [if_pos h1]
    by_cases h2 : r ≤ 64
    · rw [if_pos h2]
      by_cases h3 : c ≥ 1
      · rw [if_pos h3]; congr 1; exact decide_eq_decide.2 (by unfold okDot; omega)
      · rw [if_neg h3, decide_eq_false (by unfold okDot; omega)]
    · rw [if_neg h2, decide_eq_false (by unfold okDot; omega)]
  · rw [if_neg h1, decide_eq_false (by unfold okDot; omega)]
theorem vinv_any (x : S25) (w : World) : Calls Tryz.prog 35 #[.agg #[.int .i64 x.f0, .int .i64 x.f1]] w (BeP (.bool (!decide (okDot x.f0 x.f1))) w) := by
  have V := Lib.hid (fun W => dot_Valid.calls x.f0 x.f1 _ W (dot_f x.f0 x.f1))
  go_enter Tryz.func35, Tryz.ntmps35
  go_wp2_with (go_at_call 38; refine (V.out _).mono ?_; rintro en w1 ⟨rfl, hb⟩; have KB := Lib.hid hb; clear hb)
  go_ret
  exact ⟨rfl, below_step (below_alloc (Below.refl _ _) _) KB.out⟩
theorem getl_any (q : Nat) (rep : Int) (T : TypeId) (x : S25) (w : World) (hb : w.heap[q]? = some (.cells #[.int .i64 rep] T (0, 0))) : Calls Tryz.prog 37 #[.agg #[.int .i64 x.f0, .int .i64 x.f1], .pointer (some ⟨q, 0, none⟩)] w (BeP (.bool (!decide (x.f0 ≠ rep))) w) := by
  have p0 := (blk_cell hb 0).trans rfl
  have he : (x.f0 == rep) = (!decide (x.f0 ≠ rep)) := by by_cases q : x.f0 = rep <;> simp [q]
  rw [← he]
  obtain ⟨r, c⟩ := x
  have hb' := blk_below hb (below_alloc (Below.refl w.heap.size w) (.cells #[.int .i64 r, .int .i64 c] 25))
  have p1 := (blk_cell hb' 0).trans rfl
  clear hb hb' he
  go_enter Tryz.func37, Tryz.ntmps37
  go_wp2
  go_ret
  exact ⟨rfl, below_alloc (Below.refl _ _) _⟩
theorem cell_below {w w1 : World} {a : Addr} {u : Value} (h : w.cell? a = some u) (hb : Below w.heap.size w w1) : w1.cell? a = some u := by
  have hlt := World.block_lt_of_cell? w _ h
  rw [← h]
  unfold World.cell?
  rw [hb.block _ hlt]
theorem getV_none : ∀ (ds : List S25) (rep : Int), (∀ x ∈ ds, x.f0 ≠ rep) → getV ds rep = 0
  | [], _, _ => rfl
  | x :: xs, rep, h => by
    unfold getV
    rw [if_neg (h x List.mem_cons_self)]
    exact getV_none xs rep (fun y hy => h y (List.mem_cons_of_mem _ hy))
theorem getV_at : ∀ (ds : List S25) (rep : Int) (e : Nat), e < ds.length → (ds.getD e z25).f0 = rep → (∀ j, j < e → (ds.getD j z25).f0 ≠ rep) → getV ds rep = (ds.getD e z25).f1
  | [], _, _, h, _, _ => by simp at h
  | x :: xs, rep, 0, _, h, _ => by
    unfold getV
    rw [List.getD_cons_zero] at h ⊢
    rw [if_pos h]
  | x :: xs, rep, e + 1, hl, h, hall => by
    have h0 := hall 0 (by omega)
    rw [List.getD_cons_zero] at h0
    unfold getV
    rw [if_neg h0, List.getD_cons_succ]
    rw [List.getD_cons_succ] at h
    exact getV_at xs rep e (by simpa using hl) h (fun j hj => by have := hall (j + 1) (by omega); rwa [List.getD_cons_succ] at this)
set_option maxHeartbeats 4000000 in
theorem get_any (A : Option Addr) (c : Nat) (ds : List S25) (rep : Int) (w : World) (hx : k25.C w A ds.length ds) : Calls Tryz.prog 11 #[.slice A ds.length c, .int .i64 rep] w (BeP (.int .i64 (getV ds rep)) w) := by
  obtain ⟨r, hr⟩ := fst_total (fun x : S25 => x.f0 ≠ rep) z25 ds
  have HX := Lib.hid hx
  have IX := Lib.hid (fun (q : Nat) (w : World) (hx : k25.C w A ds.length ds) (hb : w.heap[q]? = some (.cells #[.int .i64 rep] 3 (0, 0))) => idx_get q A c ds r w (fun x => x.f0 ≠ rep) hx hr (fun x w' hw => getl_any q rep 3 x w' (blk_below hb hw)))
  have BOXT : True := trivial
  rcases hr with ⟨e, rfl, h1, h2, h3⟩ | ⟨rfl, h2⟩
  · have hg := getV_at ds rep e h1 (Decidable.not_not.1 h2) h3
    have hl9 : ds.length ≤ 9223372036854775807 := hx.2.1
    have hd : decide ((e : Int) < 0) = false := decide_eq_false (by omega)
    have he0 : (0 : Int) ≤ (e : Int) := by omega
    have he1 : (e : Int) < (ds.length : Int) := by omega
    rw [hg]
    obtain ⟨ad, eA, q0, q1⟩ := at_T25 hx (e : Int) (by omega) (by omega)
    subst eA
    have hrd : rd_T25 ds (e : Int) = ds.getD e z25 := by unfold rd_T25; rw [Int.toNat_natCast]
    rw [hrd, Int.toNat_natCast] at q1
    have Q1 := Lib.hid q1
    clear hx h1 h2 h3 hg q0 q1 hrd BOXT
    go_enter Tryz.func11, Tryz.ntmps11
    go_wp2_with (first | ((with_reducible refine gate_dst (N := 3) rfl ?_); refine box_event rfl (N := 3) rfl (cs := #[.int .i64 rep]) (t := 3) ?hr ?_; (case hr => first | (go_simp; done) | (go_simp; rfl)); intro g3 hg3 w1 hbox hb; have HBX := Lib.hid hbox; have KB := Lib.hid hb; clear hb hbox hg3) | (go_at_call 36; refine (IX.out _ _ (Kd.C_below HX.out KB.out) HBX.out).mono ?_; rintro en w2 ⟨rfl, hb⟩; have KB := Lib.hid (below_step KB.out hb); have q1 := cell_below Q1.out KB.out; clear hb))
    go_ret
    exact ⟨rfl, KB.out⟩
  · have hg := getV_none ds rep (fun x hx => by
      obtain ⟨j, hj, rfl⟩ := List.getElem_of_mem hx
      have := h2 j hj
      rwa [List.getD_eq_getElem?_getD, List.getElem?_eq_getElem hj] at this)
    rw [hg]
    clear hx h2 hg BOXT
    go_enter Tryz.func11, Tryz.ntmps11
    go_wp2_with (first | ((with_reducible refine gate_dst (N := 3) rfl ?_); refine box_event rfl (N := 3) rfl (cs := #[.int .i64 rep]) (t := 3) ?hr ?_; (case hr => first | (go_simp; done) | (go_simp; rfl)); intro g3 hg3 w1 hbox hb; have HBX := Lib.hid hbox; have KB := Lib.hid hb; clear hb hbox hg3) | (go_at_call 36; refine (IX.out _ _ (Kd.C_below HX.out KB.out) HBX.out).mono ?_; rintro en w2 ⟨rfl, hb⟩; have KB := Lib.hid (below_step KB.out hb); clear hb))
    go_ret
    exact ⟨rfl, KB.out⟩
/-- A valid vector. -/
def VecOk (ds : List S25) : Prop := (∀ j, j + 1 < ds.length → (ds.getD j z25).f0 < (ds.getD (j + 1) z25).f0) ∧ ∀ x ∈ ds, okDot x.f0 x.f1
set_option maxHeartbeats 4000000 in
theorem vvalid_any (A : Option Addr) (c : Nat) (ds : List S25) (b : Bool) (w : World) (hx : k25.C w A ds.length ds) (hl : ds.length ≤ 10000000) (h : b = true ↔ VecOk ds) : Calls Tryz.prog 9 #[.slice A ds.length c] w (BeP (.bool b) w) := by
  have lx : ds.length ≤ 9223372036854775807 := hx.2.1
  have hli : (ds.length : Int) ≤ 10000000 := by omega
  have HX := Lib.hid hx
  have H := Lib.hid h
  clear hx h hl
  go_enter Tryz.func9, Tryz.ntmps9
  go_wp2
  go_loopw [3] (fun i wr => ∃ m : Nat, i = .int .i64 ((m : Int) + 1) ∧ (m = 0 ∨ m + 1 ≤ ds.length) ∧ (∀ j, j < m → j + 1 < ds.length → (ds.getD j z25).f0 < (ds.getD (j + 1) z25).f0) ∧ Below w.heap.size w wr) (fun i _ => (ds.length : Int).toNat + 1 - (intOf i).toNat)
  case atStart => exact ⟨0, rfl, .inl rfl, fun j hj => by omega, Below.refl _ _⟩
  case round =>
    obtain ⟨m, rfl, hm, hall, hB⟩ := hrel
    have HA := Lib.hid hall
    have KB := Lib.hid hB
    clear hall hB
    by_cases hlt : m + 1 < ds.length
    · obtain ⟨ad, eA, q0, q1⟩ := at_T25 (Kd.C_below HX.out (below_drew KB.out)) (m : Int) (by omega) (by omega)
      obtain ⟨ad2, eA2, r0, r1⟩ := at_T25 (Kd.C_below HX.out (below_drew KB.out)) (((m + 1 : Nat)) : Int) (by omega) (by omega)
      subst eA
      injection eA2 with eA2
      subst eA2
      have hrd : rd_T25 ds (m : Int) = ds.getD m z25 := by unfold rd_T25; rw [Int.toNat_natCast]
      have hrd2 : rd_T25 ds ((m + 1 : Nat) : Int) = ds.getD (m + 1) z25 := by unfold rd_T25; rw [Int.toNat_natCast]
      rw [hrd, Int.toNat_natCast] at q0 q1
      rw [hrd2, Int.toNat_natCast] at r0 r1
      have hd1 : decide ((m : Int) + 1 < (ds.length : Int)) = true := decide_eq_true (by omega)
      have s1 : IntKind.i64.wrap ((m : Int) + 1 - 1) = (m : Int) := by rw [show (m : Int) + 1 - 1 = m by omega]; simp [IntKind.wrap, IntKind.bits, IntKind.signed]; omega
      have s2 : IntKind.i64.wrap (m : Int) = (m : Int) := by simp [IntKind.wrap, IntKind.bits, IntKind.signed]; omega
      have b5 : m < ds.length := by omega
      have b0 : (0 : Int) ≤ (m : Int) := by omega
      have b1 : (m : Int) < (ds.length : Int) := by omega
      have b2 : (0 : Int) ≤ (m : Int) + 1 := by omega
      have b3 : (m : Int) + 1 < (ds.length : Int) := by omega
      have b4 : ((m : Int) + 1).toNat = m + 1 := by omega
      have KD := Lib.hid (below_drew KB.out)
      have hno : ¬ (ds.getD m z25).f0 < (ds.getD (m + 1) z25).f0 → b = false := fun q => Bool.eq_false_iff.2 fun hb => q ((H.out.1 hb).1 m hlt)
      have NO := Lib.hid hno
      clear hno
      by_cases hq : (ds.getD m z25).f0 < (ds.getD (m + 1) z25).f0
      · have hd : decide ((ds.getD (m + 1) z25).f0 ≤ (ds.getD m z25).f0) = false := decide_eq_false (by omega)
        have HA2 := Lib.hid (show ∀ j, j < m + 1 → j + 1 < ds.length → (ds.getD j z25).f0 < (ds.getD (j + 1) z25).f0 from fun j hj hj2 => by
          rcases Nat.lt_or_ge j m with q | q
          · exact HA.out j q hj2
          · obtain rfl : j = m := by omega
            exact hq)
        clear hq hrd hrd2
        generalize ds.getD m z25 = x at *
        generalize ds.getD (m + 1) z25 = y at *
        go_wp2
        go_region_held3 (fun w' => w'.cell? (ad.add (m * 2)) = some (.int .i64 x.f0) ∧ w'.cell? (ad.add ((m + 1) * 2)) = some (.int .i64 y.f0)) (refine ⟨?_, ?_⟩ <;> assumption) (fail)
        go_wp2
        go_roundw
        case rel => exact ⟨m + 1, by go_num, .inr (by omega), HA2.out, KD.out⟩
        case measure => simp [intOf]; omega
      · have hd : decide ((ds.getD (m + 1) z25).f0 ≤ (ds.getD m z25).f0) = true := decide_eq_true (by omega)
        have hb := NO.out hq
        subst hb
        clear hq hrd hrd2
        generalize ds.getD m z25 = x at *
        generalize ds.getD (m + 1) z25 = y at *
        go_wp2
        go_region_held3 (fun w' => w'.cell? (ad.add (m * 2)) = some (.int .i64 x.f0) ∧ w'.cell? (ad.add ((m + 1) * 2)) = some (.int .i64 y.f0)) (refine ⟨?_, ?_⟩ <;> assumption) (fail)
        go_wp2
        go_ret
        exact ⟨rfl, KD.out⟩
    · have hall : ∀ j, j + 1 < ds.length → (ds.getD j z25).f0 < (ds.getD (j + 1) z25).f0 := fun j hj => HA.out j (by omega) hj
      have hd1 : decide ((m : Int) + 1 < (ds.length : Int)) = false := decide_eq_false (by omega)
      have hd2 : decide (m + 1 < ds.length) = false := decide_eq_false hlt
      have CV := Lib.hid (fun w hx => con_vinv A c ds (!b) w (fun x => okDot x.f0 x.f1) hx (by
        have hh := H.out
        cases b with
        | true => exact ⟨fun q => absurd q (by simp), fun q => absurd (hh.1 rfl).2 q⟩
        | false => exact ⟨fun _ q => Bool.noConfusion (hh.2 ⟨hall, q⟩), fun _ => rfl⟩) (fun x w' _ => vinv_any x w'))
      clear hall
      go_wp2_with (go_at_call 34; refine (CV.out _ (Kd.C_below HX.out KB.out)).mono ?_; rintro en w2 ⟨rfl, hb⟩; have KB := Lib.hid (below_step KB.out hb); clear hb)
      go_ret
      exact ⟨by simp, KB.out⟩
end Go.Proofs.YtnbjkpfpcggopaaGreatDoor.Ev

namespace Go.Proofs.YtnbjkpfpcggopaaGreatDoor.Ev
open Go Go.RowKit Go.Proofs Go.Lib Go.Sort Go.Proofs.YtnbjkpfpcggopaaGreatDoor.Kit Go.Proofs.YtnbjkpfpcggopaaGreatDoorW.PrintWords Go.Proofs.YtnbjkpfpcggopaaGreatDoor.PAll Go.Proofs.YtnbjkpfpcggopaaGreatDoor.Dl
set_option linter.unusedSimpArgs false
set_option linter.unusedVariables false

/-- The order of replicas as a number. -/
def cmpR (a b : S25) : Int := if a.f0 < b.f0 then -1 else if a.f0 > b.f0 then 1 else 0
theorem cmpR_neg (a b : S25) : cmpR a b < 0 ↔ a.f0 < b.f0 := by
  unfold cmpR
  by_cases h : a.f0 < b.f0
  · simp [h]
  · rw [if_neg h]
    split <;> simp [h]
/-- A dot's two cells. -/
def encD (x : S25) : List Value := [.int .i64 x.f0, .int .i64 x.f1]
theorem lt_of (x y : S25) : ltOf cmpR x y = decide (x.f0 < y.f0) := by
  unfold ltOf
  exact decide_eq_decide.2 (cmpR_neg x y)
theorem swoR : SWO (ltOf cmpR) where
  irrefl x := by rw [lt_of]; simp
  trans x y z h1 h2 := by rw [lt_of] at *; simp only [decide_eq_true_eq] at *; omega
  ntrans x y z h1 h2 := by
    rw [lt_of] at *
    have k1 := of_decide_eq_false h1
    have k2 := of_decide_eq_false h2
    refine decide_eq_false ?_
    omega
theorem grow_of {w w' : World} (hb : Below w.heap.size w w') (hd : w.drawn ≤ w'.drawn) : ∃ q os', w' = grow (w.drewN q) os' := by
  refine ⟨w'.drawn - w.drawn, w'.heap.extract w.heap.size w'.heap.size, ?_⟩
  obtain ⟨h1, h2, h3, h4, h5⟩ := hb
  have hh : w'.heap = w.heap ++ w'.heap.extract w.heap.size w'.heap.size := by
    apply Array.ext_getElem?
    intro k
    rw [Array.getElem?_append]
    by_cases hk : k < w.heap.size
    · rw [if_pos hk]; exact h5 k hk
    · rw [if_neg hk, Array.getElem?_extract]
      by_cases hk2 : k < w'.heap.size
      · rw [if_pos (by omega)]; congr 1; omega
      · rw [if_neg (by omega), Array.getElem?_eq_none (by omega)]
  unfold grow World.drewN
  cases w'
  simp only at *
  subst h1 h2 h3
  rw [← hh]
  congr 1
  omega
theorem nan_any (x : Int) (w : World) : Calls Tryz.prog 67 #[.int .i64 x] w fun e w' => e = .returned (.bool false) ∧ w = w' := by
  go_enter Tryz.func67, Tryz.ntmps67
  go_wp2
  go_ret
  exact ⟨by simp, by first | rfl | trivial⟩
theorem cc_any (x y : Int) (w : World) : Calls Tryz.prog 53 #[.int .i64 x, .int .i64 y] w fun e w' => e = .returned (.int .i64 (if x < y then -1 else if x > y then 1 else 0)) ∧ w = w' := by
  by_cases h : x < y
  · have hd : decide (x < y) = true := decide_eq_true h
    rw [if_pos h]
    go_enter Tryz.func53, Tryz.ntmps53
    go_wp2_with (go_at_call 67; refine (nan_any _ _).mono ?_; rintro en w1 ⟨rfl, rfl⟩)
    go_ret
    exact ⟨rfl, rfl⟩
  · have hd : decide (x < y) = false := decide_eq_false h
    rw [if_neg h]
    by_cases k : y < x
    · have kd : decide (y < x) = true := decide_eq_true k
      rw [if_pos k]
      go_enter Tryz.func53, Tryz.ntmps53
      go_wp2_with (go_at_call 67; refine (nan_any _ _).mono ?_; rintro en w1 ⟨rfl, rfl⟩)
      go_ret
      exact ⟨rfl, rfl⟩
    · have kd : decide (y < x) = false := decide_eq_false k
      rw [if_neg k]
      go_enter Tryz.func53, Tryz.ntmps53
      go_wp2_with (go_at_call 67; refine (nan_any _ _).mono ?_; rintro en w1 ⟨rfl, rfl⟩)
      go_ret
      exact ⟨rfl, rfl⟩
theorem cmpR_any (x y : S25) (w : World) : Calls Tryz.prog 52 #[.agg #[.int .i64 x.f0, .int .i64 x.f1], .agg #[.int .i64 y.f0, .int .i64 y.f1]] w fun e w' => e = .returned (.int .i64 (cmpR x y)) ∧ Below w.heap.size w w' ∧ w.drawn ≤ w'.drawn := by
  have CC : ∀ W, Calls Tryz.prog 53 #[.int .i64 x.f0, .int .i64 y.f0] W fun e w' => e = .returned (.int .i64 (cmpR x y)) ∧ W = w' := fun W => cc_any x.f0 y.f0 W
  have CC := Lib.hid CC
  generalize cmpR x y = v at CC ⊢
  go_enter Tryz.func52, Tryz.ntmps52
  go_wp2_with (go_at_call 53; refine (CC.out _).mono ?_; rintro en w1 ⟨rfl, rfl⟩)
  go_ret
  exact ⟨rfl, below_alloc (below_alloc (Below.refl _ _) _) _, Nat.le_refl _⟩
theorem cmpLays (blk off size : Nat) (w : World) : Go.Proofs.CmpLays Tryz.prog 52 #[] encD 2 cmpR blk off size w :=
  fun m os dk _ x y => (cmpR_any x y _).mono fun e w' ⟨he, hb, hd⟩ => ⟨he, grow_of hb hd⟩
/-! A row of one's own, as the sort sees it. -/
theorem add0 (g n : Nat) : (⟨g, 0, none⟩ : Addr).add n = ⟨g, n, none⟩ := by
  unfold Addr.add
  split
  · subst_vars; rfl
  · rw [Nat.zero_add]
theorem flat_get (d : Array S25) (t : Nat) (h : t < d.size * 2) : (flatK encD 2 d)[t]! = if t % 2 = 0 then .int .i64 d[t / 2]!.f0 else .int .i64 d[t / 2]!.f1 := by
  rw [get_flatK _ _ _ _ h]
  by_cases q : t % 2 = 0
  · rw [if_pos q, q]; rfl
  · have q1 : t % 2 = 1 := by omega
    rw [if_neg q, q1]; rfl
theorem toA (xs : List S25) (i : Nat) (h : i < xs.length) : xs.toArray[i]! = rd_T25 xs (i : Int) := by
  unfold rd_T25
  rw [Int.toNat_natCast, List.getD_eq_getElem?_getD, List.getElem?_eq_getElem h, getElem!_pos xs.toArray i (by simpa using h)]
  rfl
theorem holds_of_R {w : World} {base g cap : Nat} {ok : Nat → Prop} {xs : List S25} (h : k25.R 25 w base ok (.slice (some ⟨g, 0, none⟩) xs.length cap) xs) (hp : 0 < xs.length) : HoldsK encD 2 w g 0 xs.toArray := by
  intro t ht
  have ht2 : t < xs.length * 2 := by simpa using ht
  obtain ⟨_, _, hC⟩ := Kd.R_reads' h
  obtain ⟨g', cap', e, _, hlt, cells, hb⟩ := Kd.R_form h hp
  injection e with e1 e2 e3
  injection e1 with e1
  injection e1 with e1
  subst e1 e3
  refine ⟨?_, blk_frozen hb _⟩
  obtain ⟨ad, e, c0, c1⟩ := at_T25 hC ((t / 2 : Nat) : Int) (by omega) (by omega)
  cases e
  rw [Int.toNat_natCast] at c0 c1
  show _ = some (id _)
  rw [id, flat_get _ _ (by simpa using ht2), toA _ _ (by omega)]
  by_cases q : t % 2 = 0
  · rw [if_pos q]
    have e2 : (0 + t) = 0 + t / 2 * 2 := by omega
    rw [e2, Nat.zero_add]
    rw [add0] at c0
    exact c0
  · rw [if_neg q]
    have e2 : (0 + t) = 0 + t / 2 * 2 + 1 := by omega
    rw [e2, Nat.zero_add]
    rw [add0] at c1
    exact c1
end Go.Proofs.YtnbjkpfpcggopaaGreatDoor.Ev

/- Version vectors: slices.SortFunc by replicas at a row of dots of one's own. -/
namespace Go.Proofs.YtnbjkpfpcggopaaGreatDoor.Ev
open Go Go.RowKit Go.Proofs Go.Lib Go.Sort Go.Proofs.YtnbjkpfpcggopaaGreatDoorW.PrintWords Go.Proofs.YtnbjkpfpcggopaaGreatDoor.PAll Go.Proofs.YtnbjkpfpcggopaaGreatDoor.Dl
set_option linter.unusedSimpArgs false
set_option linter.unusedVariables false

theorem put_block {w : World} {g : Nat} {cells : Array Value} {e : TypeId} {x : Nat × Nat} (h : w.heap[g]? = some (.cells cells e x)) (F : Array Value) :
    (putRow id w g 0 F).heap[g]? = some (.cells (putCells id 0 F cells) e x) := by
  unfold putRow mapBlock
  simp only [Array.getElem?_modify, if_true, h, Option.map_some, onCells]
theorem put_size (F cells : Array Value) : (putCells id 0 F cells).size = cells.size := by unfold putCells; simp
theorem put_take (F cells : Array Value) (h : F.size ≤ cells.size) : (putCells id 0 F cells).toList.take F.size = F.toList := by
  apply List.ext_getElem?
  intro i
  by_cases hi : i < F.size
  · rw [List.getElem?_take, if_pos hi, Array.getElem?_toList, Array.getElem?_toList]
    unfold putCells
    rw [Array.getElem?_mapIdx, Array.getElem?_eq_getElem (show i < cells.size by omega), Array.getElem?_eq_getElem hi, Option.map_some, if_pos (by omega), Nat.sub_zero, getElem!_pos F i hi]
    rfl
  · rw [List.getElem?_take, if_neg hi, Array.getElem?_toList, Array.getElem?_eq_none (by omega)]
theorem flat_two (d : Array S25) (j : Nat) (h : j < d.size) : ((flatK encD 2 d).toList.drop (j * 2)).take 2 = [.int .i64 d[j]!.f0, .int .i64 d[j]!.f1] := by
  have hs : (flatK encD 2 d).size = d.size * 2 := size_flatK _ _ _
  have g : ∀ t, t < d.size * 2 → (flatK encD 2 d).toList[t]? = some ((flatK encD 2 d)[t]!) := fun t ht => by
    rw [Array.getElem?_toList, Array.getElem?_eq_getElem (by omega), getElem!_pos _ t (by omega)]
  apply List.ext_getElem?
  intro i
  rw [List.getElem?_take, List.getElem?_drop]
  rcases i with _ | _ | i
  · rw [if_pos (by omega), g _ (by omega), flat_get _ _ (by omega), if_pos (by omega), show (j * 2 + 0) / 2 = j by omega]
    rfl
  · rw [if_pos (by omega), g _ (by omega), flat_get _ _ (by omega), if_neg (by omega), show (j * 2 + (0 + 1)) / 2 = j by omega]
    rfl
  · rw [if_neg (by omega)]
    rfl
/-- A row whose cells were laid anew. -/
theorem R_put {w : World} {base g cap : Nat} {ok : Nat → Prop} {xs : List S25} (h : k25.R 25 w base ok (.slice (some ⟨g, 0, none⟩) xs.length cap) xs) (hp : 0 < xs.length) (n : Nat) (d : Array S25) (os : Array Obj) (hd : d.size = xs.length) :
    k25.R 25 (grow (putRowK encD 2 (Go.Sort.ahead w n) g 0 d) os) base ok (.slice (some ⟨g, 0, none⟩) xs.length cap) d.toList := by
  obtain ⟨g', cap', e, hb, hlt, cells, hcell⟩ := Kd.R_form h hp
  injection e with e1 e2 e3
  injection e1 with e1
  injection e1 with e1
  subst e1 e3
  obtain ⟨hok, inner, ⟨hl, hor⟩, hrep⟩ := h
  rcases hor with ⟨q, _⟩ | ⟨g2, cap2, cur, e, hb2, hh, hnc, hcm, hcs, htk⟩
  · cases q
  injection e with e1 e2 e3
  injection e1 with e1
  injection e1 with e1
  subst e1 e3
  have hF : (flatK encD 2 d).size = xs.length * 2 := by rw [size_flatK, hd]
  have hdl : d.toList.length = xs.length := hd
  have hFl : (flatK encD 2 d).toList.length = xs.length * 2 := hF
  have hsz : k25.sz = 2 := rfl
  rw [hsz] at hcs
  have hcap : xs.length * 2 ≤ cap * 2 := Nat.mul_le_mul_right _ hnc
  refine ⟨hok, (flatK encD 2 d).toList, ⟨?_, Or.inr ⟨g, cap, putCells id 0 (flatK encD 2 d) cur, by rw [hdl], hb, ?_, ?_, hcm, ?_, ?_⟩⟩, ?_, ?_⟩
  · rw [hFl, hdl, hsz]
  · show (w.heap.modify g _ ++ os)[g]? = _
    have hb3 := put_block (w := Go.Sort.ahead w n) hh (flatK encD 2 d)
    have hb4 : (putRow id (Go.Sort.ahead w n) g 0 (flatK encD 2 d)).heap[g]? = _ := hb3
    rw [Array.getElem?_append_left (by simpa using hlt)]
    exact hb4
  · rw [hdl]; exact hnc
  · rw [put_size, hcs, hsz]
  · rw [hdl, hsz, ← hF]
    exact put_take _ _ (by rw [hF, hcs]; exact hcap)
  · rw [hFl, hdl, hsz]
  · intro j p hj
    have hjl : j < d.size := by
      have := (List.getElem?_eq_some_iff.1 hj).1
      simpa using this
    rw [hsz, flat_two d j hjl]
    have hp2 : d[j]! = p := by
      rw [getElem!_pos d j hjl]
      obtain ⟨q1, q2⟩ := List.getElem?_eq_some_iff.1 hj
      rw [← q2]; simp
    rw [hp2]
    exact k25_mkM _ _ _ p
theorem below_put {w : World} {base g : Nat} (hb : base ≤ g) (hw : base ≤ w.heap.size) (n : Nat) (d : Array S25) (os : Array Obj) : Go.RowKit.Below base w (grow (putRowK encD 2 (Go.Sort.ahead w n) g 0 d) os) := by
  refine ⟨rfl, rfl, rfl, ?_, fun k hk => ?_⟩
  · show w.heap.size ≤ (w.heap.modify g _ ++ os).size
    rw [Array.size_append, Array.size_modify]
    exact Nat.le_add_right _ _
  · show (w.heap.modify g _ ++ os)[k]? = _
    rw [Array.getElem?_append_left (by simp; omega), Array.getElem?_modify, if_neg (by omega)]

theorem sortfn_any (g cap : Nat) (d : Array S25) (w : World) (hH : HoldsK encD 2 w g 0 d) (hlt : g < w.heap.size) (hl : d.size < 4611686018427387904) :
    Calls Tryz.prog 51 #[.slice (some ⟨g, 0, none⟩) d.size cap, .func (.func 52) #[] #[]] w fun e w' =>
      e = .returned (.tuple #[]) ∧ ∃ d' n os, PermIn 0 d.size d d' ∧ SortedIn (ltOf cmpR) 0 d.size d' ∧ w' = sortWorldK encD 2 w g 0 n d' os := by
  have eg : ∀ args w, (callFunc 52 args).run Tryz.prog w = .ok (.enter 52 args) w := enters_of Tryz.func52 (by kernel_rfl) rfl
  have hlim : Lib.bitLen d.size < 4611686018427387904 := Nat.lt_of_le_of_lt (Lib.bitLen_le d.size 62 (by omega) (by omega)) (by omega)
  have hp : Calls Tryz.prog 65 #[.slice (some ⟨g, 0, none⟩) d.size cap, .int .i64 ((0 : Nat) : Int), .int .i64 (d.size : Int), .int .i64 (Lib.bitLen d.size : Nat), .func (.func 52) #[] #[]] w
      fun e w' => e = .returned (.tuple #[]) ∧ SWK encD 2 w g 0 (pdq (ltOf cmpR) d 0 d.size (Lib.bitLen d.size) true true) w' :=
    AnyQ.pdqsortCmpFunc_all Tryz.sortD 2 Tryz.isAgg25 Tryz.sizeOf25 encD cmpR 52 #[] swoR g 0 cap d w eg (cmpLays g 0 _ w) ⟨fun _ => rfl, fun x u hu => by simp [encD] at hu; rcases hu with rfl | rfl <;> rfl, hH, hlt⟩ (d.size + 1) 0 d.size (Lib.bitLen d.size) d w (by omega) rfl (SWK.start hH) (Nat.zero_le _) (Nat.le_refl _) hl hlim (Or.inl rfl)
  have hb : Calls Tryz.prog 66 #[.int .u64 (d.size : Int)] w fun e w' => e = .returned (.int .i64 (Lib.bitLen d.size : Nat)) ∧ w' = w := by
    have h := Any.bits_Len (SlLaysF0.n15.bits Tryz.lenD) (d.size : Int) w (by omega) (by omega)
    rwa [Int.toNat_natCast] at h
  have wr : IntKind.u64.wrap (d.size : Int) = d.size := by simp [IntKind.wrap, IntKind.bits, IntKind.signed]; omega
  clear hH
  go_enter Tryz.func51, Tryz.ntmps51
  go_wp2_with (first | (go_at_call 66; refine hb.mono ?_; rintro e w' ⟨rfl, rfl⟩) | (go_at_call 65; refine hp.mono ?_; rintro e w' ⟨rfl, n, os, rfl⟩))
  go_end0
  have h := pdq_sorts (ltOf cmpR) swoR d 0 d.size (Lib.bitLen d.size) true true (Nat.zero_le _) (Nat.le_refl _) (Or.inl rfl)
  exact ⟨rfl, _, n, os, h.1, h.2, rfl⟩
theorem sortfn_none (p : Option Addr) (cap : Nat) (w : World) : Calls Tryz.prog 51 #[.slice p 0 cap, .func (.func 52) #[] #[]] w fun e w' => e = .returned (.tuple #[]) ∧ w = w' := by
  have hp : ∀ (lim : Int) (W : World), Calls Tryz.prog 65 #[.slice p 0 cap, .int .i64 0, .int .i64 0, .int .i64 lim, .func (.func 52) #[] #[]] W fun e w' => e = .returned (.tuple #[]) ∧ w' = W := fun lim W => AnyF.pdqsortCmpFunc_none Tryz.sortD p cap lim (.func (.func 52) #[] #[]) W
  have hl : ∀ W, Calls Tryz.prog 66 #[.int .u64 0] W fun e w' => e = .returned (.int .i64 (Lib.bitLen 0 : Nat)) ∧ w' = W := fun W => by
    have h := Any.bits_Len (SlLaysF0.n15.bits Tryz.lenD) 0 W (by omega) (by omega)
    exact h
  go_enter Tryz.func51, Tryz.ntmps51
  go_wp2_with (first | (go_at_call 66; refine (hl _).mono ?_; rintro e w' ⟨rfl, rfl⟩) | (go_at_call 65; refine (hp _ _).mono ?_; rintro e w' ⟨rfl, rfl⟩))
  go_end0
  exact ⟨rfl, by first | rfl | trivial⟩
/-- slices.SortFunc by replicas, at a row of one's own: the same dots, in order. -/
def SortP (xs : List S25) (v : Value) (ok : Nat → Prop) (base : Nat) (w : World) (en : Ending) (w' : World) : Prop :=
  en = .returned (.tuple #[]) ∧ ∃ ys : List S25, ys.length = xs.length ∧ ys.Perm xs ∧ (∀ i j, i < j → j < ys.length → ¬ ys.toArray[j]!.f0 < ys.toArray[i]!.f0) ∧ k25.R 25 w' base ok v ys ∧ Go.RowKit.Below base w w'
theorem sort_any (v : Value) (xs : List S25) (base : Nat) (ok : Nat → Prop) (w : World) (hw : base ≤ w.heap.size) (hl : xs.length < 4611686018427387904) (h : k25.R 25 w base ok v xs) :
    Calls Tryz.prog 51 #[v, .func (.func 52) #[] #[]] w (SortP xs v ok base w) := by
  obtain ⟨A, c, rfl, hc, hC⟩ := Kd.R_reads h
  by_cases hp : 0 < xs.length
  · obtain ⟨g, cap, e, hb, hlt, cells, hcell⟩ := Kd.R_form h hp
    injection e with e1 e2 e3
    subst e1 e3
    have hcon := sortfn_any g c xs.toArray w (holds_of_R h hp) hlt (by simpa using hl)
    refine Calls.mono hcon ?_
    rintro en w' ⟨rfl, d', n, os, ⟨hs, _, hperm⟩, hso, rfl⟩
    have hs' : d'.size = xs.length := by simpa using hs
    have e1 : d'.extract 0 xs.toArray.size = d' := by
      rw [show xs.toArray.size = d'.size by rw [hs]]; exact Array.extract_size
    have e2 : xs.toArray.extract 0 xs.toArray.size = xs.toArray := Array.extract_size
    rw [e1, e2] at hperm
    refine ⟨rfl, d'.toList, by rw [Array.length_toList, hs'], hperm, fun i j hij hj => ?_, R_put h hp n d' os hs', below_put hb hw n d' os⟩
    have q := hso i j (Nat.zero_le _) hij (by have e9 : d'.toList.length = xs.toArray.size := hs; exact e9 ▸ hj)
    rw [lt_of] at q
    exact of_decide_eq_false q
  · have e0 : xs = [] := by cases xs with | nil => rfl | cons _ _ => simp at hp
    subst e0
    refine Calls.mono (sortfn_none A c w) ?_
    rintro en w' ⟨rfl, rfl⟩
    exact ⟨rfl, [], rfl, List.Perm.refl _, fun i j _ hj => by simp at hj, h, Go.RowKit.Below.refl _ _⟩
end Go.Proofs.YtnbjkpfpcggopaaGreatDoor.Ev

/- slices.Grow of nil and slices.Concat of two, at rows of dots (XCg's walks, turned by a program). -/
namespace Go.Proofs.YtnbjkpfpcggopaaGreatDoor.Ev
open Go Go.RowKit Go.Proofs Go.Proofs.YtnbjkpfpcggopaaGreatDoorW.PrintWords Go.Proofs.YtnbjkpfpcggopaaGreatDoor.Kit Go.Proofs.YtnbjkpfpcggopaaGreatDoor.PAll
set_option linter.unusedSimpArgs false
set_option linter.unusedVariables false

def MadeD (xs : List S25) (w : World) (en : Ending) (w' : World) : Prop :=
  ∃ v, en = .returned v ∧ k25.R 25 w' w.heap.size (fun j => w.heap.size ≤ j) v xs ∧ Go.RowKit.Below w.heap.size w w'
set_option maxHeartbeats 2000000 in
theorem grow_nil (n : Nat) (hn : n ≤ 100000000) (w : World) : Calls Tryz.prog 54 #[.slice none 0 0, .int .i64 n] w (MadeD [] w) := by
  rcases Nat.eq_zero_or_pos n with rfl | hp
  · go_enter Tryz.func54, Tryz.ntmps54
    go_wp2
    go_ret
    exact ⟨_, rfl, Kd.R_nil _ _ _ _ _, Go.RowKit.Below.refl _ _⟩
  · have hd : decide ((n : Int) < 0) = false := decide_eq_false (by omega)
    have hd2 : decide ((0 : Int) < (n : Int)) = true := decide_eq_true (by omega)
    have hd3 : decide (0 < n) = true := decide_eq_true hp
    have hni : (n : Int) ≤ 100000000 := by omega
    have LN := Lib.hid (show (([] : List S25).length + (n : Int).toNat) * 16 ≤ 140737488355328 by simp; omega)
    have EN := Lib.hid (show (([] : List S25) ++ List.replicate (n : Int).toNat z25).length = n by simp)
    go_enter Tryz.func54, Tryz.ntmps54
    go_wp2_with ((with_reducible refine gate_builtin (b := .append) (xs := #[.tmp 20, .tmp 21]) rfl ?_); at_builtin; refine Go.RowKit.Hid.out ?_)
    unfold Go.RowKit.Hid
    refine Kd.R_append_zeros k25 (w0 := w) w.heap.size rfl (.tmp 20) (.tmp 21) 23 3 25 (.agg #[(.int .i64 0), (.int .i64 0)]) 16 rfl Tryz.underlying23 Tryz.underlying3 info25 rfl (by decide) (by omega) (.slice none 0 0) [] z25 (n : Int) (fun j => w.heap.size ≤ j) rfl rfl (k25_mkM _ _ _ z25) (fun k hk => hk) (Kd.R_nil _ _ _ _ _) (by omega) (Go.RowKit.Below.refl _ _) (Nat.le_refl _) LN.out ?_
    intro v7 w7 ho hb hg_ hat
    obtain ⟨A7, c7, rfl, hc7, _⟩ := Kd.R_reads ho
    have hc8 : (0 : Int) ≤ (c7 : Int) := by omega
    have HO := Lib.hid ho
    have KB := Lib.hid hb
    rw [EN.out]
    clear ho hb hg_ hat hc7
    go_wp2
    go_ret
    exact ⟨_, rfl, by simpa using Kd.R_take HO.out (m := 0) (Nat.zero_le _), KB.out⟩
set_option maxHeartbeats 4000000 in
theorem concat_two (g : Nat) (T : TypeId) (A0 : Option Addr) (c0 : Nat) (xs0 : List S25) (A1 : Option Addr) (c1 : Nat) (xs1 : List S25) (w : World) (hb : w.heap[g]? = some (.cells #[.slice A0 xs0.length c0, .slice A1 xs1.length c1] T (0, 0))) (h0 : k25.C w A0 xs0.length xs0) (h1 : k25.C w A1 xs1.length xs1) (hl : xs0.length + xs1.length ≤ 10000000) :
    Calls Tryz.prog 42 #[.slice (some ⟨g, 0, none⟩) 2 2] w (MadeD (xs0 ++ xs1) w) := by
  have HB := Lib.hid hb
  have H0 := Lib.hid h0
  have H1 := Lib.hid h1
  have HL := Lib.hid hl
  have GR := Lib.hid (grow_nil (xs0.length + xs1.length) (by omega))
  have l0 : (xs0.length : Int) ≤ 10000000 := by omega
  have l1 : (xs1.length : Int) ≤ 10000000 := by omega
  have l2 : (xs0.length : Int) + xs1.length ≤ 10000000 := by omega
  clear hb h0 h1 hl
  go_enter Tryz.func42, Tryz.ntmps42
  go_wp2
  go_loopw [3, 11] (fun s i wr => ∃ k : Nat, i = .int .i64 k ∧ Go.RowKit.Below w.heap.size w wr ∧ ((k = 0 ∧ s = .int .i64 0) ∨ (k = 1 ∧ s = .int .i64 xs0.length) ∨ (k = 2 ∧ s = .int .i64 ((xs0.length + xs1.length : Nat) : Int)))) (fun _ i _ => (2 : Int).toNat - (intOf i).toNat)
  case atStart => exact ⟨0, rfl, Go.RowKit.Below.refl _ _, .inl ⟨rfl, rfl⟩⟩
  case round =>
    obtain ⟨k, rfl, hB, hk⟩ := hrel
    have hbx := blk_below HB.out hB
    have p0 := (blk_cell hbx 0).trans rfl
    have p1 := (blk_cell hbx 1).trans rfl
    have KB := Lib.hid hB
    clear hbx hB
    rcases hk with ⟨rfl, rfl⟩ | ⟨rfl, rfl⟩ | ⟨rfl, rfl⟩
    · go_wp2
      go_roundw
      case rel => exact ⟨1, by go_num, KB.out, .inr (.inl ⟨rfl, by go_num⟩)⟩
      case measure => simp [intOf]
    · go_wp2
      go_roundw
      case rel => exact ⟨2, by go_num, KB.out, .inr (.inr ⟨rfl, by rw [Int.natCast_add]⟩)⟩
      case measure => simp [intOf]
    · clear p0 p1
      rw [Int.natCast_add] at GR ⊢
      go_upto_region 10 with (go_at_call 54; refine (GR.out _).mono ?_; rintro en w1 ⟨v1, rfl, hr, hb⟩; have HO := Lib.hid (Kd.R_lower (Kd.R_mono hr (fun j hj => Nat.le_trans KB.out.size hj)) KB.out.size); have KB := Lib.hid (below_step KB.out hb); clear hr hb)
      go_wp2
      go_loopw [6, 27] (fun u i wr => ∃ k : Nat, i = .int .i64 k ∧ Go.RowKit.Below w.heap.size w wr ∧ ((k = 0 ∧ k25.R 25 wr w.heap.size (fun j => w.heap.size ≤ j) u []) ∨ (k = 1 ∧ k25.R 25 wr w.heap.size (fun j => w.heap.size ≤ j) u xs0) ∨ (k = 2 ∧ k25.R 25 wr w.heap.size (fun j => w.heap.size ≤ j) u (xs0 ++ xs1)))) (fun _ i _ => (2 : Int).toNat - (intOf i).toNat)
      case atStart => exact ⟨0, rfl, KB.out, .inl ⟨rfl, HO.out⟩⟩
      case round =>
        clear KB HO
        obtain ⟨k, rfl, hB, hk⟩ := hrel
        have hbx := blk_below HB.out hB
        have p0 := (blk_cell hbx 0).trans rfl
        have p1 := (blk_cell hbx 1).trans rfl
        have KB := Lib.hid hB
        clear hbx hB
        rcases hk with ⟨rfl, hO⟩ | ⟨rfl, hO⟩ | ⟨rfl, hO⟩
        · have HO := Lib.hid hO
          clear hO
          go_wp2_with ((with_reducible refine gate_builtin (b := .append) (xs := #[.tmp 31, .tmp 32]) rfl ?_); at_builtin; refine Kd.R_append_rows k25 (w0 := w) w.heap.size rfl (.tmp 31) (.tmp 32) 23 25 (.agg #[(.int .i64 0), (.int .i64 0)]) 16 rfl Tryz.underlying23 info25 rfl (by decide) (by omega) u6 [] xs0 _ _ _ (fun j => w.heap.size ≤ j) (fun _ => False) rfl rfl HO.out (Kd.C_below H0.out KB.out) (fun _ _ h => h) (fun _ h => h.elim) (fun k hk => Nat.le_trans KB.out.size hk) KB.out KB.out.size (by have := HL.out; simp; omega) ?_; intro v7 w7 ho hb hg_ hat; rw [List.nil_append] at ho; have HO := Lib.hid ho; have KB := Lib.hid hb; clear ho hb hg_ hat)
          go_roundw
          case rel => exact ⟨1, by go_num, KB.out, .inr (.inl ⟨rfl, HO.out⟩)⟩
          case measure => simp [intOf]
        · have HO := Lib.hid hO
          clear hO
          go_wp2_with ((with_reducible refine gate_builtin (b := .append) (xs := #[.tmp 31, .tmp 32]) rfl ?_); at_builtin; refine Kd.R_append_rows k25 (w0 := w) w.heap.size rfl (.tmp 31) (.tmp 32) 23 25 (.agg #[(.int .i64 0), (.int .i64 0)]) 16 rfl Tryz.underlying23 info25 rfl (by decide) (by omega) u6 xs0 xs1 _ _ _ (fun j => w.heap.size ≤ j) (fun _ => False) rfl rfl HO.out (Kd.C_below H1.out KB.out) (fun _ _ h => h) (fun _ h => h.elim) (fun k hk => Nat.le_trans KB.out.size hk) KB.out KB.out.size (by have := HL.out; omega) ?_; intro v7 w7 ho hb hg_ hat; have HO := Lib.hid ho; have KB := Lib.hid hb; clear ho hb hg_ hat)
          go_roundw
          case rel => exact ⟨2, by go_num, KB.out, .inr (.inr ⟨rfl, HO.out⟩)⟩
          case measure => simp [intOf]
        · have HO := Lib.hid hO
          clear hO
          go_wp2
          go_ret
          exact ⟨_, rfl, HO.out, KB.out⟩
end Go.Proofs.YtnbjkpfpcggopaaGreatDoor.Ev

/- Version vectors, walks: made. -/
namespace Go.Proofs.YtnbjkpfpcggopaaGreatDoor.Ev
open Go Go.RowKit Go.Proofs Go.Maps Go.Proofs.YtnbjkpfpcggopaaGreatDoorW.PrintWords Go.Proofs.YtnbjkpfpcggopaaGreatDoor.Kit Go.Proofs.YtnbjkpfpcggopaaGreatDoor.PAll Go.Proofs.YtnbjkpfpcggopaaGreatDoor.Dl
set_option linter.unusedSimpArgs false
set_option linter.unusedVariables false

theorem lawI : Keyed Tryz.prog 3 := int_keyed Tryz.underlying3
theorem zeroI (w : World) : (zeroValue 3).run Tryz.prog w = .ok (.int .i64 0) w := by kernel_rfl
theorem wfI (x : Int) (h0 : -9223372036854775808 ≤ x) (h1 : x ≤ 9223372036854775807) : (Lit.int .i64 x).wf = true := by simp [Lit.wf, IntKind.min, IntKind.max, IntKind.bits, IntKind.signed]; omega
theorem mx_le {l : List S25} (h : ∀ x ∈ l, okS x) (r : Int) : mx l r ≤ 4294967295 := by
  induction l with
  | nil => show (0 : Int) ≤ _; omega
  | cons x l ih =>
    have h1 := h x List.mem_cons_self
    have h2 := ih (fun y hy => h y (List.mem_cons_of_mem _ hy))
    unfold okS Dx.okDot at h1
    unfold mx
    split <;> omega
theorem getD_mem {xs : List S25} {k : Nat} (h : k < xs.length) : xs.getD k z25 ∈ xs := by
  rw [List.getD_eq_getElem?_getD, List.getElem?_eq_getElem h]
  exact List.getElem_mem h
theorem take_getD (xs : List S25) (k : Nat) (h : k < xs.length) : xs.take (k + 1) = xs.take k ++ [xs.getD k z25] := by
  rw [List.take_succ_eq_append_getElem h, List.getD_eq_getElem?_getD, List.getElem?_eq_getElem h]
  rfl
set_option maxHeartbeats 4000000 in
set_option maxRecDepth 100000 in
theorem made_any (A : Option Addr) (c : Nat) (xs : List S25) (w : World) (hx : k25.C w A xs.length xs) (hl : xs.length ≤ 1000000) (hok : ∀ x ∈ xs, okS x) :
    Calls Tryz.prog 41 #[.slice A xs.length c] w (MadeD (madeV xs) w) := by
  have HX := Lib.hid hx
  have OK := Lib.hid hok
  have HL := Lib.hid hl
  have hli : (xs.length : Int) ≤ 1000000 := by omega
  clear hx hok hl
  have hmm := @run_makeMap Tryz.prog
  go_enter Tryz.func41, Tryz.ntmps41
  go_wp2
  go_loopw [12] (fun i wr => ∃ (k : Nat) (D : DataW Unit), k ≤ xs.length ∧ i = .int .i64 k ∧ wr.ownsMap Tryz.prog 3 (plainElem Tryz.prog 3) w.heap.size k D ∧ Mo D (xs.take k) ∧ Below w.heap.size w wr) (fun i _ => xs.length - (intOf i).toNat)
  case atStart => exact ⟨0, .map [], Nat.zero_le _, rfl, World.ownsMap_made _ _ _ _, mo_nil, below_alloc (Below.refl _ _) _⟩
  case round =>
    obtain ⟨k, D, hk, rfl, hown, hmo, hB⟩ := hrel
    have KB := Lib.hid hB
    have MO := Lib.hid hmo
    have OW := Lib.hid hown
    clear hB hmo hown
    by_cases hlt : k < xs.length
    · obtain ⟨ad, eA, q0, q1⟩ := at_T25 (Kd.C_below HX.out KB.out) (k : Int) (by omega) (by omega)
      subst eA
      have hrd : rd_T25 xs (k : Int) = xs.getD k z25 := by unfold rd_T25; rw [Int.toNat_natCast]
      rw [hrd, Int.toNat_natCast] at q0 q1
      have hm := getD_mem hlt
      have ho := OK.out _ hm
      have TK := Lib.hid (take_getD xs k hlt)
      have ho1 := ho.1
      have ho2 := ho.2.1
      have ho3 := ho.2.2.1
      have ho4 := ho.2.2.2
      have hmx := mx_le (l := xs.take k) (fun y hy => OK.out y (List.mem_of_mem_take hy)) (xs.getD k z25).f0
      have hmn := mx_nneg (xs.take k) (xs.getD k z25).f0
      have MA := Lib.hid (MO.out.2.2 (xs.getD k z25).f0)
      clear hm ho hrd
      generalize xs.getD k z25 = x at q0 q1 TK ho1 ho2 ho3 ho4 hmx hmn MA
      obtain ⟨m, em⟩ : ∃ m, mx (xs.take k) x.f0 = m := ⟨_, rfl⟩
      rw [em] at hmx hmn MA
      have EM := Lib.hid em
      clear em
      have KA := Lib.hid (OW.out.alloc (.cells #[.int .i64 x.f0, .int .i64 x.f1] 25))
      have WF := Lib.hid (wfI x.f0 (by omega) (by omega))
      have W2 := Lib.hid (wfI (max m x.f1) (by omega) (by omega))
      go_wp2_with (first
        | (at_lookup; refine wpList_lookup_own_int _ rfl _ _ 74 rfl 3 3 .i64 lawI Tryz.underlying74 Tryz.underlying3 (zeroI _) w.heap.size k D rfl KA.out _ _ rfl (keyOf_int_mk Tryz.underlying3 WF.out) ?_; intro c hat hwc; obtain rfl : m = c := by (rw [MA.out] at hat; injection hat with hat; injection hat))
        | (at_mapUpdate; refine wpList_mapUpdate_own _ rfl _ _ _ 74 rfl 3 3 lawI Tryz.underlying74 _ w.heap.size k D rfl KA.out (by unfold maxLen; have := HL.out; omega) _ _ _ rfl rfl (keyOf_int_mk Tryz.underlying3 WF.out) _ [] (plainElem_int Tryz.underlying3 W2.out) ?_; intro w1 hown1 hgrow1)
        | go_in)
      go_roundw
      case rel =>
        refine ⟨k + 1, _, by omega, by go_num, hown1.mono (by omega), ?_, (below_alloc KB.out _).grown hgrow1 (below_alloc KB.out _).size (fun j hj => by cases hj; exact Nat.le_refl _)⟩
        rw [TK.out]
        exact mo_snoc MO.out x _ (by rw [EM.out])
      case measure => simp [intOf]; omega
    · obtain rfl : k = xs.length := by omega
      have hmo : Mo D xs := by have := MO.out; rwa [List.take_length] at this
      have M2 := Lib.hid hmo
      clear hmo MO
      have SL := Lib.hid OW.out.size_le
      go_wp2_with (first
        | (at_range; refine wpList_range_own _ rfl _ 74 rfl 3 3 lawI Tryz.underlying74 _ w.heap.size xs.length D rfl OW.out ?_; intro w0 hrg0 hg0 hs0)
        | go_in)
      go_frame
      have B0 := Lib.hid (KB.out.grown hg0 KB.out.size (fun j hj => by cases hj))
      have hz : w.heap.size < wr.heap.size := OW.out.lt
      have HZ := Lib.hid hz
      have RG0 := Lib.hid hrg0
      have HS0 := Lib.hid hs0
      clear hrg0 hs0 hg0
      generalize hr : wr.heap.size = r at RG0 HS0 HZ ⊢
      clear hr OW KB hz hlt hk
      go_loopw [6] (fun u ws => ∃ (left : Lit → Bool) (cnt : Nat) (out : List S25), ws.ranges Tryz.prog 3 (plainElem Tryz.prog 3) w.heap.size r xs.length D left cnt ∧ Cl D left out ∧ out.length + cnt ≤ xs.length ∧ k25.R 25 ws w.heap.size (fun j => r < j) u out ∧ Below w.heap.size w ws ∧ r < ws.heap.size) (fun _ ws => ws.rangeLeft w.heap.size r)
      case atStart => exact ⟨_, _, [], RG0.out, cl_start D, by simpa using SL.out, Kd.R_nil _ _ _ _ _, B0.out, by have := HS0.out; omega⟩
      case round =>
        clear RG0 B0 HS0
        obtain ⟨left, cnt, out, hrg, hcl, hcnt, hR, hB, hrs⟩ := hrel
        have RG := Lib.hid hrg
        have CL := Lib.hid hcl
        have RR := Lib.hid hR
        have KB := Lib.hid hB
        have HC := Lib.hid hcnt
        have RS := Lib.hid hrs
        clear hcl hR hB hcnt hrs
        go_wp2_with (first
          | (at_next; refine wpList_next_ranges_ii _ rfl _ rfl 3 3 .i64 .i64 lawI Tryz.underlying3 Tryz.underlying3 w.heap.size r xs.length _ _ _ rfl hrg ?_ ?_)
          | go_in)
        · intro hc0 hl0
          clear hrg
          have L0 := Lib.hid hl0
          clear hl0 hc0
          have SO := Lib.hid (sort_any u6 out w.heap.size (fun j => r < j) wr KB.out.size (by have := HC.out; have := HL.out; omega) RR.out)
          go_wp2_with (go_at_call 51; refine SO.out.mono ?_; rintro en w9 ⟨rfl, ys, h1, h2, h3, h4, h5⟩; have Y1 := Lib.hid h2; have Y2 := Lib.hid h3; have Y3 := Lib.hid h4; have K9 := Lib.hid (KB.out.trans h5); clear h1 h2 h3 h4 h5)
          go_ret
          have e : ys = madeV xs := made_of OK.out (srt_of (fun i j h1 h2 => Int.not_lt.2 (Y2.out i j h1 h2)) ((List.Perm.pairwise_iff (fun h => Ne.symm h) Y1.out).2 CL.out.2)) (fun y => Y1.out.mem_iff.trans (cl_end CL.out M2.out L0.out y))
          exact ⟨_, rfl, by rw [← e]; exact Kd.R_mono Y3.out (fun j hj => by have := HZ.out; omega), K9.out⟩
        · intro x y w1 cnt1 hwx hwc hlx hat hrg1 hlt hg1 hs1 hen
          have hl1 := hrg.left_eq
          have hl2 := hrg1.left_eq
          have R1 := Lib.hid (Kd.R_grown RR.out hg1 (fun k hk e => by injection e with e; omega))
          have K1 := Lib.hid (KB.out.grown hg1 KB.out.size (fun j e => by cases e; have := HZ.out; omega))
          have CS := Lib.hid (cl_step CL.out x y hlx hat)
          have TL := Lib.hid (show (out.length + 1) * 16 ≤ 140737488355328 by have := HC.out; have := HL.out; omega)
          have RS1 := Lib.hid (show r < w1.heap.size by rw [hs1]; exact RS.out)
          have LT := Lib.hid (show out.length + 1 + cnt1 ≤ xs.length by have := HC.out; omega)
          have G1 := Lib.hid hrg1
          have HLT := Lib.hid hlt
          have E1 := Lib.hid hl1
          have E2 := Lib.hid hl2
          clear hrg hg1 hs1 hlx hat hrg1 hlt hl1 hl2 RR KB RG RS HC hwx hwc
          go_wp2_with (first
            | (at_builtin; refine Kd.R_append k25 (w0 := w) (W := w1) w.heap.size rfl (.tmp 34) (.tmp 38) 23 25 (.agg #[.int .i64 0, .int .i64 0]) 16 rfl Tryz.underlying23 info25 rfl (by decide) (by decide) u6 out ⟨x, y⟩ [.int .i64 x, .int .i64 y] (fun j => r < j) (fun _ => False) (by rfl) (by rfl) (k25_mkM _ _ _ ⟨x, y⟩) (fun _ h => h.elim) (fun j hj => Nat.lt_of_lt_of_le RS1.out hj) R1.out K1.out K1.out.size TL.out ?_; intro v2 w2 hR2 hB2 hG2 hn2; have R2 := Lib.hid hR2; have B2 := Lib.hid hB2; have G2 := Lib.hid hG2; clear hR2 hB2 hG2)
            | go_in)
          have ho : ∀ b, u6.ownBlock = some b → r < b := R1.out.1
          have G3 := G1.out.kept G2.out (fun e => by have := ho _ e.symm; have := HZ.out; omega) (fun e => by have := ho _ e.symm; omega)
          go_roundw
          case rel => exact ⟨_, cnt1, _, G3, CS.out, by rw [List.length_append]; exact LT.out, R2.out, B2.out, Nat.lt_of_lt_of_le RS1.out G2.out.size⟩
          case measure => rw [G3.left_eq, E1.out]; exact HLT.out
end Go.Proofs.YtnbjkpfpcggopaaGreatDoor.Ev

/- Version vectors, walks: Of, Merge, Raise, slices.Equal, Order. -/
namespace Go.Proofs.YtnbjkpfpcggopaaGreatDoor.Ev
open Go Go.RowKit Go.Proofs Go.Proofs.YtnbjkpfpcggopaaGreatDoorW.PrintWords Go.Proofs.YtnbjkpfpcggopaaGreatDoor.Kit Go.Proofs.YtnbjkpfpcggopaaGreatDoor.PAll Go.Proofs.YtnbjkpfpcggopaaGreatDoor.Dl
set_option linter.unusedSimpArgs false
set_option linter.unusedVariables false

theorem vecok_iff (l : List S25) : VecOk l ↔ VOk l := by
  unfold VecOk VOk SrtV
  refine and_congr ?_ Iff.rfl
  constructor
  · intro h
    rw [List.pairwise_iff_getElem]
    have key : ∀ n i, (hi : i + n + 1 < l.length) → l[i].f0 < l[i + n + 1].f0 := by
      intro n
      induction n with
      | zero =>
        intro i hi
        have := h i hi
        rw [List.getD_eq_getElem?_getD, List.getD_eq_getElem?_getD, List.getElem?_eq_getElem hi, List.getElem?_eq_getElem (by omega)] at this
        exact this
      | succ n ih =>
        intro i hi
        have h1 := ih i (by omega)
        have h2 := h (i + n + 1) (by omega)
        rw [List.getD_eq_getElem?_getD, List.getD_eq_getElem?_getD, List.getElem?_eq_getElem (by omega), List.getElem?_eq_getElem (by omega)] at h2
        exact Int.lt_trans h1 h2
    intro i j hi hj hij
    obtain ⟨n, rfl⟩ : ∃ n, j = i + n + 1 := ⟨j - i - 1, by omega⟩
    exact key n i hj
  · intro h j hj
    have := List.pairwise_iff_getElem.1 h j (j + 1) (by omega) hj (by omega)
    rw [List.getD_eq_getElem?_getD, List.getD_eq_getElem?_getD, List.getElem?_eq_getElem hj, List.getElem?_eq_getElem (by omega)]
    exact this
def MadeT (xs : List S25) (n : Int) (w : World) (en : Ending) (w' : World) : Prop :=
  ∃ v, en = .returned (.tuple #[v, .int .i64 n]) ∧ k25.R 25 w' w.heap.size (fun j => w.heap.size ≤ j) v xs ∧ Below w.heap.size w w'
/-- What Of returns. -/
def ofV (l : List S25) : List S25 × Int := if ∀ x ∈ l, okS x then (madeV l, 0) else ([], 2)
/-- What Merge returns. -/
def mrgV (a b : List S25) : List S25 × Int := if VOk a ∧ VOk b then (mergeV a b, 0) else ([], 2)
theorem R_later {w w1 w2 : World} {v : Value} {xs : List S25} (h : k25.R 25 w2 w1.heap.size (fun j => w1.heap.size ≤ j) v xs) (hb : w.heap.size ≤ w1.heap.size) : k25.R 25 w2 w.heap.size (fun j => w.heap.size ≤ j) v xs :=
  Kd.R_lower (Kd.R_mono h (fun _ hj => Nat.le_trans hb hj)) hb
set_option maxHeartbeats 2000000 in
set_option maxRecDepth 100000 in
theorem of_any (A : Option Addr) (c : Nat) (xs : List S25) (w : World) (hx : k25.C w A xs.length xs) (hl : xs.length ≤ 1000000) : Calls Tryz.prog 39 #[.slice A xs.length c] w (MadeT (ofV xs).1 (ofV xs).2 w) := by
  have HX := Lib.hid hx
  by_cases h : ∀ x ∈ xs, okS x
  · have e : ofV xs = (madeV xs, 0) := if_pos h
    rw [e]
    have CV := Lib.hid (fun W hc => con_vinvD A c xs false W okS hc ⟨fun q => Bool.noConfusion q, fun q => absurd h q⟩ (fun x w' _ => vinv_any x w'))
    have MA := Lib.hid (fun W hc => made_any A c xs W hc hl h)
    clear hx hl h e
    go_enter Tryz.func39, Tryz.ntmps39
    go_wp2_with (first
      | (go_at_call 50; refine (CV.out _ HX.out).mono ?_; rintro en w1 ⟨rfl, hb⟩; have KB := Lib.hid hb; clear hb)
      | (go_at_call 41; refine (MA.out _ (Kd.C_below HX.out KB.out)).mono ?_; rintro en w2 ⟨v2, rfl, hr, hb⟩; have R2 := Lib.hid (R_later hr KB.out.size); have K2 := Lib.hid (below_step KB.out hb); clear hb hr))
    go_ret2
    exact ⟨v2, rfl, R2.out, K2.out⟩
  · have e : ofV xs = ([], 2) := if_neg h
    rw [e]
    have CV := Lib.hid (fun W hc => con_vinvD A c xs true W okS hc ⟨fun _ => h, fun _ => rfl⟩ (fun x w' _ => vinv_any x w'))
    clear hx hl h e
    go_enter Tryz.func39, Tryz.ntmps39
    go_wp2_with (go_at_call 50; refine (CV.out _ HX.out).mono ?_; rintro en w1 ⟨rfl, hb⟩; have KB := Lib.hid hb; clear hb)
    go_ret2
    exact ⟨_, rfl, Kd.R_nil _ _ _ _ _, KB.out⟩
set_option maxHeartbeats 2000000 in
set_option maxRecDepth 100000 in
theorem merge_any (A : Option Addr) (c : Nat) (xs : List S25) (A1 : Option Addr) (c1 : Nat) (ys : List S25) (w : World) (hx : k25.C w A xs.length xs) (hy : k25.C w A1 ys.length ys) (hl : xs.length + ys.length ≤ 1000000) :
    Calls Tryz.prog 23 #[.slice A xs.length c, .slice A1 ys.length c1] w (MadeT (mrgV xs ys).1 (mrgV xs ys).2 w) := by
  have HX := Lib.hid hx
  have HY := Lib.hid hy
  by_cases h : VOk xs
  · have V1 := Lib.hid (fun W hc => vvalid_any A c xs true W hc (by omega) ⟨fun _ => (vecok_iff xs).2 h, fun _ => rfl⟩)
    by_cases k : VOk ys
    · have V2 := Lib.hid (fun W hc => vvalid_any A1 c1 ys true W hc (by omega) ⟨fun _ => (vecok_iff ys).2 k, fun _ => rfl⟩)
      have e : mrgV xs ys = (madeV (xs ++ ys), 0) := by rw [made_two h]; exact if_pos ⟨h, k⟩
      rw [e]
      have hok : ∀ x ∈ xs ++ ys, okS x := fun x hx => (List.mem_append.1 hx).elim (h.2 x) (k.2 x)
      have ma : ∀ A2 c2 W, k25.C W A2 (xs ++ ys).length (xs ++ ys) → Calls Tryz.prog 41 #[.slice A2 (xs.length + ys.length) c2] W (MadeD (madeV (xs ++ ys)) W) := fun A2 c2 W hc => by
        have := made_any A2 c2 (xs ++ ys) W hc (by rw [List.length_append]; omega) hok
        rwa [List.length_append] at this
      have MA := Lib.hid ma
      clear ma
      have LL := Lib.hid (show xs.length + ys.length ≤ 10000000 by omega)
      clear hx hy hl h k e hok
      go_enter Tryz.func23, Tryz.ntmps23
      go_wp2_with (first
        | (go_at_call 9; refine (V1.out _ HX.out).mono ?_; rintro en w1 ⟨rfl, hb⟩; have KB := Lib.hid hb; clear hb V1)
        | (go_at_call 9; refine (V2.out _ (Kd.C_below HY.out KB.out)).mono ?_; rintro en w2 ⟨rfl, hb⟩; have KB := Lib.hid (below_step KB.out hb); have hbx := blk_new w2 (.cells #[.slice A xs.length c, .slice A1 ys.length c1] 23); have CC := Lib.hid (concat_two w2.heap.size 23 A c xs A1 c1 ys _ hbx (Kd.C_below (Kd.C_below HX.out KB.out) (below_alloc (Below.refl _ _) _)) (Kd.C_below (Kd.C_below HY.out KB.out) (below_alloc (Below.refl _ _) _)) LL.out); have KA := Lib.hid (below_alloc KB.out (.cells #[.slice A xs.length c, .slice A1 ys.length c1] 23)); clear hb hbx V2)
        | (go_at_call 42; refine CC.out.mono ?_; rintro en w3 ⟨v3, rfl, hr, hb⟩; obtain ⟨A3, c3, rfl, _, hC⟩ := Kd.R_reads hr; have C3 := Lib.hid hC; have K3 := Lib.hid (below_step KA.out hb); clear hb hr hC CC)
        | (go_at_call 41; refine (MA.out _ _ _ C3.out).mono ?_; rintro en w4 ⟨v4, rfl, hr, hb⟩; have R4 := Lib.hid (R_later hr K3.out.size); have K4 := Lib.hid (below_step K3.out hb); clear hb hr))
      go_ret2
      exact ⟨v4, rfl, R4.out, K4.out⟩
    · have V2 := Lib.hid (fun W hc => vvalid_any A1 c1 ys false W hc (by omega) ⟨fun q => Bool.noConfusion q, fun q => absurd ((vecok_iff ys).1 q) k⟩)
      have e : mrgV xs ys = ([], 2) := if_neg (fun q => k q.2)
      rw [e]
      clear hx hy hl h k e
      go_enter Tryz.func23, Tryz.ntmps23
      go_wp2_with (first
        | (go_at_call 9; refine (V1.out _ HX.out).mono ?_; rintro en w1 ⟨rfl, hb⟩; have KB := Lib.hid hb; clear hb V1)
        | (go_at_call 9; refine (V2.out _ (Kd.C_below HY.out KB.out)).mono ?_; rintro en w2 ⟨rfl, hb⟩; have KB := Lib.hid (below_step KB.out hb); clear hb V2))
      go_ret2
      exact ⟨_, rfl, Kd.R_nil _ _ _ _ _, KB.out⟩
  · have V1 := Lib.hid (fun W hc => vvalid_any A c xs false W hc (by omega) ⟨fun q => Bool.noConfusion q, fun q => absurd ((vecok_iff xs).1 q) h⟩)
    have e : mrgV xs ys = ([], 2) := if_neg (fun q => h q.1)
    rw [e]
    clear hx hy hl h e
    go_enter Tryz.func23, Tryz.ntmps23
    go_wp2_with (go_at_call 9; refine (V1.out _ HX.out).mono ?_; rintro en w1 ⟨rfl, hb⟩; have KB := Lib.hid hb; clear hb V1)
    go_ret2
    exact ⟨_, rfl, Kd.R_nil _ _ _ _ _, KB.out⟩
/-- A literal of one dot reads as it. -/
theorem C_lit (w : World) (d : S25) : k25.C (w.alloc (.cells #[.int .i64 d.f0, .int .i64 d.f1] 25)) (some ⟨w.heap.size, 0, none⟩) ([d] : List S25).length [d] := by
  have h2 := World.ownsRow_lit (base := w.heap.size) (e := 25) (size := 2) w #[.int .i64 d.f0, .int .i64 d.f1] 1 (Nat.le_refl _) (by decide) rfl
  have hR : k25.R 25 (w.alloc (.cells #[.int .i64 d.f0, .int .i64 d.f1] 25)) w.heap.size (fun _ => True) (.slice (some ⟨w.heap.size, 0, none⟩) ([d] : List S25).length 1) [d] :=
    ⟨fun _ _ => trivial, [.int .i64 d.f0, .int .i64 d.f1], h2, rfl, fun j p hj => by
      rcases j with _ | j
      · obtain rfl : d = p := by simpa using hj
        exact k25_mkM _ _ _ d
      · simp at hj⟩
  exact (Kd.R_reads' hR).2.2
set_option maxHeartbeats 2000000 in
set_option maxRecDepth 100000 in
theorem raise_any (A : Option Addr) (c : Nat) (xs : List S25) (d : S25) (w : World) (hx : k25.C w A xs.length xs) (hl : xs.length ≤ 100000) :
    Calls Tryz.prog 40 #[.slice A xs.length c, .agg #[.int .i64 d.f0, .int .i64 d.f1]] w (MadeT (mrgV xs [d]).1 (mrgV xs [d]).2 w) := by
  have HX := Lib.hid hx
  have ma : ∀ W, k25.C W A xs.length xs → k25.C W (some ⟨w.heap.size + 1, 0, none⟩) ([d] : List S25).length [d] → Calls Tryz.prog 23 #[.slice A xs.length c, .slice (some ⟨w.heap.size + 1, 0, none⟩) 1 1] W (MadeT (mrgV xs [d]).1 (mrgV xs [d]).2 W) :=
    fun W hc1 hc2 => merge_any A c xs (some ⟨w.heap.size + 1, 0, none⟩) 1 [d] W hc1 hc2 (by simp; omega)
  have MA := Lib.hid ma
  clear ma
  have CL := Lib.hid (C_lit (w.alloc (.cells #[.int .i64 d.f0, .int .i64 d.f1] 25)) d)
  rw [World.size_alloc] at CL
  obtain ⟨p, hp⟩ : ∃ p, mrgV xs [d] = p := ⟨_, rfl⟩
  rw [hp] at MA ⊢
  obtain ⟨p1, p2⟩ := p
  clear hx hl hp
  go_enter Tryz.func40, Tryz.ntmps40
  go_wp2_with (go_at_call 23; refine (MA.out _ (Kd.C_alloc (Kd.C_alloc HX.out _) _) CL.out).mono ?_; rintro en w1 ⟨v1, rfl, hr, hb⟩; have R1 := Lib.hid (R_later hr (below_alloc (below_alloc (Below.refl w.heap.size w) _) _).size); have K1 := Lib.hid (below_step (below_alloc (below_alloc (Below.refl w.heap.size w) _) _) hb); clear hb hr)
  go_ret2
  exact ⟨v1, rfl, R1.out, K1.out⟩
end Go.Proofs.YtnbjkpfpcggopaaGreatDoor.Ev

/- Version vectors, walks: slices.Equal, Order. -/
namespace Go.Proofs.YtnbjkpfpcggopaaGreatDoor.Ev
open Go Go.RowKit Go.Proofs Go.Proofs.YtnbjkpfpcggopaaGreatDoorW.PrintWords Go.Proofs.YtnbjkpfpcggopaaGreatDoor.Kit Go.Proofs.YtnbjkpfpcggopaaGreatDoor.PAll Go.Proofs.YtnbjkpfpcggopaaGreatDoor.Dl
set_option linter.unusedSimpArgs false
set_option linter.unusedVariables false

theorem ext_get {xs ys : List S25} (hl : xs.length = ys.length) (h : ∀ j, j < xs.length → xs.getD j z25 = ys.getD j z25) : xs = ys := by
  apply List.ext_getElem hl
  intro i h1 h2
  have := h i h1
  rwa [List.getD_eq_getElem?_getD, List.getD_eq_getElem?_getD, List.getElem?_eq_getElem h1, List.getElem?_eq_getElem h2] at this
set_option maxHeartbeats 2000000 in
set_option maxRecDepth 100000 in
theorem equal_any (A : Option Addr) (c : Nat) (xs : List S25) (A1 : Option Addr) (c1 : Nat) (ys : List S25) (w : World) (hx : k25.C w A xs.length xs) (hy : k25.C w A1 ys.length ys) (hl : xs.length ≤ 1000000) :
    Calls Tryz.prog 47 #[.slice A xs.length c, .slice A1 ys.length c1] w (BeP (.bool (decide (xs = ys))) w) := by
  have HX := Lib.hid hx
  have HY := Lib.hid hy
  have lxi : (xs.length : Int) ≤ 1000000 := by omega
  by_cases h : xs.length = ys.length
  · have lyi : (ys.length : Int) = (xs.length : Int) := by omega
    have HL := Lib.hid h
    clear hx hy hl h
    go_enter Tryz.func47, Tryz.ntmps47
    go_wp2
    go_loopw [13] (fun i wr => ∃ k : Nat, k ≤ xs.length ∧ i = .int .i64 k ∧ (∀ j, j < k → xs.getD j z25 = ys.getD j z25) ∧ Below w.heap.size w wr) (fun i _ => xs.length - (intOf i).toNat)
    case atStart => exact ⟨0, Nat.zero_le _, rfl, fun j hj => by omega, Below.refl _ _⟩
    case round =>
      obtain ⟨k, hk, rfl, hall, hB⟩ := hrel
      have HA := Lib.hid hall
      have KB := Lib.hid hB
      clear hall hB
      by_cases hlt : k < xs.length
      · have hlt2 : k < ys.length := by have := HL.out; omega
        obtain ⟨ad, eA, q0, q1⟩ := at_T25 (Kd.C_below HX.out (below_drew KB.out)) (k : Int) (by omega) (by omega)
        obtain ⟨ad2, eA2, r0, r1⟩ := at_T25 (Kd.C_below HY.out (below_drew KB.out)) (k : Int) (by omega) (by omega)
        subst eA eA2
        have hrd : ∀ l : List S25, rd_T25 l (k : Int) = l.getD k z25 := fun l => by unfold rd_T25; rw [Int.toNat_natCast]
        rw [hrd, Int.toNat_natCast] at q0 q1
        rw [hrd, Int.toNat_natCast] at r0 r1
        generalize hxd : xs.getD k z25 = x at q0 q1
        generalize hyd : ys.getD k z25 = y at r0 r1
        have X := Lib.hid hxd
        have Y := Lib.hid hyd
        clear hrd hxd hyd
        have KD := Lib.hid (below_drew KB.out)
        obtain ⟨x0, x1⟩ := x
        obtain ⟨y0, y1⟩ := y
        by_cases h0 : x0 = y0
        · subst h0
          by_cases h1 : x1 = y1
          · subst h1
            go_wp2
            go_region_held3 (fun w' => w'.cell? (ad.add (k * 2)) = some (.int .i64 x0) ∧ w'.cell? ⟨(ad.add (k * 2)).block, (ad.add (k * 2)).off + 1, none⟩ = some (.int .i64 x1) ∧ w'.cell? (ad2.add (k * 2)) = some (.int .i64 x0) ∧ w'.cell? ⟨(ad2.add (k * 2)).block, (ad2.add (k * 2)).off + 1, none⟩ = some (.int .i64 x1)) (refine ⟨?_, ?_, ?_, ?_⟩ <;> assumption) (fail)
            go_wp2
            go_roundw
            case rel => exact ⟨k + 1, by omega, by go_num, fun j hj => by
              rcases Nat.lt_or_ge j k with q | q
              · exact HA.out j q
              · obtain rfl : j = k := by omega
                rw [X.out, Y.out], KD.out⟩
            case measure => simp [intOf]; omega
          ·
            have hne : decide (xs = ys) = false := decide_eq_false (fun e => by have h1 := X.out; have h2 := Y.out; rw [e, h2] at h1; injection h1; omega)
            rw [hne]
            go_wp2
            go_region_held3 (fun w' => w'.cell? (ad.add (k * 2)) = some (.int .i64 x0) ∧ w'.cell? ⟨(ad.add (k * 2)).block, (ad.add (k * 2)).off + 1, none⟩ = some (.int .i64 x1) ∧ w'.cell? (ad2.add (k * 2)) = some (.int .i64 x0) ∧ w'.cell? ⟨(ad2.add (k * 2)).block, (ad2.add (k * 2)).off + 1, none⟩ = some (.int .i64 y1)) (refine ⟨?_, ?_, ?_, ?_⟩ <;> assumption) (fail)
            go_wp2
            go_ret
            exact ⟨rfl, KD.out⟩
        ·
          have hne : decide (xs = ys) = false := decide_eq_false (fun e => by have h1 := X.out; have h2 := Y.out; rw [e, h2] at h1; injection h1; omega)
          rw [hne]
          go_wp2
          go_region_held3 (fun w' => w'.cell? (ad.add (k * 2)) = some (.int .i64 x0) ∧ w'.cell? ⟨(ad.add (k * 2)).block, (ad.add (k * 2)).off + 1, none⟩ = some (.int .i64 x1) ∧ w'.cell? (ad2.add (k * 2)) = some (.int .i64 y0) ∧ w'.cell? ⟨(ad2.add (k * 2)).block, (ad2.add (k * 2)).off + 1, none⟩ = some (.int .i64 y1)) (refine ⟨?_, ?_, ?_, ?_⟩ <;> assumption) (fail)
          go_wp2
          go_ret
          exact ⟨rfl, KD.out⟩
      · obtain rfl : k = xs.length := by omega
        have he : decide (xs = ys) = true := decide_eq_true (ext_get HL.out HA.out)
        go_wp2
        go_ret
        exact ⟨by rw [he]; rfl, KB.out⟩
  · have hne : decide (xs = ys) = false := decide_eq_false (fun e => h (by rw [e]))
    have hd : (xs.length : Int) ≠ (ys.length : Int) := by omega
    rw [hne]
    clear hx hy hl
    go_enter Tryz.func47, Tryz.ntmps47
    go_wp2
    go_ret
    exact ⟨rfl, Below.refl _ _⟩
/-- What Order returns. -/
def ordT (a b : List S25) : Int × Int := if VOk a ∧ VOk b then (if a = b then 0 else if mergeV a b = b then -1 else if mergeV a b = a then 1 else 2, 0) else (0, 2)
set_option maxHeartbeats 4000000 in
set_option maxRecDepth 100000 in
theorem order_any (A : Option Addr) (c : Nat) (xs : List S25) (A1 : Option Addr) (c1 : Nat) (ys : List S25) (w : World) (hx : k25.C w A xs.length xs) (hy : k25.C w A1 ys.length ys) (hl : xs.length + ys.length ≤ 100000) :
    Calls Tryz.prog 31 #[.slice A xs.length c, .slice A1 ys.length c1] w (BeP (.tuple #[.int .i64 (ordT xs ys).1, .int .i64 (ordT xs ys).2]) w) := by
  have HX := Lib.hid hx
  have HY := Lib.hid hy
  have MA := merge_any A c xs A1 c1 ys w hx hy (by omega)
  by_cases h : VOk xs ∧ VOk ys
  · have e : mrgV xs ys = (mergeV xs ys, 0) := if_pos h
    rw [e] at MA
    have MA := Lib.hid MA
    have E1 := Lib.hid (fun W h1 h2 => equal_any A c xs A1 c1 ys W h1 h2 (by omega))
    by_cases q1 : xs = ys
    · have e2 : ordT xs ys = (0, 0) := by unfold ordT; rw [if_pos h, if_pos q1]
      rw [decide_eq_true q1] at E1
      rw [e2]
      clear hx hy hl h e q1 e2
      go_enter Tryz.func31, Tryz.ntmps31
      go_wp2_with (first
        | (go_at_call 23; refine MA.out.mono ?_; rintro en w1 ⟨v1, rfl, hr, hb⟩; have K1 := Lib.hid hb; clear hb hr)
        | (go_at_call 47; refine (E1.out _ (Kd.C_below HX.out K1.out) (Kd.C_below HY.out K1.out)).mono ?_; rintro en w2 ⟨rfl, hb⟩; have K1 := Lib.hid (below_step K1.out hb); clear hb))
      go_ret2
      exact ⟨rfl, K1.out⟩
    · rw [decide_eq_false q1] at E1
      have hml : (mergeV xs ys).length ≤ 1000000 := Nat.le_trans (len_merge xs ys) (by omega)
      have E2 := Lib.hid (fun A2 c2 W h1 h2 => equal_any A2 c2 (mergeV xs ys) A1 c1 ys W h1 h2 hml)
      by_cases q2 : mergeV xs ys = ys
      · have e2 : ordT xs ys = (-1, 0) := by unfold ordT; rw [if_pos h, if_neg q1, if_pos q2]
        rw [decide_eq_true q2] at E2
        rw [e2]
        generalize mergeV xs ys = ms at MA E2
        clear hx hy hl h e q1 q2 e2 hml
        go_enter Tryz.func31, Tryz.ntmps31
        go_wp2_with (first
          | (go_at_call 23; refine MA.out.mono ?_; rintro en w1 ⟨v1, rfl, hr, hb⟩; have K1 := Lib.hid hb; obtain ⟨A2, c2, rfl, _, hC⟩ := Kd.R_reads hr; have C2 := Lib.hid hC; clear hb hr hC)
          | (go_at_call 47; refine (E1.out _ (Kd.C_below HX.out K1.out) (Kd.C_below HY.out K1.out)).mono ?_; clear E1; rintro en w2 ⟨rfl, hb⟩; have K1 := Lib.hid (below_step K1.out hb); have C2 := Lib.hid (Kd.C_below C2.out hb); clear hb)
          | (go_at_call 47; refine (E2.out _ _ _ C2.out (Kd.C_below HY.out K1.out)).mono ?_; clear E2; rintro en w2 ⟨rfl, hb⟩; have K1 := Lib.hid (below_step K1.out hb); have C2 := Lib.hid (Kd.C_below C2.out hb); clear hb))
        go_ret2
        exact ⟨rfl, K1.out⟩
      · rw [decide_eq_false q2] at E2
        have E3 := Lib.hid (fun A2 c2 W h1 h2 => equal_any A2 c2 (mergeV xs ys) A c xs W h1 h2 hml)
        by_cases q3 : mergeV xs ys = xs
        · have e2 : ordT xs ys = (1, 0) := by unfold ordT; rw [if_pos h, if_neg q1, if_neg q2, if_pos q3]
          rw [decide_eq_true q3] at E3
          rw [e2]
          generalize mergeV xs ys = ms at MA E2 E3
          clear hx hy hl h e q1 q2 q3 e2 hml
          go_enter Tryz.func31, Tryz.ntmps31
          go_wp2_with (first
            | (go_at_call 23; refine MA.out.mono ?_; rintro en w1 ⟨v1, rfl, hr, hb⟩; have K1 := Lib.hid hb; obtain ⟨A2, c2, rfl, _, hC⟩ := Kd.R_reads hr; have C2 := Lib.hid hC; clear hb hr hC)
            | (go_at_call 47; refine (E1.out _ (Kd.C_below HX.out K1.out) (Kd.C_below HY.out K1.out)).mono ?_; clear E1; rintro en w2 ⟨rfl, hb⟩; have K1 := Lib.hid (below_step K1.out hb); have C2 := Lib.hid (Kd.C_below C2.out hb); clear hb)
            | (go_at_call 47; refine (E2.out _ _ _ C2.out (Kd.C_below HY.out K1.out)).mono ?_; clear E2; rintro en w2 ⟨rfl, hb⟩; have K1 := Lib.hid (below_step K1.out hb); have C2 := Lib.hid (Kd.C_below C2.out hb); clear hb)
            | (go_at_call 47; refine (E3.out _ _ _ C2.out (Kd.C_below HX.out K1.out)).mono ?_; clear E3; rintro en w2 ⟨rfl, hb⟩; have K1 := Lib.hid (below_step K1.out hb); have C2 := Lib.hid (Kd.C_below C2.out hb); clear hb))
          go_ret2
          exact ⟨rfl, K1.out⟩
        · have e2 : ordT xs ys = (2, 0) := by unfold ordT; rw [if_pos h, if_neg q1, if_neg q2, if_neg q3]
          rw [decide_eq_false q3] at E3
          rw [e2]
          generalize mergeV xs ys = ms at MA E2 E3
          clear hx hy hl h e q1 q2 q3 e2 hml
          go_enter Tryz.func31, Tryz.ntmps31
          go_wp2_with (first
            | (go_at_call 23; refine MA.out.mono ?_; rintro en w1 ⟨v1, rfl, hr, hb⟩; have K1 := Lib.hid hb; obtain ⟨A2, c2, rfl, _, hC⟩ := Kd.R_reads hr; have C2 := Lib.hid hC; clear hb hr hC)
            | (go_at_call 47; refine (E1.out _ (Kd.C_below HX.out K1.out) (Kd.C_below HY.out K1.out)).mono ?_; clear E1; rintro en w2 ⟨rfl, hb⟩; have K1 := Lib.hid (below_step K1.out hb); have C2 := Lib.hid (Kd.C_below C2.out hb); clear hb)
            | (go_at_call 47; refine (E2.out _ _ _ C2.out (Kd.C_below HY.out K1.out)).mono ?_; clear E2; rintro en w2 ⟨rfl, hb⟩; have K1 := Lib.hid (below_step K1.out hb); have C2 := Lib.hid (Kd.C_below C2.out hb); clear hb)
            | (go_at_call 47; refine (E3.out _ _ _ C2.out (Kd.C_below HX.out K1.out)).mono ?_; clear E3; rintro en w2 ⟨rfl, hb⟩; have K1 := Lib.hid (below_step K1.out hb); have C2 := Lib.hid (Kd.C_below C2.out hb); clear hb))
          go_ret2
          exact ⟨rfl, K1.out⟩
  · have e : mrgV xs ys = ([], 2) := if_neg h
    rw [e] at MA
    have MA := Lib.hid MA
    have e2 : ordT xs ys = (0, 2) := if_neg h
    rw [e2]
    clear hx hy hl h e e2
    go_enter Tryz.func31, Tryz.ntmps31
    go_wp2_with (go_at_call 23; refine MA.out.mono ?_; rintro en w1 ⟨v1, rfl, hr, hb⟩; have K1 := Lib.hid hb; clear hb hr)
    go_ret2
    exact ⟨rfl, K1.out⟩
end Go.Proofs.YtnbjkpfpcggopaaGreatDoor.Ev

namespace Go.Proofs.YtnbjkpfpcggopaaGreatDoor.Ev
open Go Go.RowKit Go.Proofs Go.Proofs.YtnbjkpfpcggopaaGreatDoorW.PrintWords Go.Proofs.YtnbjkpfpcggopaaGreatDoor.PAll Go.Proofs.YtnbjkpfpcggopaaGreatDoor.Dl Go.Proofs.YtnbjkpfpcggopaaGreatDoor.Dx
set_option linter.unusedSimpArgs false
set_option linter.unusedVariables false

theorem rd_at {l : List S25} {i : Nat} (h : i < l.length) : rd_T25 l (i : Int) = l[i] := by
  unfold rd_T25
  rw [Int.toNat_natCast, List.getD_eq_getElem?_getD, List.getElem?_eq_getElem h]
  rfl
theorem w64 {i : Int} (h0 : -9223372036854775808 ≤ i) (h1 : i ≤ 9223372036854775807) : wrap64 i = i := by unfold wrap64; omega
theorem rvalid_val (r c : Int) : redpencilref04_Valid.f r c = some (decide (okDot r c)) := by
  unfold redpencilref04_Valid.f
  by_cases h1 : r > 0
  · rw [if_pos h1]
    by_cases h2 : r ≤ 64
    · rw [if_pos h2]
      by_cases h3 : c > 0
      · rw [if_pos h3]; congr 1; exact decide_eq_decide.2 (by unfold okDot; omega)
      · rw [if_neg h3, decide_eq_false (by unfold okDot; omega)]
    · rw [if_neg h2, decide_eq_false (by unfold okDot; omega)]
  · rw [if_neg h1, decide_eq_false (by unfold okDot; omega)]
theorem rget_l0 (l : List S25) (hl : l.length ≤ 1000000) (r : Int) : ∀ (n i : Nat), i + n = l.length → ∀ k, n + 1 ≤ k → redpencilref05_Get.l0 k l r (i : Int) = some (getV (l.drop i) r)
  | 0, i, h, k, hk => by
    obtain ⟨k, rfl⟩ : ∃ j, k = j + 1 := ⟨k - 1, by omega⟩
    rw [redpencilref05_Get.l0, if_neg (by omega), List.drop_of_length_le (by omega)]
    rfl
  | n + 1, i, h, k, hk => by
    obtain ⟨k, rfl⟩ : ∃ j, k = j + 1 := ⟨k - 1, by omega⟩
    have hi : i < l.length := by omega
    rw [redpencilref05_Get.l0, if_pos (by omega), if_pos (by omega), rd_at hi, List.drop_eq_getElem_cons hi, w64 (by omega) (by omega)]
    unfold getV
    split
    · rfl
    · have := rget_l0 l hl r n (i + 1) (by omega) k (by omega)
      rw [show ((i : Int) + 1) = ((i + 1 : Nat) : Int) by omega]
      exact this
theorem rget_f (l : List S25) (hl : l.length ≤ 1000000) (r : Int) (k : Nat) (hk : l.length + 1 ≤ k) : redpencilref05_Get.f k l r = some (getV l r) := rget_l0 l hl r l.length 0 (by omega) k hk
theorem rhas_f (l : List S25) (hl : l.length ≤ 1000000) (a b : Int) (k : Nat) (hk : l.length + 1 ≤ k) : redpencilref05_Has.f k l a b = some (decide (hasV l ⟨a, b⟩)) := by
  unfold redpencilref05_Has.f
  rw [rvalid_val, Option.bind_some]
  by_cases h : okDot a b
  · rw [if_pos (decide_eq_true h), rget_f l hl a k hk, Option.bind_some]
    congr 1
    refine decide_eq_decide.2 ⟨fun q => ⟨h, q⟩, fun q => q.2⟩
  · rw [if_neg (by simpa using h), decide_eq_false (fun q => h q.1)]
theorem rwithin_l0 (a b : List S25) (hb : b.length ≤ 1000000) (ha : a.length ≤ 1000000) (ok : ∀ x ∈ a, okS x) : ∀ (n i : Nat), i + n = a.length → ∀ k, n + 1 + (b.length + 1) ≤ k → redpencilref05_Within.l0 k a b (i : Int) = some (decide (within (a.drop i) b))
  | 0, i, h, k, hk => by
    obtain ⟨k, rfl⟩ : ∃ j, k = j + 1 := ⟨k - 1, by omega⟩
    rw [redpencilref05_Within.l0, if_neg (by omega), List.drop_of_length_le (by omega)]
    rfl
  | n + 1, i, h, k, hk => by
    obtain ⟨k, rfl⟩ : ∃ j, k = j + 1 := ⟨k - 1, by omega⟩
    have hi : i < a.length := by omega
    have ho := ok _ (List.getElem_mem hi)
    rw [redpencilref05_Within.l0, if_pos (by omega), if_pos (by omega), rd_at hi, List.drop_eq_getElem_cons hi, w64 (by omega) (by omega), rhas_f b hb _ _ k (by omega), Option.bind_some]
    have ih := rwithin_l0 a b hb ha ok n (i + 1) (by omega) k (by omega)
    have e : hasV b ⟨a[i].f0, a[i].f1⟩ ↔ a[i].f1 ≤ getV b a[i].f0 := ⟨fun q => q.2, fun q => ⟨ho, q⟩⟩
    by_cases q : a[i].f1 ≤ getV b a[i].f0
    · rw [if_pos (decide_eq_true (e.2 q)), show ((i : Int) + 1) = ((i + 1 : Nat) : Int) by omega, ih]
      congr 1
      refine decide_eq_decide.2 ⟨fun r x hx => ?_, fun r x hx => r x (List.mem_cons_of_mem _ hx)⟩
      rcases List.mem_cons.1 hx with rfl | hx
      · exact q
      · exact r x hx
    · rw [if_neg (by rw [decide_eq_true_eq]; exact fun z => q (e.1 z)), decide_eq_false (fun r => q (r _ List.mem_cons_self))]
theorem rwithin_f (a b : List S25) (hb : b.length ≤ 1000000) (ha : a.length ≤ 1000000) (ok : ∀ x ∈ a, okS x) (k : Nat) (hk : a.length + b.length + 2 ≤ k) : redpencilref05_Within.f k a b = some (decide (within a b)) :=
  rwithin_l0 a b hb ha ok a.length 0 (by omega) k (by omega)
theorem rorder_f (a b : List S25) (hb : b.length ≤ 1000000) (ha : a.length ≤ 1000000) (oka : ∀ x ∈ a, okS x) (okb : ∀ x ∈ b, okS x) (k : Nat) (hk : a.length + b.length + 2 ≤ k) : redpencilref05_Order.f k a b = some (ordV a b) := by
  unfold redpencilref05_Order.f
  rw [rwithin_f a b hb ha oka k hk, Option.bind_some, rwithin_f b a ha hb okb k (by omega), Option.bind_some]
  obtain ⟨k, rfl⟩ : ∃ j, k = j + 1 := ⟨k - 1, by omega⟩
  unfold ordV
  by_cases h1 : within a b <;> by_cases h2 : within b a <;> simp [h1, h2, redpencilref05_Order.j0]
/-- The texts of dots, each behind a space. -/
def tlL (l : List S25) : List UInt8 := l.flatMap fun x => 32 :: dtL x.f0 x.f1
def vtL : List S25 → List UInt8
  | [] => [45]
  | x :: l => dtL x.f0 x.f1 ++ tlL l
/-- What Text returns. -/
def vecT (l : List S25) : ByteArray × Int := if VOk l then (⟨(vtL l).toArray⟩, 0) else (⟨#[]⟩, 2)
theorem leO_up {α : Type} {g : Nat → Option α} {r : α} (h : ∀ k, LeO (g k) (g (k + 1))) {K : Nat} (hK : g K = some r) : ∀ k, K ≤ k → g k = some r := by
  intro k hk
  obtain ⟨n, rfl⟩ : ∃ n, k = K + n := ⟨k - K, by omega⟩
  clear hk
  induction n with
  | zero => exact hK
  | succ n ih => exact h (K + n) r ih
theorem rtext_val {k : Nat} (hk : 20 ≤ k) {r c : Int} (h : okDot r c) : redpencilref04_Text.f k r c = some (dtP r c) := leO_up (redpencilref04_Text.mono r c) (text_val (.inl h)) k hk
theorem dt_size {r c : Int} (h : okDot r c) : (dtP r c).size ≤ 20 := by show (dtL r c).toArray.size ≤ 20; rw [List.size_toArray]; exact dtL_len (.inl h)
theorem size_app (a b : ByteArray) : (a ++ b).size = a.size + b.size := ByteArray.size_append
theorem rvtext_l0 (l : List S25) (hl : l.length ≤ 1000000) (ok : ∀ x ∈ l, okS x) : ∀ (n i : Nat) (acc : ByteArray), i + n = l.length → acc.size ≤ 100 * i → ∀ k, n + 30 ≤ k → ∃ r, redpencilref05_Text.l0 k l acc (i : Int) = some r ∧ r.data.toList = acc.data.toList ++ tlL (l.drop i)
  | 0, i, acc, h, hs, k, hk => by
    obtain ⟨k, rfl⟩ : ∃ j, k = j + 1 := ⟨k - 1, by omega⟩
    rw [redpencilref05_Text.l0, if_neg (by omega), List.drop_of_length_le (by omega)]
    exact ⟨acc, rfl, by simp [tlL]⟩
  | n + 1, i, acc, h, hs, k, hk => by
    obtain ⟨k, rfl⟩ : ∃ j, k = j + 1 := ⟨k - 1, by omega⟩
    have hi : i < l.length := by omega
    have ho := ok _ (List.getElem_mem hi)
    have hz := dt_size ho
    have h1 : (acc ++ (⟨#[32]⟩ : ByteArray)).size = acc.size + 1 := size_app _ _
    rw [redpencilref05_Text.l0, if_pos (by omega), if_pos (by omega), if_pos (by omega), rd_at hi, rtext_val (by omega) ho, Option.bind_some, if_pos (by omega), w64 (by omega) (by omega)]
    obtain ⟨r, e, hr⟩ := rvtext_l0 l hl ok n (i + 1) ((acc ++ (⟨#[32]⟩ : ByteArray)) ++ dtP l[i].f0 l[i].f1) (by omega) (by rw [size_app]; omega) k (by omega)
    refine ⟨r, by rw [show ((i : Int) + 1) = ((i + 1 : Nat) : Int) by omega]; exact e, ?_⟩
    rw [hr]
    have hc : l.drop i = l[i] :: l.drop (i + 1) := List.drop_eq_getElem_cons hi
    rw [hc]
    have hd : (dtP l[i].f0 l[i].f1).data.toList = dtL l[i].f0 l[i].f1 := rfl
    have e3 : tlL (l[i] :: l.drop (i + 1)) = 32 :: (dtL l[i].f0 l[i].f1 ++ tlL (l.drop (i + 1))) := rfl
    rw [e3, ← hd]
    simp [ByteArray.data_append]
theorem rvtext_f (l : List S25) (hl : l.length ≤ 1000000) (h : VOk l) (k : Nat) (hk : l.length + 30 ≤ k) : redpencilref05_Text.f k l = some ⟨(vtL l).toArray⟩ := by
  unfold redpencilref05_Text.f
  cases l with
  | nil => rfl
  | cons x l =>
    have ho := h.2 x List.mem_cons_self
    have h0 : rd_T25 (x :: l) (0 : Int) = x := rfl
    have hz := dt_size ho
    rw [if_neg (by simp only [List.length_cons]; omega), if_pos (by simp only [List.length_cons]; omega), h0, rtext_val (by omega) ho, Option.bind_some]
    obtain ⟨r, e, hr⟩ := rvtext_l0 (x :: l) hl h.2 l.length 1 (dtP x.f0 x.f1) (by simp only [List.length_cons]; omega) (by omega) k (by simp only [List.length_cons] at hk; omega)
    rw [show ((1 : Int)) = ((1 : Nat) : Int) from rfl, e]
    congr 1
    exact bytes_eq (by rw [hr]; rfl)
theorem rvvalid_l0 (l : List S25) (hl : l.length ≤ 1000000) : ∀ (n i : Nat), i + n = l.length → ∀ k, n + 1 ≤ k → ∃ b, redpencilref05_Valid.l0 k l (i : Int) = some b ∧ (b = true ↔ ∀ j, i ≤ j → j < l.length → okS (l.getD j z25) ∧ (0 < j → (l.getD (j - 1) z25).f0 < (l.getD j z25).f0))
  | 0, i, h, k, hk => by
    obtain ⟨k, rfl⟩ : ∃ j, k = j + 1 := ⟨k - 1, by omega⟩
    rw [redpencilref05_Valid.l0, if_neg (by omega)]
    exact ⟨true, rfl, fun _ j h1 h2 => by omega, fun _ => rfl⟩
  | n + 1, i, h, k, hk => by
    obtain ⟨k, rfl⟩ : ∃ j, k = j + 1 := ⟨k - 1, by omega⟩
    have hi : i < l.length := by omega
    have gd : ∀ j, j < l.length → rd_T25 l (j : Int) = l.getD j z25 := fun j hj => by unfold rd_T25; rw [Int.toNat_natCast]
    have st : ∀ b, (b = true ↔ ∀ j, i + 1 ≤ j → j < l.length → okS (l.getD j z25) ∧ (0 < j → (l.getD (j - 1) z25).f0 < (l.getD j z25).f0)) → okS (l.getD i z25) → (0 < i → (l.getD (i - 1) z25).f0 < (l.getD i z25).f0) → (b = true ↔ ∀ j, i ≤ j → j < l.length → okS (l.getD j z25) ∧ (0 < j → (l.getD (j - 1) z25).f0 < (l.getD j z25).f0)) := fun b hb h1 h2 => by
      rw [hb]
      refine ⟨fun q j h3 h4 => ?_, fun q j h3 h4 => q j (by omega) h4⟩
      by_cases e : j = i
      · subst e; exact ⟨h1, h2⟩
      · exact q j (by omega) h4
    obtain ⟨b, e, hb⟩ := rvvalid_l0 l hl n (i + 1) (by omega) k (by omega)
    rw [redpencilref05_Valid.l0, if_pos (by omega), if_pos (by omega), gd i hi, rvalid_val, Option.bind_some, show ((i : Int) + 1) = ((i + 1 : Nat) : Int) by omega, w64 (i := ((i + 1 : Nat) : Int)) (by omega) (by omega), e]
    by_cases ho : okS (l.getD i z25)
    · rw [if_pos (decide_eq_true ho)]
      by_cases h0 : 0 < i
      · rw [if_pos (by omega), w64 (i := (i : Int) - 1) (by omega) (by omega), if_pos (by omega), if_pos (by omega), show (i : Int) - 1 = ((i - 1 : Nat) : Int) by omega, gd (i - 1) (by omega)]
        by_cases hp : (l.getD (i - 1) z25).f0 < (l.getD i z25).f0
        · rw [if_neg (by omega)]
          exact ⟨b, rfl, st b hb ho (fun _ => hp)⟩
        · rw [if_pos (by omega)]
          exact ⟨false, rfl, fun q => Bool.noConfusion q, fun q => absurd ((q i (Nat.le_refl _) hi).2 h0) hp⟩
      · rw [if_neg (by omega)]
        exact ⟨b, rfl, st b hb ho (fun q => absurd q h0)⟩
    · rw [if_neg (by rw [decide_eq_true_eq]; exact ho)]
      exact ⟨false, rfl, fun q => Bool.noConfusion q, fun q => absurd (q i (Nat.le_refl _) hi).1 ho⟩
theorem rvvalid_f (l : List S25) (hl : l.length ≤ 1000000) (k : Nat) (hk : l.length + 1 ≤ k) : redpencilref05_Valid.f k l = some (decide (VOk l)) := by
  obtain ⟨b, e, hb⟩ := rvvalid_l0 l hl l.length 0 (by omega) k hk
  unfold redpencilref05_Valid.f
  rw [show ((0 : Int)) = ((0 : Nat) : Int) from rfl, e]
  congr 1
  have key : (∀ j, 0 ≤ j → j < l.length → okS (l.getD j z25) ∧ (0 < j → (l.getD (j - 1) z25).f0 < (l.getD j z25).f0)) ↔ VOk l := by
    rw [← vecok_iff]
    constructor
    · intro h
      refine ⟨fun j hj => (h (j + 1) (Nat.zero_le _) hj).2 (Nat.succ_pos _), fun x hx => ?_⟩
      obtain ⟨j, hj, rfl⟩ := List.getElem_of_mem hx
      have := (h j (Nat.zero_le _) hj).1
      rwa [List.getD_eq_getElem?_getD, List.getElem?_eq_getElem hj] at this
    · intro h j _ hj
      refine ⟨?_, fun h0 => ?_⟩
      · rw [List.getD_eq_getElem?_getD, List.getElem?_eq_getElem hj]; exact h.2 _ (List.getElem_mem hj)
      · have := h.1 (j - 1) (by omega)
        rwa [show j - 1 + 1 = j by omega] at this
  rw [key] at hb
  by_cases q : VOk l
  · rw [decide_eq_true q, hb.2 q]
  · rw [decide_eq_false q]; exact Bool.eq_false_iff.2 (fun z => q (hb.1 z))
end Go.Proofs.YtnbjkpfpcggopaaGreatDoor.Ev

/- Version vectors, walks: the reference's Raise, Merge and Of. Printed by wip/tools/gef.py. -/
namespace Go.Proofs.YtnbjkpfpcggopaaGreatDoor.Ev
open Go Go.RowKit Go.Proofs Go.Proofs.YtnbjkpfpcggopaaGreatDoorW.PrintWords Go.Proofs.YtnbjkpfpcggopaaGreatDoor.Kit Go.Proofs.YtnbjkpfpcggopaaGreatDoor.PAll Go.Proofs.YtnbjkpfpcggopaaGreatDoor.Dl
set_option linter.unusedSimpArgs false
set_option linter.unusedVariables false

def rzS (d : S25) (p : List S25 × Bool) (x : S25) : List S25 × Bool :=
  if p.2 = false ∧ d.f0 ≤ x.f0 then (if x.f0 = d.f0 then p.1 ++ [d] else (p.1 ++ [d]) ++ [x], true) else (if x.f0 = d.f0 then p.1 else p.1 ++ [x], p.2)
def rz (d : S25) (l : List S25) : List S25 × Bool := l.foldl (rzS d) ([], false)
theorem rz_snoc (d : S25) (l : List S25) (x : S25) : rz d (l ++ [x]) = rzS d (rz d l) x := by unfold rz; rw [List.foldl_append]; rfl
theorem rz_true (d : S25) : ∀ (v acc : List S25), (∀ x ∈ v, d.f0 < x.f0) → v.foldl (rzS d) (acc, true) = (acc ++ v, true)
  | [], acc, _ => by simp
  | x :: v, acc, h => by
    have hx := h x List.mem_cons_self
    have e : rzS d (acc, true) x = (acc ++ [x], true) := by
      unfold rzS
      rw [if_neg (fun q => Bool.noConfusion q.1), if_neg (by omega)]
    rw [List.foldl_cons, e, rz_true d v _ (fun y hy => h y (List.mem_cons_of_mem _ hy))]
    simp
def finR (d : S25) (p : List S25 × Bool) : List S25 := if p.2 = true then p.1 else p.1 ++ [d]
theorem rz_fin (d : S25) : ∀ (v acc : List S25), SrtV v → (∀ x ∈ v, x.f0 = d.f0 → x.f1 ≤ d.f1) → finR d (v.foldl (rzS d) (acc, false)) = acc ++ raiseP v d
  | [], acc, _, _ => rfl
  | x :: v, acc, hs, hm => by
    obtain ⟨h1, h2⟩ := List.pairwise_cons.1 hs
    have hx := hm x List.mem_cons_self
    rw [List.foldl_cons]
    unfold raiseP
    by_cases a : x.f0 < d.f0
    · have e : rzS d (acc, false) x = (acc ++ [x], false) := by
        unfold rzS
        rw [if_neg (fun q => by have := q.2; omega), if_neg (by omega)]
      rw [e, rz_fin d v _ h2 (fun y hy => hm y (List.mem_cons_of_mem _ hy)), if_pos a]
      simp
    · rw [if_neg a]
      by_cases b : x.f0 = d.f0
      · have e : rzS d (acc, false) x = (acc ++ [d], true) := by
          unfold rzS
          rw [if_pos ⟨rfl, by omega⟩, if_pos b]
        have e2 : (⟨d.f0, max x.f1 d.f1⟩ : S25) = d := ext_D rfl (by have := hx b; show max x.f1 d.f1 = d.f1; omega)
        rw [e, rz_true d v _ (fun y hy => by have := h1 y hy; omega), if_pos b, e2]
        simp [finR]
      · have e : rzS d (acc, false) x = ((acc ++ [d]) ++ [x], true) := by
          unfold rzS
          rw [if_pos ⟨rfl, by omega⟩, if_neg b]
        rw [e, rz_true d v _ (fun y hy => by have := h1 y hy; omega), if_neg b]
        simp [finR]
theorem rz_len (d : S25) : ∀ (v acc : List S25) (b : Bool), (v.foldl (rzS d) (acc, b)).1.length ≤ acc.length + 2 * v.length
  | [], acc, b => by simp
  | x :: v, acc, b => by
    rw [List.foldl_cons]
    obtain ⟨⟨a2, b2⟩, e⟩ : ∃ p, rzS d (acc, b) x = p := ⟨_, rfl⟩
    have h := rz_len d v a2 b2
    have h2 : a2.length ≤ acc.length + 2 := by
      have : (rzS d (acc, b) x).1 = a2 := by rw [e]
      unfold rzS at this
      rw [← this]
      split <;> dsimp only <;> split <;> simp
    rw [e]
    simp only [List.length_cons]
    omega
/-- The argument's own row again, or a new one. -/
def RzP (v0 : Value) (xs : List S25) (d : S25) (w : World) (en : Ending) (w' : World) : Prop :=
  (en = .returned v0 ∧ raiseP xs d = xs ∧ Below w.heap.size w w') ∨ (∃ v, en = .returned v ∧ k25.R 25 w' w.heap.size (fun j => w.heap.size ≤ j) v (raiseP xs d) ∧ Below w.heap.size w w')
/-- A value that reads as a row. -/
def RdP (xs : List S25) (w : World) (en : Ending) (w' : World) : Prop :=
  ∃ A c, en = .returned (.slice A xs.length c) ∧ xs.length ≤ c ∧ k25.C w' A xs.length xs ∧ Below w.heap.size w w'

set_option maxHeartbeats 8000000 in
set_option maxRecDepth 100000 in
theorem rraise_any (A : Option Addr) (c : Nat) (xs : List S25) (d : S25) (w : World) (hx : k25.C w A xs.length xs) (hc : xs.length ≤ c) (hl : xs.length ≤ 100000) (hv : VOk xs) (hd : okS d) :
    Calls Tryz.prog 20 #[.slice A xs.length c, .agg #[.int .i64 d.f0, .int .i64 d.f1]] w (RzP (.slice A xs.length c) xs d w) := by
  have HX := Lib.hid hx
  have HCC := Lib.hid hc
  have hli : (xs.length : Int) ≤ 100000 := by omega
  have HA := Lib.hid (fun W h => redpencilref05_Has.calls (xs.length + 1) A c xs d.f0 d.f1 _ W h hc (rhas_f xs (by omega) d.f0 d.f1 _ (Nat.le_refl _)))
  by_cases h : hasV xs d
  · rw [decide_eq_true h] at HA
    have HR := Lib.hid (has_raise hv h)
    clear hx hc hl h hv hd
    go_enter Tryz.func20, Tryz.ntmps20
    go_wp2_with (go_at_call 14; refine (HA.out _ (Kd.C_alloc HX.out _)).mono ?_; rintro en w1 ⟨rfl, hb⟩; have KB := Lib.hid (below_step (below_alloc (Below.refl w.heap.size w) _) hb); clear hb)
    go_ret
    exact .inl ⟨rfl, HR.out, KB.out⟩
  · rw [decide_eq_false h] at HA
    have hfin : finR d (rz d xs) = raiseP xs d := by
      rw [rz, rz_fin d xs [] hv.1 (fun x hx2 e => by
        have h1 := get_mem hv.1 hx2
        have h2 : ¬ d.f1 ≤ getV xs d.f0 := fun q => h ⟨hd, q⟩
        rw [← e, h1] at h2
        omega)]
      rfl
    have HF := Lib.hid hfin
    clear hx hc h hv hd hfin
    obtain ⟨d0, d1⟩ := d
    go_enter Tryz.func20, Tryz.ntmps20
    go_wp2_with (go_at_call 14; refine (HA.out _ (Kd.C_alloc HX.out _)).mono ?_; rintro en w1 ⟨rfl, hb⟩; have KB := Lib.hid (below_step (below_alloc (Below.refl w.heap.size w) _) hb); have BK := Lib.hid (blk_below (blk_new w (.cells #[.int .i64 d0, .int .i64 d1] 25)) hb); clear hb)
    go_loopw [5, 6, 7] (fun u b i wr => ∃ k : Nat, k ≤ xs.length ∧ i = .int .i64 k ∧ b = .bool (rz ⟨d0, d1⟩ (xs.take k)).2 ∧ k25.R 25 wr w.heap.size (fun j => w.heap.size < j) u (rz ⟨d0, d1⟩ (xs.take k)).1 ∧ Below w.heap.size w wr ∧ wr.heap[w.heap.size]? = some (.cells #[.int .i64 d0, .int .i64 d1] 25 (0, 0))) (fun _ _ i _ => xs.length - (intOf i).toNat)
    case atStart => exact ⟨0, Nat.zero_le _, rfl, rfl, Kd.R_nil _ _ _ _ _, KB.out, BK.out⟩
    case round =>
      clear KB BK
      obtain ⟨k, hk, rfl, rfl, hR, hB, hbk⟩ := hrel
      have KB := Lib.hid hB
      have BK := Lib.hid hbk
      have LE := Lib.hid (rz_len ⟨d0, d1⟩ (xs.take k) [] false)
      obtain ⟨⟨out, dn⟩, ho⟩ : ∃ p, rz ⟨d0, d1⟩ (xs.take k) = p := ⟨_, rfl⟩
      have ho' : (xs.take k).foldl (rzS ⟨d0, d1⟩) ([], false) = (out, dn) := ho
      rw [ho'] at LE
      rw [ho] at hR ⊢
      have RR := Lib.hid hR
      have HO := Lib.hid ho
      clear hB hbk hR ho ho'
      have TL := Lib.hid (show (out.length + 1) * 16 ≤ 140737488355328 by
        have := LE.out
        rw [List.length_take, List.length_nil] at this
        dsimp only at this
        omega)
      have TL2 := Lib.hid (show (out.length + 1 + 1) * 16 ≤ 140737488355328 by
        have := LE.out
        rw [List.length_take, List.length_nil] at this
        dsimp only at this
        omega)
      clear LE
      by_cases hlt : k < xs.length
      · obtain ⟨ad, eA, qa, qb⟩ := at_T25 HX.out (k : Int) (by omega) (by omega)
        subst eA
        have hrd : rd_T25 xs (k : Int) = xs.getD k z25 := by unfold rd_T25; rw [Int.toNat_natCast]
        rw [hrd, Int.toNat_natCast] at qa qb
        have TK := Lib.hid (take_getD xs k hlt)
        generalize xs.getD k z25 = x at qa qb TK
        clear hrd
        obtain ⟨x0, x1⟩ := x
        have ST := Lib.hid (show rz ⟨d0, d1⟩ (xs.take (k + 1)) = rzS ⟨d0, d1⟩ (out, dn) ⟨x0, x1⟩ by rw [TK.out, rz_snoc, HO.out])
        have F := Lib.hid (show ∀ W, Below w.heap.size w W → W.cell? (ad.add (k * 2)) = some (.int .i64 x0) ∧ W.cell? ⟨(ad.add (k * 2)).block, (ad.add (k * 2)).off + 1, none⟩ = some (.int .i64 x1) from fun W hW => ⟨cell_below qa hW, cell_below qb hW⟩)
        have G := Lib.hid (show ∀ W : World, W.heap[w.heap.size]? = some (.cells #[.int .i64 d0, .int .i64 d1] 25 (0, 0)) → W.cell? ⟨w.heap.size, 0, none⟩ = some (.int .i64 d0) ∧ W.cell? ⟨w.heap.size, 1, none⟩ = some (.int .i64 d1) from fun W hW => ⟨(blk_cell hW 0).trans rfl, (blk_cell hW 1).trans rfl⟩)
        clear qa qb
        cases dn with
        | false =>
          by_cases h1 : d0 ≤ x0
          · by_cases h2 : x0 = d0
            · subst h2
              have hst : rzS ⟨x0, d1⟩ (out, false) ⟨x0, x1⟩ = (out ++ [⟨x0, d1⟩], true) := by
                unfold rzS
                rw [if_pos ⟨rfl, h1⟩, if_pos rfl]
              have S2 := Lib.hid (ST.out.trans hst)
              clear hst ST
              obtain ⟨q0, q1⟩ := F.out _ (below_drew KB.out)
              obtain ⟨p0, p1⟩ := G.out wr.drew (blk_drew BK.out)
              go_wp2
              go_region_held3 (fun w' => w'.cell? (ad.add (k * 2)) = some (.int .i64 x0) ∧ w'.cell? ⟨w.heap.size, 0, none⟩ = some (.int .i64 x0)) (refine ⟨?_, ?_⟩ <;> assumption) (fail)
              clear q0 q1 p0 p1
              have Kwd := Lib.hid (below_drew KB.out)
              have Bwd := Lib.hid (blk_drew BK.out)
              have Rwd := Lib.hid (Kd.R_drew RR.out)
              clear KB BK RR
              generalize wr.drew = wd at Kwd Bwd Rwd ⊢
              obtain ⟨p0, p1⟩ := G.out wd Bwd.out
              go_wp2_with (first | (at_builtin; refine Kd.R_append k25 (w0 := w) (W := wd) w.heap.size rfl (.tmp 30) (.tmp 32) 23 25 (.agg #[.int .i64 0, .int .i64 0]) 16 rfl Tryz.underlying23 info25 rfl (by decide) (by decide) u5 out ⟨x0, d1⟩ [.int .i64 x0, .int .i64 d1] (fun j => w.heap.size < j) (fun _ => False) (by rfl) (by rfl) (k25_mkM _ _ _ ⟨x0, d1⟩) (fun _ h => h.elim) (fun j hj => Nat.lt_of_lt_of_le (blk_lt Bwd.out) hj) Rwd.out Kwd.out Kwd.out.size (by have := TL.out; simpa using this) ?_; intro v1 w1 hR2 hB2 hG2 _; have R1 := Lib.hid hR2; have K1 := Lib.hid hB2; have B1 := Lib.hid (blk_grown Bwd.out hG2 (fun q => absurd (Rwd.out.1 _ q.symm) (Nat.lt_irrefl _))); clear hR2 hB2 hG2) | go_in)
              clear p0 p1
              obtain ⟨q0, q1⟩ := F.out _ (below_drew K1.out)
              obtain ⟨p0, p1⟩ := G.out w1.drew (blk_drew B1.out)
              go_wp2
              go_region_held3 (fun w' => w'.cell? (ad.add (k * 2)) = some (.int .i64 x0) ∧ w'.cell? ⟨w.heap.size, 0, none⟩ = some (.int .i64 x0)) (refine ⟨?_, ?_⟩ <;> assumption) (fail)
              clear q0 q1 p0 p1
              have Kwe := Lib.hid (below_drew K1.out)
              have Bwe := Lib.hid (blk_drew B1.out)
              have Rwe := Lib.hid (Kd.R_drew R1.out)
              clear K1 B1 R1
              generalize w1.drew = we at Kwe Bwe Rwe ⊢
              go_wp2
              go_roundw
              case rel => exact ⟨k + 1, by omega, by go_num, by rw [S2.out], by rw [S2.out]; exact Rwe.out, Kwe.out, Bwe.out⟩
              case measure => simp [intOf]; omega
            · have hst : rzS ⟨d0, d1⟩ (out, false) ⟨x0, x1⟩ = ((out ++ [⟨d0, d1⟩]) ++ [⟨x0, x1⟩], true) := by
                unfold rzS
                rw [if_pos ⟨rfl, h1⟩, if_neg h2]
              have S2 := Lib.hid (ST.out.trans hst)
              clear hst ST
              obtain ⟨q0, q1⟩ := F.out _ (below_drew KB.out)
              obtain ⟨p0, p1⟩ := G.out wr.drew (blk_drew BK.out)
              go_wp2
              go_region_held3 (fun w' => w'.cell? (ad.add (k * 2)) = some (.int .i64 x0) ∧ w'.cell? ⟨w.heap.size, 0, none⟩ = some (.int .i64 d0)) (refine ⟨?_, ?_⟩ <;> assumption) (fail)
              clear q0 q1 p0 p1
              have Kwd := Lib.hid (below_drew KB.out)
              have Bwd := Lib.hid (blk_drew BK.out)
              have Rwd := Lib.hid (Kd.R_drew RR.out)
              clear KB BK RR
              generalize wr.drew = wd at Kwd Bwd Rwd ⊢
              obtain ⟨p0, p1⟩ := G.out wd Bwd.out
              go_wp2_with (first | (at_builtin; refine Kd.R_append k25 (w0 := w) (W := wd) w.heap.size rfl (.tmp 30) (.tmp 32) 23 25 (.agg #[.int .i64 0, .int .i64 0]) 16 rfl Tryz.underlying23 info25 rfl (by decide) (by decide) u5 out ⟨d0, d1⟩ [.int .i64 d0, .int .i64 d1] (fun j => w.heap.size < j) (fun _ => False) (by rfl) (by rfl) (k25_mkM _ _ _ ⟨d0, d1⟩) (fun _ h => h.elim) (fun j hj => Nat.lt_of_lt_of_le (blk_lt Bwd.out) hj) Rwd.out Kwd.out Kwd.out.size (by have := TL.out; simpa using this) ?_; intro v1 w1 hR2 hB2 hG2 _; have R1 := Lib.hid hR2; have K1 := Lib.hid hB2; have B1 := Lib.hid (blk_grown Bwd.out hG2 (fun q => absurd (Rwd.out.1 _ q.symm) (Nat.lt_irrefl _))); clear hR2 hB2 hG2) | go_in)
              clear p0 p1
              obtain ⟨q0, q1⟩ := F.out _ (below_drew K1.out)
              obtain ⟨p0, p1⟩ := G.out w1.drew (blk_drew B1.out)
              go_wp2
              go_region_held3 (fun w' => w'.cell? (ad.add (k * 2)) = some (.int .i64 x0) ∧ w'.cell? ⟨w.heap.size, 0, none⟩ = some (.int .i64 d0)) (refine ⟨?_, ?_⟩ <;> assumption) (fail)
              clear q0 q1 p0 p1
              have Kwe := Lib.hid (below_drew K1.out)
              have Bwe := Lib.hid (blk_drew B1.out)
              have Rwe := Lib.hid (Kd.R_drew R1.out)
              clear K1 B1 R1
              generalize w1.drew = we at Kwe Bwe Rwe ⊢
              obtain ⟨q0, q1⟩ := F.out we Kwe.out
              go_wp2_with (first | (at_builtin; refine Kd.R_append k25 (w0 := w) (W := we) w.heap.size rfl (.tmp 42) (.tmp 47) 23 25 (.agg #[.int .i64 0, .int .i64 0]) 16 rfl Tryz.underlying23 info25 rfl (by decide) (by decide) v1 (out ++ [⟨d0, d1⟩]) ⟨x0, x1⟩ [.int .i64 x0, .int .i64 x1] (fun j => w.heap.size < j) (fun _ => False) (by rfl) (by rfl) (k25_mkM _ _ _ ⟨x0, x1⟩) (fun _ h => h.elim) (fun j hj => Nat.lt_of_lt_of_le (blk_lt Bwe.out) hj) Rwe.out Kwe.out Kwe.out.size (by have := TL2.out; simpa using this) ?_; intro v2 w2 hR2 hB2 hG2 _; have R2 := Lib.hid hR2; have K2 := Lib.hid hB2; have B2 := Lib.hid (blk_grown Bwe.out hG2 (fun q => absurd (Rwe.out.1 _ q.symm) (Nat.lt_irrefl _))); clear hR2 hB2 hG2) | go_in)
              clear q0 q1
              go_roundw
              case rel => exact ⟨k + 1, by omega, by go_num, by rw [S2.out], by rw [S2.out]; exact R2.out, K2.out, B2.out⟩
              case measure => simp [intOf]; omega
          · have h2 : ¬ x0 = d0 := by omega
            have hd1 : decide (d0 ≤ x0) = false := decide_eq_false h1
            have hst : rzS ⟨d0, d1⟩ (out, false) ⟨x0, x1⟩ = (out ++ [⟨x0, x1⟩], false) := by
              unfold rzS
              rw [if_neg (fun q => h1 q.2), if_neg h2]
            have S2 := Lib.hid (ST.out.trans hst)
            clear hst ST
            obtain ⟨q0, q1⟩ := F.out _ (below_drew KB.out)
            obtain ⟨p0, p1⟩ := G.out wr.drew (blk_drew BK.out)
            go_wp2
            go_region_held3 (fun w' => w'.cell? (ad.add (k * 2)) = some (.int .i64 x0) ∧ w'.cell? ⟨w.heap.size, 0, none⟩ = some (.int .i64 d0)) (refine ⟨?_, ?_⟩ <;> assumption) (fail)
            clear q0 q1 p0 p1
            have Kwd := Lib.hid (below_drew KB.out)
            have Bwd := Lib.hid (blk_drew BK.out)
            have Rwd := Lib.hid (Kd.R_drew RR.out)
            clear KB BK RR
            generalize wr.drew = wd at Kwd Bwd Rwd ⊢
            obtain ⟨q0, q1⟩ := F.out _ (below_drew Kwd.out)
            obtain ⟨p0, p1⟩ := G.out wd.drew (blk_drew Bwd.out)
            go_wp2
            go_region_held3 (fun w' => w'.cell? (ad.add (k * 2)) = some (.int .i64 x0) ∧ w'.cell? ⟨w.heap.size, 0, none⟩ = some (.int .i64 d0)) (refine ⟨?_, ?_⟩ <;> assumption) (fail)
            clear q0 q1 p0 p1
            have Kwe := Lib.hid (below_drew Kwd.out)
            have Bwe := Lib.hid (blk_drew Bwd.out)
            have Rwe := Lib.hid (Kd.R_drew Rwd.out)
            clear Kwd Bwd Rwd
            generalize wd.drew = we at Kwe Bwe Rwe ⊢
            obtain ⟨q0, q1⟩ := F.out we Kwe.out
            go_wp2_with (first | (at_builtin; refine Kd.R_append k25 (w0 := w) (W := we) w.heap.size rfl (.tmp 42) (.tmp 47) 23 25 (.agg #[.int .i64 0, .int .i64 0]) 16 rfl Tryz.underlying23 info25 rfl (by decide) (by decide) u5 out ⟨x0, x1⟩ [.int .i64 x0, .int .i64 x1] (fun j => w.heap.size < j) (fun _ => False) (by rfl) (by rfl) (k25_mkM _ _ _ ⟨x0, x1⟩) (fun _ h => h.elim) (fun j hj => Nat.lt_of_lt_of_le (blk_lt Bwe.out) hj) Rwe.out Kwe.out Kwe.out.size (by have := TL.out; simpa using this) ?_; intro v2 w2 hR2 hB2 hG2 _; have R2 := Lib.hid hR2; have K2 := Lib.hid hB2; have B2 := Lib.hid (blk_grown Bwe.out hG2 (fun q => absurd (Rwe.out.1 _ q.symm) (Nat.lt_irrefl _))); clear hR2 hB2 hG2) | go_in)
            clear q0 q1
            go_roundw
            case rel => exact ⟨k + 1, by omega, by go_num, by rw [S2.out], by rw [S2.out]; exact R2.out, K2.out, B2.out⟩
            case measure => simp [intOf]; omega
        | true =>
          by_cases h2 : x0 = d0
          · subst h2
            have hst : rzS ⟨x0, d1⟩ (out, true) ⟨x0, x1⟩ = (out, true) := by
              unfold rzS
              rw [if_neg (fun q => Bool.noConfusion q.1), if_pos rfl]
            have S2 := Lib.hid (ST.out.trans hst)
            clear hst ST
            obtain ⟨q0, q1⟩ := F.out _ (below_drew KB.out)
            obtain ⟨p0, p1⟩ := G.out wr.drew (blk_drew BK.out)
            go_wp2
            go_big_region
            clear q0 q1 p0 p1
            have Kwd := Lib.hid (below_drew KB.out)
            have Bwd := Lib.hid (blk_drew BK.out)
            have Rwd := Lib.hid (Kd.R_drew RR.out)
            clear KB BK RR
            generalize wr.drew = wd at Kwd Bwd Rwd ⊢
            obtain ⟨q0, q1⟩ := F.out _ (below_drew Kwd.out)
            obtain ⟨p0, p1⟩ := G.out wd.drew (blk_drew Bwd.out)
            go_wp2
            go_region_held3 (fun w' => w'.cell? (ad.add (k * 2)) = some (.int .i64 x0) ∧ w'.cell? ⟨w.heap.size, 0, none⟩ = some (.int .i64 x0)) (refine ⟨?_, ?_⟩ <;> assumption) (fail)
            clear q0 q1 p0 p1
            have Kwe := Lib.hid (below_drew Kwd.out)
            have Bwe := Lib.hid (blk_drew Bwd.out)
            have Rwe := Lib.hid (Kd.R_drew Rwd.out)
            clear Kwd Bwd Rwd
            generalize wd.drew = we at Kwe Bwe Rwe ⊢
            go_wp2
            go_roundw
            case rel => exact ⟨k + 1, by omega, by go_num, by rw [S2.out], by rw [S2.out]; exact Rwe.out, Kwe.out, Bwe.out⟩
            case measure => simp [intOf]; omega
          · have hst : rzS ⟨d0, d1⟩ (out, true) ⟨x0, x1⟩ = (out ++ [⟨x0, x1⟩], true) := by
              unfold rzS
              rw [if_neg (fun q => Bool.noConfusion q.1), if_neg h2]
            have S2 := Lib.hid (ST.out.trans hst)
            clear hst ST
            obtain ⟨q0, q1⟩ := F.out _ (below_drew KB.out)
            obtain ⟨p0, p1⟩ := G.out wr.drew (blk_drew BK.out)
            go_wp2
            go_big_region
            clear q0 q1 p0 p1
            have Kwd := Lib.hid (below_drew KB.out)
            have Bwd := Lib.hid (blk_drew BK.out)
            have Rwd := Lib.hid (Kd.R_drew RR.out)
            clear KB BK RR
            generalize wr.drew = wd at Kwd Bwd Rwd ⊢
            obtain ⟨q0, q1⟩ := F.out _ (below_drew Kwd.out)
            obtain ⟨p0, p1⟩ := G.out wd.drew (blk_drew Bwd.out)
            go_wp2
            go_region_held3 (fun w' => w'.cell? (ad.add (k * 2)) = some (.int .i64 x0) ∧ w'.cell? ⟨w.heap.size, 0, none⟩ = some (.int .i64 d0)) (refine ⟨?_, ?_⟩ <;> assumption) (fail)
            clear q0 q1 p0 p1
            have Kwe := Lib.hid (below_drew Kwd.out)
            have Bwe := Lib.hid (blk_drew Bwd.out)
            have Rwe := Lib.hid (Kd.R_drew Rwd.out)
            clear Kwd Bwd Rwd
            generalize wd.drew = we at Kwe Bwe Rwe ⊢
            obtain ⟨q0, q1⟩ := F.out we Kwe.out
            go_wp2_with (first | (at_builtin; refine Kd.R_append k25 (w0 := w) (W := we) w.heap.size rfl (.tmp 42) (.tmp 47) 23 25 (.agg #[.int .i64 0, .int .i64 0]) 16 rfl Tryz.underlying23 info25 rfl (by decide) (by decide) u5 out ⟨x0, x1⟩ [.int .i64 x0, .int .i64 x1] (fun j => w.heap.size < j) (fun _ => False) (by rfl) (by rfl) (k25_mkM _ _ _ ⟨x0, x1⟩) (fun _ h => h.elim) (fun j hj => Nat.lt_of_lt_of_le (blk_lt Bwe.out) hj) Rwe.out Kwe.out Kwe.out.size (by have := TL.out; simpa using this) ?_; intro v2 w2 hR2 hB2 hG2 _; have R2 := Lib.hid hR2; have K2 := Lib.hid hB2; have B2 := Lib.hid (blk_grown Bwe.out hG2 (fun q => absurd (Rwe.out.1 _ q.symm) (Nat.lt_irrefl _))); clear hR2 hB2 hG2) | go_in)
            clear q0 q1
            go_roundw
            case rel => exact ⟨k + 1, by omega, by go_num, by rw [S2.out], by rw [S2.out]; exact R2.out, K2.out, B2.out⟩
            case measure => simp [intOf]; omega
      · obtain rfl : k = xs.length := by omega
        have hfz : finR ⟨d0, d1⟩ (rz ⟨d0, d1⟩ xs) = finR ⟨d0, d1⟩ (out, dn) := by
          have := HO.out
          rw [List.take_length] at this
          rw [this]
        have HF2 := Lib.hid (hfz.symm.trans HF.out)
        clear hfz HF
        cases dn with
        | false =>
          obtain ⟨p0, p1⟩ : wr.cell? ⟨w.heap.size, 0, none⟩ = some (.int .i64 d0) ∧ wr.cell? ⟨w.heap.size, 1, none⟩ = some (.int .i64 d1) := ⟨(blk_cell BK.out 0).trans rfl, (blk_cell BK.out 1).trans rfl⟩
          go_wp2_with (first | (at_builtin; refine Kd.R_append k25 (w0 := w) (W := wr) w.heap.size rfl (.tmp 51) (.tmp 53) 23 25 (.agg #[.int .i64 0, .int .i64 0]) 16 rfl Tryz.underlying23 info25 rfl (by decide) (by decide) u5 out ⟨d0, d1⟩ [.int .i64 d0, .int .i64 d1] (fun j => w.heap.size < j) (fun _ => False) (by rfl) (by rfl) (k25_mkM _ _ _ ⟨d0, d1⟩) (fun _ h => h.elim) (fun j hj => Nat.lt_of_lt_of_le (blk_lt BK.out) hj) RR.out KB.out KB.out.size (by have := TL.out; simpa using this) ?_; intro v1 w1 hR2 hB2 hG2 _; have R1 := Lib.hid hR2; have K1 := Lib.hid hB2; have B1 := Lib.hid (blk_grown BK.out hG2 (fun q => absurd (RR.out.1 _ q.symm) (Nat.lt_irrefl _))); clear hR2 hB2 hG2) | go_in)
          go_ret
          exact .inr ⟨v1, rfl, by rw [← HF2.out]; exact Kd.R_mono R1.out (fun j hj => Nat.le_of_lt hj), K1.out⟩
        | true =>
          go_wp2
          go_ret
          exact .inr ⟨u5, rfl, by rw [← HF2.out]; exact Kd.R_mono RR.out (fun j hj => Nat.le_of_lt hj), KB.out⟩
theorem rraise_rd (A : Option Addr) (c : Nat) (xs : List S25) (d : S25) (w : World) (hx : k25.C w A xs.length xs) (hc : xs.length ≤ c) (hl : xs.length ≤ 100000) (hv : VOk xs) (hd : okS d) :
    Calls Tryz.prog 20 #[.slice A xs.length c, .agg #[.int .i64 d.f0, .int .i64 d.f1]] w (RdP (raiseP xs d) w) := by
  refine (rraise_any A c xs d w hx hc hl hv hd).mono ?_
  rintro en w' (⟨rfl, e, hb⟩ | ⟨v, rfl, hr, hb⟩)
  · rw [e]; exact ⟨A, c, rfl, hc, Kd.C_below hx hb, hb⟩
  · obtain ⟨A2, c2, rfl, h1, h2⟩ := Kd.R_reads hr
    exact ⟨A2, c2, rfl, h1, h2, hb⟩
set_option maxHeartbeats 2000000 in
set_option maxRecDepth 100000 in
theorem rmerge_any (A : Option Addr) (c : Nat) (xs : List S25) (A1 : Option Addr) (c1 : Nat) (ys : List S25) (w : World) (hx : k25.C w A xs.length xs) (hc : xs.length ≤ c) (hy : k25.C w A1 ys.length ys) (hl : xs.length + ys.length ≤ 100000) (hv : VOk xs) (hd : ∀ y ∈ ys, okS y) :
    Calls Tryz.prog 25 #[.slice A xs.length c, .slice A1 ys.length c1] w (RdP (mergeV xs ys) w) := by
  have HY := Lib.hid hy
  have H0 := Lib.hid (show ∃ (B : Option Addr) (e : Nat), Value.slice A xs.length c = .slice B (mergeV xs (ys.take 0)).length e ∧ (mergeV xs (ys.take 0)).length ≤ e ∧ k25.C w B (mergeV xs (ys.take 0)).length (mergeV xs (ys.take 0)) from ⟨A, c, rfl, hc, hx⟩)
  have hli : (ys.length : Int) ≤ 100000 := by omega
  have HM := Lib.hid (fun k => len_merge xs (ys.take k))
  have HV := Lib.hid (fun k => ok_merge hv (b := ys.take k) (fun y hy => hd y (List.mem_of_mem_take hy)))
  have HD := Lib.hid hd
  clear hx hc hy hv hd
  go_enter Tryz.func25, Tryz.ntmps25
  go_wp2
  go_loopw [0, 5] (fun u i wr => ∃ k : Nat, k ≤ ys.length ∧ i = .int .i64 k ∧ (∃ (B : Option Addr) (e : Nat), u = .slice B (mergeV xs (ys.take k)).length e ∧ (mergeV xs (ys.take k)).length ≤ e ∧ k25.C wr B (mergeV xs (ys.take k)).length (mergeV xs (ys.take k))) ∧ Below w.heap.size w wr) (fun _ i _ => ys.length - (intOf i).toNat)
  case atStart => exact ⟨0, Nat.zero_le _, rfl, H0.out, Below.refl _ _⟩
  case round =>
    obtain ⟨k, hk, rfl, ⟨B, e, rfl, he, hC⟩, hB⟩ := hrel
    have KB := Lib.hid hB
    have CC := Lib.hid hC
    have EE := Lib.hid he
    clear hB hC he H0
    by_cases hlt : k < ys.length
    · obtain ⟨ad, eA, q0, q1⟩ := at_T25 (Kd.C_below HY.out KB.out) (k : Int) (by omega) (by omega)
      subst eA
      have hrd : rd_T25 ys (k : Int) = ys.getD k z25 := by unfold rd_T25; rw [Int.toNat_natCast]
      rw [hrd, Int.toNat_natCast] at q0 q1
      have hm := HD.out _ (getD_mem hlt)
      have TK := Lib.hid (take_getD ys k hlt)
      generalize ys.getD k z25 = x at q0 q1 TK hm
      have hs := HM.out k
      rw [List.length_take] at hs
      have RA := Lib.hid (rraise_rd B e (mergeV xs (ys.take k)) x wr CC.out EE.out (by omega) (HV.out k) hm)
      have EM := Lib.hid (show raiseP (mergeV xs (ys.take k)) x = mergeV xs (ys.take (k + 1)) by rw [TK.out, merge_snoc])
      rw [EM.out] at RA
      clear hs hm hrd CC EE
      obtain ⟨x0, x1⟩ := x
      go_wp2_with (go_at_call 20; refine RA.out.mono ?_; rintro en w9 ⟨B9, e9, rfl, h1, h2, hb⟩; have E9 := Lib.hid h1; have C9 := Lib.hid h2; have K9 := Lib.hid (below_step KB.out hb); clear hb h1 h2)
      go_roundw
      case rel => exact ⟨k + 1, by omega, by go_num, ⟨B9, e9, rfl, E9.out, C9.out⟩, K9.out⟩
      case measure => simp [intOf]; omega
    · obtain rfl : k = ys.length := by omega
      rw [List.take_length] at CC EE ⊢
      go_wp2
      go_ret
      exact ⟨B, e, rfl, EE.out, CC.out, KB.out⟩
set_option maxHeartbeats 2000000 in
set_option maxRecDepth 100000 in
theorem rof_any (A : Option Addr) (c : Nat) (xs : List S25) (w : World) (hx : k25.C w A xs.length xs) (hl : xs.length ≤ 100000) : Calls Tryz.prog 15 #[.slice A xs.length c] w (MadeT (ofV xs).1 (ofV xs).2 w) := by
  have HX := Lib.hid hx
  have hli : (xs.length : Int) ≤ 100000 := by omega
  have VA := Lib.hid (fun (x : S25) W => redpencilref04_Valid.calls x.f0 x.f1 _ W (rvalid_val x.f0 x.f1))
  have HM := Lib.hid (fun k => len_merge [] (xs.take k))
  clear hx
  go_enter Tryz.func15, Tryz.ntmps15
  go_wp2
  go_loopw [4, 5] (fun u i wr => ∃ k : Nat, k ≤ xs.length ∧ i = .int .i64 k ∧ (∀ x ∈ xs.take k, okS x) ∧ k25.R 25 wr w.heap.size (fun j => w.heap.size ≤ j) u (madeV (xs.take k)) ∧ Below w.heap.size w wr) (fun _ i _ => xs.length - (intOf i).toNat)
  case atStart => exact ⟨0, Nat.zero_le _, rfl, fun x h => by simp at h, Kd.R_nil _ _ _ _ _, Below.refl _ _⟩
  case round =>
    obtain ⟨k, hk, rfl, hall, hR, hB⟩ := hrel
    have KB := Lib.hid hB
    have HA := Lib.hid hall
    obtain ⟨B, e, rfl, he, hC⟩ := Kd.R_reads hR
    have RR := Lib.hid hR
    have EE := Lib.hid he
    clear hB hall hR hC he
    by_cases hlt : k < xs.length
    · obtain ⟨ad, eA, qa, qb⟩ := at_T25 HX.out (k : Int) (by omega) (by omega)
      subst eA
      have hrd : rd_T25 xs (k : Int) = xs.getD k z25 := by unfold rd_T25; rw [Int.toNat_natCast]
      rw [hrd, Int.toNat_natCast] at qa qb
      have MX := Lib.hid (getD_mem hlt)
      have TK := Lib.hid (take_getD xs k hlt)
      generalize xs.getD k z25 = x at qa qb TK MX
      have hs := HM.out k
      rw [List.length_take] at hs
      have hs2 : (madeV (xs.take k)).length ≤ 100000 := by unfold madeV; simp only [List.length_nil] at hs; omega
      have V1 := VA.out x
      have F := Lib.hid (show ∀ W, Below w.heap.size w W → W.cell? (ad.add (k * 2)) = some (.int .i64 x.f0) ∧ W.cell? ⟨(ad.add (k * 2)).block, (ad.add (k * 2)).off + 1, none⟩ = some (.int .i64 x.f1) from fun W hW => ⟨cell_below qa hW, cell_below qb hW⟩)
      obtain ⟨q0, q1⟩ := F.out _ KB.out
      clear hs hrd qa qb VA
      by_cases ho : okS x
      · rw [decide_eq_true (show Dx.okDot x.f0 x.f1 from ho)] at V1
        have V1 := Lib.hid V1
        have RA := Lib.hid (fun W h => rraise_any B e (madeV (xs.take k)) x W h EE.out hs2 (ok_made HA.out) ho)
        have HA2 := Lib.hid (show ∀ y ∈ xs.take (k + 1), okS y from fun y hy => by
          rw [TK.out] at hy
          rcases List.mem_append.1 hy with hy | hy
          · exact HA.out y hy
          · rw [List.mem_singleton] at hy; rw [hy]; exact ho)
        have EM := Lib.hid (show raiseP (madeV (xs.take k)) x = madeV (xs.take (k + 1)) by rw [TK.out]; exact (merge_snoc _ _ _).symm)
        clear ho hs2
        obtain ⟨x0, x1⟩ := x
        go_wp2_with (go_at_call 18; refine (V1.out _).mono ?_; rintro en w8 ⟨rfl, hb⟩; have K8 := Lib.hid (below_step KB.out hb); have R8 := Lib.hid (Kd.R_below RR.out hb); have C8 := Lib.hid (Kd.R_reads' R8.out).2.2; obtain ⟨q0, q1⟩ := F.out _ K8.out; clear hb)
        refine (RA.out _ C8.out).mono ?_
        rintro en w9 (⟨rfl, e9, hb⟩ | ⟨v9, rfl, hr, hb⟩)
        · have K9 := Lib.hid (below_step K8.out hb)
          have R9 := Lib.hid (Kd.R_below R8.out hb)
          have E9 := Lib.hid (e9.symm.trans EM.out)
          clear e9 hb
          go_wp2
          go_roundw
          case rel => exact ⟨k + 1, by omega, by go_num, HA2.out, by rw [← E9.out]; exact R9.out, K9.out⟩
          case measure => simp [intOf]; omega
        · have K9 := Lib.hid (below_step K8.out hb)
          have R9 := Lib.hid (R_later hr K8.out.size)
          clear hr hb
          go_wp2
          go_roundw
          case rel => exact ⟨k + 1, by omega, by go_num, HA2.out, by rw [← EM.out]; exact R9.out, K9.out⟩
          case measure => simp [intOf]; omega
      · have hof : ofV xs = ([], 2) := if_neg (fun q => ho (q x MX.out))
        rw [decide_eq_false (show ¬ Dx.okDot x.f0 x.f1 from ho)] at V1
        have V1 := Lib.hid V1
        have HOF := Lib.hid hof
        clear hof ho
        obtain ⟨x0, x1⟩ := x
        go_wp2_with (go_at_call 18; refine (V1.out _).mono ?_; rintro en w8 ⟨rfl, hb⟩; have K8 := Lib.hid (below_step KB.out hb); clear hb)
        go_ret2
        rw [HOF.out]
        exact ⟨_, rfl, Kd.R_nil _ _ _ _ _, K8.out⟩
    · obtain rfl : k = xs.length := by omega
      have hof : ofV xs = (madeV xs, 0) := if_pos (by have := HA.out; rwa [List.take_length] at this)
      have R2 := RR.out
      rw [List.take_length] at R2 ⊢
      have R2 := Lib.hid R2
      have HOF := Lib.hid hof
      clear hof RR EE
      go_wp2
      go_ret2
      rw [HOF.out]
      exact ⟨_, rfl, R2.out, KB.out⟩
end Go.Proofs.YtnbjkpfpcggopaaGreatDoor.Ev

namespace Go.Proofs.YtnbjkpfpcggopaaGreatDoor.Ev
open Go Go.RowKit Go.Proofs Go.Proofs.YtnbjkpfpcggopaaGreatDoorW.PrintWords Go.Proofs.YtnbjkpfpcggopaaGreatDoor.Kit Go.Proofs.YtnbjkpfpcggopaaGreatDoor.PAll Go.Proofs.YtnbjkpfpcggopaaGreatDoor.Dl Go.Proofs.YtnbjkpfpcggopaaGreatDoor.Dx
set_option linter.unusedSimpArgs false
set_option linter.unusedVariables false

theorem infoS : (Tryz.prog.info? 9).map (fun i => (i.zero, i.size, i.bytes)) = some (some (.string ⟨#[]⟩), 1, 16) := by kernel_rfl
def tsP (l : List S25) : List ByteArray := l.map fun x => dtP x.f0 x.f1
theorem ts_take (xs : List S25) (k : Nat) (h : k < xs.length) : tsP (xs.take (k + 1)) = tsP (xs.take k) ++ [dtP (xs.getD k z25).f0 (xs.getD k z25).f1] := by
  rw [take_getD xs k h]
  simp [tsP]
theorem join_tl (l : List S25) : Lib.joinTail [32] ((tsP l).map (·.data.toList)) = tlL l := by
  induction l with
  | nil => rfl
  | cons x l ih =>
    show (32 :: (dtP x.f0 x.f1).data.toList) ++ Lib.joinTail [32] ((tsP l).map (·.data.toList)) = _
    rw [ih]
    rfl
theorem join_vt (x : S25) (l : List S25) : Lib.join ((tsP (x :: l)).map (·.data.toList)) [32] = vtL (x :: l) := by
  show Lib.join ((dtP x.f0 x.f1).data.toList :: (tsP l).map (·.data.toList)) [32] = _
  rw [Lib.join_cons, join_tl]
  rfl
theorem tl_len {l : List S25} (h : ∀ x ∈ l, okS x) : (tlL l).length ≤ 21 * l.length := by
  induction l with
  | nil => exact Nat.le_refl _
  | cons x l ih =>
    have h1 := ih (fun y hy => h y (List.mem_cons_of_mem _ hy))
    have h2 := dtL_len (.inl (h x List.mem_cons_self))
    show (32 :: dtL x.f0 x.f1 ++ tlL l).length ≤ 21 * (l.length + 1)
    rw [List.length_append, List.length_cons]
    omega
theorem vt_len {l : List S25} (h : ∀ x ∈ l, okS x) : (vtL l).length ≤ 21 * l.length + 1 := by
  cases l with
  | nil => exact Nat.le_refl _
  | cons x l =>
    have h1 := tl_len (fun y hy => h y (List.mem_cons_of_mem _ hy) : ∀ y ∈ l, okS y)
    have h2 := dtL_len (.inl (h x List.mem_cons_self))
    show (dtL x.f0 x.f1 ++ tlL l).length ≤ 21 * (l.length + 1) + 1
    rw [List.length_append]
    omega
set_option maxHeartbeats 4000000 in
set_option maxRecDepth 100000 in
theorem vtext_any (A : Option Addr) (c : Nat) (xs : List S25) (w : World) (hx : k25.C w A xs.length xs) (hl : xs.length ≤ 100000) (hG : DOK w) :
    Calls Tryz.prog 32 #[.slice A xs.length c] w (BeP (.tuple #[.string (vecT xs).1, .int .i64 (vecT xs).2]) w) := by
  have HX := Lib.hid hx
  have hli : (xs.length : Int) ≤ 100000 := by omega
  by_cases h : VOk xs
  · have E := Lib.hid (show vecT xs = (⟨(vtL xs).toArray⟩, 0) from if_pos h)
    have VV := Lib.hid (fun W hc => vvalid_any A c xs true W hc (by omega) ⟨fun _ => (vecok_iff xs).2 h, fun _ => rfl⟩)
    cases hxs : xs with
    | nil =>
      subst hxs
      clear hx hl h
      go_enter Tryz.func32, Tryz.ntmps32
      go_wp2_with (go_at_call 9; refine (VV.out _ HX.out).mono ?_; rintro en w1 ⟨rfl, hb⟩; have KB := Lib.hid hb; clear hb)
      go_ret2
      rw [E.out]
      exact ⟨rfl, KB.out⟩
    | cons y ys =>
      have hp : 0 < xs.length := by rw [hxs]; simp
      have hpb : ((xs.length : Int) == 0) = false := beq_eq_false_iff_ne.2 (by omega)
      have EJ := Lib.hid (show Lib.join ((tsP xs).map (·.data.toList)) [32] = vtL xs by rw [hxs]; exact join_vt y ys)
      have HLN := Lib.hid (show (vtL xs).length ≤ 140737488355328 from Nat.le_trans (vt_len h.2) (by omega))
      rw [← hxs]
      have OK := Lib.hid h.2
      have DT := Lib.hid (fun (x : S25) W (hW : Below w.heap.size w W) => Text_any x.f0 x.f1 W (hG.below hW))
      clear hx hl h hxs hG
      go_enter Tryz.func32, Tryz.ntmps32
      go_wp2_with (go_at_call 9; refine (VV.out _ HX.out).mono ?_; rintro en w1 ⟨rfl, hb⟩; have KB := Lib.hid hb; clear hb)
      go_loopw [4, 19] (fun u i wr => ∃ k : Nat, k ≤ xs.length ∧ i = .int .i64 k ∧ Kd.string.R 9 wr w.heap.size (fun _ => True) u (tsP (xs.take k)) ∧ Below w.heap.size w wr) (fun _ i _ => xs.length - (intOf i).toNat)
      case atStart => exact ⟨0, Nat.zero_le _, rfl, Kd.R_nil _ _ _ _ _, KB.out⟩
      case round =>
        clear KB
        obtain ⟨k, hk, rfl, hR, hB⟩ := hrel
        have KB := Lib.hid hB
        have RR := Lib.hid hR
        clear hB hR
        by_cases hlt : k < xs.length
        · obtain ⟨ad, eA, q0, q1⟩ := at_T25 (Kd.C_below HX.out KB.out) (k : Int) (by omega) (by omega)
          subst eA
          have hrd : rd_T25 xs (k : Int) = xs.getD k z25 := by unfold rd_T25; rw [Int.toNat_natCast]
          rw [hrd, Int.toNat_natCast] at q0 q1
          have ho := OK.out _ (getD_mem hlt)
          have TK := Lib.hid (ts_take xs k hlt)
          have TL := Lib.hid (show ((tsP (xs.take k)).length + 1) * 16 ≤ 140737488355328 by
            have : (tsP (xs.take k)).length ≤ k := by unfold tsP; rw [List.length_map, List.length_take]; exact Nat.min_le_left _ _
            omega)
          generalize xs.getD k z25 = x at q0 q1 TK ho
          have D1 := DT.out x
          rw [show dotT x.f0 x.f1 = (dtP x.f0 x.f1, 0) from if_pos (.inl ho)] at D1
          have D1 := Lib.hid D1
          generalize dtP x.f0 x.f1 = t at D1 TK
          generalize tsP (xs.take k) = out at RR TL TK
          clear ho hrd DT
          obtain ⟨x0, x1⟩ := x
          go_wp2_with (first
            | (go_at_call 48; refine (D1.out _ (below_alloc KB.out _)).mono ?_; rintro en w2 ⟨rfl, hb⟩; have K2 := Lib.hid (below_step (below_alloc KB.out _) hb); have R2 := Lib.hid (Kd.R_below (Kd.R_alloc RR.out _) hb); clear hb)
            | (at_builtin; refine Kd.R_append Kd.string (w0 := w) (W := w2) w.heap.size rfl (.tmp 28) (.tmp 30) 70 9 (.string ⟨#[]⟩) 16 rfl Tryz.underlying70 infoS rfl (by decide) (by decide) u4 out t [.string t] (fun _ => True) (fun _ => False) (by rfl) (by rfl) rfl (fun _ h => h.elim) (fun _ _ => trivial) R2.out K2.out K2.out.size TL.out ?_; intro v3 w3 hR3 hB3 _ _; have R3 := Lib.hid hR3; have K3 := Lib.hid hB3; clear hR3 hB3)
            | go_in)
          go_roundw
          case rel => exact ⟨k + 1, by omega, by go_num, by rw [TK.out]; exact R3.out, K3.out⟩
          case measure => simp [intOf]; omega
        · obtain rfl : k = xs.length := by omega
          rw [List.take_length] at RR
          have hl2 : (tsP xs).length = xs.length := List.length_map ..
          have hp2 : 0 < (tsP xs).length := by omega
          obtain ⟨g, cap, rfl, hg1, hg2, _⟩ := Kd.R_form RR.out hp2
          obtain ⟨_, hcap, hC⟩ := Kd.R_reads' RR.out
          have JN := Tryz.strings_Join g 0 cap (tsP xs) ⟨#[32]⟩ wr (fun j x hj => by
            obtain ⟨hj1, hj2⟩ := List.getElem?_eq_some_iff.1 hj
            obtain ⟨ad, e1, e2⟩ := Kd.at_string hC (j : Int) (by omega) (by omega)
            injection e1 with e1
            subst e1
            rw [Int.toNat_natCast] at e2
            rw [Nat.zero_add]
            have e3 : rdOf ByteArray.empty (tsP xs) (j : Int) = x := by
              unfold rdOf
              rw [Int.toNat_natCast, List.getD_eq_getElem?_getD, hj]; rfl
            rw [e3, add0] at e2
            exact e2) hg2 (by omega) hcap (by have h1 := EJ.out; have h2 := HLN.out; rw [← h1] at h2; exact h2)
          have e5 : (⟨#[32]⟩ : ByteArray).data.toList = [32] := rfl
          rw [e5, EJ.out] at JN
          have JN := Lib.hid JN
          clear hC hg1 hg2 hcap RR hl2 hp2
          generalize (tsP xs).length = n at JN ⊢
          go_wp2_with (go_at_call 49; refine JN.out.mono ?_; rintro en w2 ⟨rfl, hb⟩; have K2 := Lib.hid (below_step KB.out hb); clear hb)
          go_ret2
          rw [E.out]
          exact ⟨rfl, K2.out⟩
  · have E := Lib.hid (show vecT xs = (⟨#[]⟩, 2) from if_neg h)
    have VV := Lib.hid (fun W hc => vvalid_any A c xs false W hc (by omega) ⟨fun q => Bool.noConfusion q, fun q => absurd ((vecok_iff xs).1 q) h⟩)
    clear hx hl h
    go_enter Tryz.func32, Tryz.ntmps32
    go_wp2_with (go_at_call 9; refine (VV.out _ HX.out).mono ?_; rintro en w1 ⟨rfl, hb⟩; have KB := Lib.hid hb; clear hb)
    go_ret2
    rw [E.out]
    exact ⟨rfl, KB.out⟩
end Go.Proofs.YtnbjkpfpcggopaaGreatDoor.Ev
