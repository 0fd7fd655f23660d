/- What the methods of an allocator do: contracts of package alloc's functions. -/
import Derived.Test.YtnkblfokfmbbhaaProg
import Derived.Test.YtnkblfokfmbbhaaKit
namespace Go.Proofs.Ytnkblfokfmbbhaa.Al
open Go.RowKit Go.Proofs Go.Proofs.YtnkblfokfmbbhaaW.PrintWords Go.Proofs.Ytnkblfokfmbbhaa.Kit

theorem infoDot : (Try.prog.info? 34).map (fun i => (i.zero, i.size, i.bytes)) = some (some (.agg #[.int .i64 0, .int .i64 0]), 2, 16) := by kernel_rfl

def d32 : Kd (Int × Int) := Kd.pair (Kd.int .i64) (Kd.int .i64)
def dots (r l : Int) (n : Nat) : List (Int × Int) := (List.range n).map fun (i : Nat) => (r, l + 1 + (i : Int))
theorem dots_length (r l : Int) (n : Nat) : (dots r l n).length = n := by simp [dots]
theorem dots_succ (r l : Int) (n : Nat) : dots r l (n + 1) = dots r l n ++ [(r, l + 1 + n)] := by simp [dots, List.range_succ]

/-- Block b is an allocator. -/
def Al (w : World) (b : Nat) (r l e : Int) : Prop := w.heap[b]? = some (.cells #[.int .i64 r, .int .i64 l, .int .i64 e] 65 (0, 0))
section
variable {w : World} {b : Nat} {r l e : Int}
theorem Al.c0 (h : Al w b r l e) : w.cell? ⟨b, 0, none⟩ = some (.int .i64 r) := (blk_cell h 0).trans rfl
theorem Al.c1 (h : Al w b r l e) : w.cell? ⟨b, 1, none⟩ = some (.int .i64 l) := (blk_cell h 1).trans rfl
theorem Al.c2 (h : Al w b r l e) : w.cell? ⟨b, 2, none⟩ = some (.int .i64 e) := (blk_cell h 2).trans rfl
theorem Al.f (h : Al w b r l e) (i : Nat) : w.frozen? ⟨b, i, none⟩ = false := blk_frozen h i
theorem Al.lt (h : Al w b r l e) : b < w.heap.size := blk_lt h
theorem Al.set1 (h : Al w b r l e) (x : Int) : Al (w.setCell ⟨b, 1, none⟩ (.int .i64 x)) b r x e := blk_put h 1 _ rfl
theorem Al.set2 (h : Al w b r l e) (x : Int) : Al (w.setCell ⟨b, 2, none⟩ (.int .i64 x)) b r l x := blk_put h 2 _ rfl
theorem Al.grown {w' : World} {row : Option Nat} (h : Al w b r l e) (hg : w.grownBy w' row) (hne : some b ≠ row) : Al w' b r l e := blk_grown h hg hne
theorem Al.below {w' : World} (h : Al w b r l e) (hb : Below w.heap.size w w') : Al w' b r l e := blk_below h hb
end

def validB (r l e : Int) : Bool := decide (1 ≤ r) && decide (r ≤ 64) && decide (0 ≤ l) && decide (l ≤ e) && decide (e ≤ 4294967295)

def NewP (r l e : Int) (w : World) (en : Ending) (w' : World) : Prop :=
  (validB r l e = true ∧ ∃ b, en = .returned (.tuple #[.pointer (some ⟨b, 0, none⟩), .int .i64 0]) ∧ w.heap.size ≤ b ∧ Al w' b r l e ∧ Below w.heap.size w w') ∨
  (validB r l e = false ∧ en = .returned (.tuple #[.pointer none, .int .i64 2]) ∧ Below w.heap.size w w')

set_option maxHeartbeats 400000 in
theorem new_any (r l e : Int) (w : World) : Calls Try.prog 27 #[.int .i64 r, .int .i64 l, .int .i64 e] w (NewP r l e w) := by
  have hb1 : ∀ o : Obj, Below w.heap.size w (w.alloc o) := fun o => (Below.refl _ _).alloc (Nat.le_refl _) o
  have hb2 : ∀ o o' : Obj, Below w.heap.size w ((w.alloc o).alloc o') := fun o o' => (hb1 o).alloc (by simp) o'
  have no : ∀ o : Obj, validB r l e = false → NewP r l e w (.returned (.tuple #[.pointer none, .int .i64 2])) (w.alloc o) := fun o h => Or.inr ⟨h, rfl, hb1 o⟩
  have yes : ∀ o : Obj, validB r l e = true → NewP r l e w (.returned (.tuple #[.pointer (some ⟨w.heap.size + 1, 0, none⟩), .int .i64 0])) ((w.alloc o).alloc (.cells #[.int .i64 r, .int .i64 l, .int .i64 e] 65)) := fun o h =>
    Or.inl ⟨h, _, rfl, by omega, by have := blk_new (w.alloc o) (.cells #[.int .i64 r, .int .i64 l, .int .i64 e] 65 (0, 0)); simpa [Al] using this, hb2 _ _⟩
  have NO := Lib.hid no
  have YES := Lib.hid yes
  clear no yes hb1 hb2
  go_enter Try.func27, Try.ntmps27
  go_wp2
  all_goals go_ret2
  all_goals first
  | exact YES.out _ (by simp [validB]; omega)
  | exact NO.out _ (by simp [validB]; omega)

def takeE (l e n : Int) : Int := if n < 0 ∨ 65536 < n then 2 else if e - l < n then 14 else 0
def takeN (l e n : Int) : Nat := if n < 0 ∨ 65536 < n then 0 else if e - l < n then 0 else n.toNat
def TakeP (b : Nat) (r l e n : Int) (w : World) (en : Ending) (w' : World) : Prop :=
  ∃ v, en = .returned (.tuple #[v, .int .i64 (takeE l e n)]) ∧ d32.R 34 w' w.heap.size (fun j => w.heap.size ≤ j) v (dots r l (takeN l e n)) ∧ Al w' b r (l + takeN l e n) e ∧ w.grownBy w' (some b)

set_option maxHeartbeats 1000000 in
theorem take_yes (b : Nat) (r l e n : Int) (w : World) (hr : (r == 0) = false) (h : Al w b r l e)
   (hl : 0 ≤ l) (he : e ≤ 4294967295) (h0 : 0 ≤ n) (h1 : n ≤ 65536) (h2 : n ≤ e - l) :
    Calls Try.prog 33 #[.pointer (some ⟨b, 0, none⟩), .int .i64 n] w (TakeP b r l e n w) := by
  have hc0 := h.c0
  have hc1 := h.c1
  have hc2 := h.c2
  have hb := h.lt
  go_enter Try.func33, Try.ntmps33
  go_wp2
  go_loopw [6, 23] (fun v i wr => ∃ k : Nat, (k : Int) ≤ n ∧ i = .int .i64 k ∧ d32.R 34 wr w.heap.size (fun j => w.heap.size ≤ j) v (dots r l k) ∧ Al wr b r (l + k) e ∧ w.grownBy wr (some b)) (fun _ i _ => (n - intOf i).toNat)
  case atStart => 
    exact ⟨0, by omega, rfl, Kd.R_nil _ _ _ _ _, by simpa using h, grown_refl _ _⟩
  case round =>
    obtain ⟨k, hk, rfl, HR, HA, HG⟩ := hrel
    have hc0 := HA.c0
    have hc1 := HA.c1
    have hf1 := HA.f 1
    by_cases hlt : (k : Int) < n
    · go_wp2
      have HR1 := Kd.R_far HR (p := ⟨b, 1, none⟩) (fun j hj => by show j ≠ b; omega) (Value.int IntKind.i64 (l + ↑k + 1))
      have HA1 := HA.set1 (l + ↑k + 1)
      have HG1 := grown_then HG (grown_set wr b 1 (Value.int IntKind.i64 (l + ↑k + 1))) (fun j hj => Or.inr rfl)
      clear hc0 hc1 hf1 HR HA HG
      generalize (wr.setCell { block := b, off := 1 } (Value.int IntKind.i64 (l + ↑k + 1))) = w2 at *
      have hc0 := HA1.c0
      have hc1 := HA1.c1
      have hsz := HG1.size
      have hlen := dots_length r l k
      go_region_law (refine Kd.R_append_step d32 (w0 := w2.drew) (W := w2.drew) w.heap.size (by rfl) (.tmp 32) (.tmp 42) 28 34 (.agg #[.int .i64 0, .int .i64 0]) 16 (by rfl) Try.underlying28 infoDot rfl (by decide) (by decide) u6 (dots r l k) (r, l + k + 1) [.int .i64 r, .int .i64 (l + k + 1)] (fun j => w.heap.size ≤ j) (fun _ => False) (by rfl) (by rfl) ⟨[.int .i64 r], [.int .i64 (l + k + 1)], rfl, rfl, rfl⟩ (fun _ h => h.elim) (fun j hj => Nat.le_trans hsz hj) HR1 (Below.refl _ _) hsz (by rw [hlen]; omega) ?_; intro v1 w1 HR2 HB2 HG2 HT2)
      all_goals
        clear hc0 hc1
        replace HG2 := grown_undrew HG2
        have HA2 := HA1.grown HG2 (fun e => by have := HR1.1 b e.symm; omega)
        have HG3 := grown_then HG1 HG2 (fun j hj => Or.inl (HR1.1 j hj))
        go_wp2
        go_roundw
        case rel => (repeat apply Exists.intro); exact ⟨⟨k + 1, by omega, by go_num, by rw [dots_succ]; rw [show l + 1 + (k : Int) = l + k + 1 by omega]; exact HR2, by rw [show l + ((k + 1 : Nat) : Int) = l + k + 1 by omega]; exact HA2, HG3⟩, rfl⟩
        case measure => simp [intOf]; omega
    · go_wp2
      go_ret2
      have e1 : n = k := by omega
      subst e1
      have e2 : takeE l e k = 0 := by unfold takeE; rw [if_neg (by omega), if_neg (by omega)]
      have e3 : takeN l e k = k := by unfold takeN; rw [if_neg (by omega), if_neg (by omega)]; omega
      exact ⟨u6, by rw [e2]; rfl, by rw [e3]; exact HR, by rw [e3]; exact HA, HG⟩

set_option maxHeartbeats 400000 in
theorem take_any (b : Nat) (r l e n : Int) (w : World) (hr : (r == 0) = false) (h : Al w b r l e) (hl : 0 ≤ l) (hle : l ≤ e) (he : e ≤ 4294967295) :
    Calls Try.prog 33 #[.pointer (some ⟨b, 0, none⟩), .int .i64 n] w (TakeP b r l e n w) := by
  have hc0 := h.c0
  have hc1 := h.c1
  have hc2 := h.c2
  have cls : ∀ x : Int, takeE l e n = x → takeN l e n = 0 → TakeP b r l e n w (.returned (.tuple #[.slice none 0 0, .int .i64 x])) w := fun x h1 h2 =>
    ⟨.slice none 0 0, by rw [h1], by rw [h2]; exact Kd.R_nil _ _ _ _ _, by rw [h2]; simpa using h, grown_refl _ _⟩
  by_cases h1 : n < 0 ∨ 65536 < n
  · have fin := cls 2 (by unfold takeE; rw [if_pos h1]) (by unfold takeN; rw [if_pos h1])
    have FIN := Lib.hid fin
    clear fin cls
    rcases h1 with h1 | h1
    · go_enter Try.func33, Try.ntmps33
      go_wp2
      go_ret2
      exact FIN.out
    · go_enter Try.func33, Try.ntmps33
      go_wp2
      go_ret2
      exact FIN.out
  · by_cases h2 : e - l < n
    · have fin := cls 14 (by unfold takeE; rw [if_neg h1, if_pos h2]) (by unfold takeN; rw [if_neg h1, if_pos h2])
      have FIN := Lib.hid fin
      clear fin cls
      have h3 : 0 ≤ n := by omega
      have h4 : n ≤ 65536 := by omega
      clear h1
      go_enter Try.func33, Try.ntmps33
      go_wp2
      go_ret2
      exact FIN.out
    · exact take_yes b r l e n w hr h hl he (by omega) (by omega) (by omega)
end Go.Proofs.Ytnkblfokfmbbhaa.Al
