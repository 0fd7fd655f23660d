/- Small facts on worlds, blocks and rows that the walks of this seat share; no program is named here. -/
/- Frames: what a call that writes some blocks of the caller's leaves alone; rows of bytes under frames; no program is named here. -/
/- Sets of dots, plain law; no program is named here. -/
-- Printed by a program of this session (wip/tools/mkcmp.py) out of the printed walk; Lean checks it.
/- Dots: the order as the sort asks for it; slices.SortFunc at a row of one's own. -/
-- Printed by a program of this session (wip/tools/mkprint2.py) out of the translation; Lean checks it. -- narrowed
/- slices.Compact at a row of dots of one's own. -/
import Derived.Test.YtcmicaheakkgdaaDoorWWords
import Derived.WalkKit
import Derived.WalkSpells
import Derived.WalkLawsBesides
import Derived.Lib.Hide
import Derived.BigQuiet
import Derived.Deep.QuietTactic
import Derived.Deep.RegionHeld3
import Derived.Deep.AppendLies
import Derived.BigRegion
import Derived.Deep.RegionLaw
import Derived.Test.YtcmicaheakkgdaaDoorWMore
import Derived.Test.YtcmicaheakkgdaaDoorPAllx0
import Derived.Lib.SlicesCompact
import Derived.Test.YtcmicaheakkgdaaDoorPAllx2
import Derived.Test.YtcmicaheakkgdaaDoorShelf
import Derived.Test.YtcmicaheakkgdaaDoorPAllx1
import Derived.Lib.SliceRun
namespace Go.Proofs.YtcmicaheakkgdaaDoor.Kit
open Go.RowKit Go.Proofs.YtcmicaheakkgdaaDoorW.PrintWords

theorem grown_set (w : World) (b i : Nat) (v : Value) : w.grownBy (w.setCell ⟨b, i, none⟩ v) (some b) :=
  ⟨rfl, rfl, rfl, by simp [World.setCell], fun _ _ hk => Below.heap_setCell _ _ _ _ (fun e => hk (by rw [e]))⟩
theorem below_alike {B : Nat} {w0 w : World} (h : Below B w0 w) (n : Nat) : Below B w0 (w.drewN n) := ⟨h.os, h.tape, h.output, h.size, h.block⟩
end Go.Proofs.YtcmicaheakkgdaaDoor.Kit

namespace Go.Proofs.YtcmicaheakkgdaaDoor.Kit
open Go.RowKit Go.Proofs.YtcmicaheakkgdaaDoorW.PrintWords

/-- From w to w1 only blocks in S, and new ones, have turned. -/
structure Fr (w w1 : World) (S : Nat → Prop) : Prop where
  os : w1.os = w.os
  tape : w1.tape = w.tape
  output : w1.output = w.output
  size : w.heap.size ≤ w1.heap.size
  block : ∀ i, i < w.heap.size → ¬ S i → w1.heap[i]? = w.heap[i]?
section
variable {w0 w w1 w2 : World} {S S' : Nat → Prop}
theorem Fr.refl (w : World) (S : Nat → Prop) : Fr w w S := ⟨rfl, rfl, rfl, Nat.le_refl _, fun _ _ _ => rfl⟩
theorem Fr.below (h : Below w.heap.size w w1) (S : Nat → Prop) : Fr w w1 S := ⟨h.os, h.tape, h.output, h.size, fun i hi _ => h.block i hi⟩
theorem Fr.grown {row : Option Nat} (h : w.grownBy w1 row) : Fr w w1 (fun i => some i = row) := ⟨h.os, h.tape, h.output, h.size, fun i hi hn => h.block i hi hn⟩
theorem Fr.mono (h : Fr w w1 S) (k : ∀ i, i < w.heap.size → S i → S' i) : Fr w w1 S' := ⟨h.os, h.tape, h.output, h.size, fun i hi hn => h.block i hi (fun q => hn (k i hi q))⟩
theorem Fr.set (w : World) (g i : Nat) (v : Value) : Fr w (w.setCell ⟨g, i, none⟩ v) (fun j => j = g) := (Fr.grown (grown_set w g i v)).mono fun _ _ q => by injection q
theorem Fr.blk (k : Fr w w1 S) {g : Nat} {o : Obj} (h : w.heap[g]? = some o) (hg : ¬ S g) : w1.heap[g]? = some o := (k.block g (blk_lt h) hg).trans h
end
end Go.Proofs.YtcmicaheakkgdaaDoor.Kit

namespace Go.Proofs.YtcmicaheakkgdaaDoor.Dl
open Go Go.Lib Go.Proofs.YtcmicaheakkgdaaDoor.PAll

def ltD (a b : S23) : Prop := a.f1 < b.f1 ∨ (a.f1 = b.f1 ∧ a.f0 < b.f0)
instance (a b : S23) : Decidable (ltD a b) := inferInstanceAs (Decidable (a.f1 < b.f1 ∨ (a.f1 = b.f1 ∧ a.f0 < b.f0)))
theorem ext_D {a b : S23} (h0 : a.f0 = b.f0) (h1 : a.f1 = b.f1) : a = b := by cases a; cases b; simp_all
instance : DecidableEq S23 := fun a b => if h : a.f0 = b.f0 ∧ a.f1 = b.f1 then isTrue (ext_D h.1 h.2) else isFalse (fun e => h ⟨by rw [e], by rw [e]⟩)
instance : Inhabited S23 := ⟨z23⟩
theorem lt_irrefl (a : S23) : ¬ ltD a a := by unfold ltD; omega
theorem lt_trans {a b c : S23} (h : ltD a b) (k : ltD b c) : ltD a c := by unfold ltD at *; omega
theorem lt_tri (a b : S23) : ltD a b ∨ a = b ∨ ltD b a := by
  by_cases h : a.f0 = b.f0 ∧ a.f1 = b.f1
  · exact Or.inr (Or.inl (ext_D h.1 h.2))
  · unfold ltD; omega
theorem lt_asymm {a b : S23} (h : ltD a b) : ¬ ltD b a := by unfold ltD at *; omega
theorem lt_ne {a b : S23} (h : ltD a b) : a ≠ b := fun e => lt_irrefl b (e ▸ h)
/-- The order as a number. -/
def cmpD (a b : S23) : Int := if ltD a b then -1 else if ltD b a then 1 else 0
theorem cmpD_neg (a b : S23) : cmpD a b < 0 ↔ ltD a b := by
  unfold cmpD
  by_cases h : ltD a b
  · simp [h]
  · by_cases k : ltD b a <;> simp [h, k]
theorem cmpD_zero (a b : S23) : cmpD a b = 0 ↔ a = b := by
  unfold cmpD
  by_cases h : ltD a b
  · simp [h, lt_ne h]
  · by_cases k : ltD b a
    · simp [h, k, (lt_ne k).symm]
    · rcases lt_tri a b with q | q | q
      · exact absurd q h
      · subst q; simp [h]
      · exact absurd q k
theorem cmpD_symm (a b : S23) : cmpD b a = -cmpD a b := by
  unfold cmpD
  by_cases h : ltD a b
  · simp [h, lt_asymm h]
  · by_cases k : ltD b a <;> simp [h, k]

def Srt (l : List S23) : Prop := l.Pairwise ltD
instance (l : List S23) : Decidable (Srt l) := inferInstanceAs (Decidable (l.Pairwise ltD))
def insD (x : S23) : List S23 → List S23
 | [] => [x]
 | y :: l => if ltD x y then x :: y :: l else if ltD y x then y :: insD x l else y :: l
/-- The set of a list. -/
def setD (l : List S23) : List S23 := l.foldr insD []
theorem mem_ins {x z : S23} : ∀ {l : List S23}, z ∈ insD x l ↔ z = x ∨ z ∈ l
  | [] => by simp [insD]
  | y :: l => by
    unfold insD
    by_cases h : ltD x y
    · rw [if_pos h]; simp
    · rw [if_neg h]
      by_cases k : ltD y x
      · rw [if_pos k, List.mem_cons, mem_ins, List.mem_cons]
        constructor
        · rintro (q | q | q) <;> simp [q]
        · rintro (q | q | q) <;> simp [q]
      · rw [if_neg k]
        have e : x = y := by
          rcases lt_tri x y with q | q | q
          · exact absurd q h
          · exact q
          · exact absurd q k
        subst e
        simp
theorem srt_ins {x : S23} : ∀ {l : List S23}, Srt l → Srt (insD x l)
  | [], _ => List.pairwise_singleton _ _
  | y :: l, hs => by
    obtain ⟨h1, h2⟩ := List.pairwise_cons.1 hs
    unfold insD
    by_cases h : ltD x y
    · rw [if_pos h]
      refine List.pairwise_cons.2 ⟨fun z hz => ?_, hs⟩
      rcases List.mem_cons.1 hz with rfl | hz
      · exact h
      · exact lt_trans h (h1 z hz)
    · rw [if_neg h]
      by_cases k : ltD y x
      · rw [if_pos k]
        refine List.pairwise_cons.2 ⟨fun z hz => ?_, srt_ins h2⟩
        rcases mem_ins.1 hz with rfl | hz
        · exact k
        · exact h1 z hz
      · rw [if_neg k]; exact hs
theorem srt_set : ∀ (l : List S23), Srt (setD l)
  | [] => List.Pairwise.nil
  | _ :: l => srt_ins (srt_set l)
theorem mem_set {z : S23} : ∀ {l : List S23}, z ∈ setD l ↔ z ∈ l
  | [] => Iff.rfl
  | x :: l => by
    show z ∈ insD x (setD l) ↔ _
    rw [mem_ins, mem_set, List.mem_cons]
/-- Sets with the same members are equal. -/
theorem srt_eq : ∀ {a b : List S23}, Srt a → Srt b → (∀ z, z ∈ a ↔ z ∈ b) → a = b
  | [], [], _, _, _ => rfl
  | [], y :: b, _, _, h => absurd ((h y).2 List.mem_cons_self) (by simp)
  | x :: a, [], _, _, h => absurd ((h x).1 List.mem_cons_self) (by simp)
  | x :: a, y :: b, ha, hb, h => by
    obtain ⟨a1, a2⟩ := List.pairwise_cons.1 ha
    obtain ⟨b1, b2⟩ := List.pairwise_cons.1 hb
    have e : x = y := by
      rcases List.mem_cons.1 ((h x).1 List.mem_cons_self) with q | q
      · exact q
      · rcases List.mem_cons.1 ((h y).2 List.mem_cons_self) with p | p
        · exact p.symm
        · exact absurd (a1 y p) (lt_asymm (b1 x q))
    subst e
    rw [srt_eq a2 b2 fun z => ?_]
    constructor
    · intro q
      rcases List.mem_cons.1 ((h z).1 (List.mem_cons_of_mem _ q)) with rfl | p
      · exact absurd (a1 _ q) (lt_irrefl _)
      · exact p
    · intro q
      rcases List.mem_cons.1 ((h z).2 (List.mem_cons_of_mem _ q)) with rfl | p
      · exact absurd (b1 _ q) (lt_irrefl _)
      · exact p
theorem set_eq {a l : List S23} (ha : Srt a) (h : ∀ z, z ∈ a ↔ z ∈ l) : a = setD l := srt_eq ha (srt_set l) fun z => (h z).trans mem_set.symm
theorem set_of_srt {a : List S23} (ha : Srt a) : setD a = a := (set_eq ha fun _ => Iff.rfl).symm
def unionD (a b : List S23) : List S23 := setD (a ++ b)
def minusD (a b : List S23) : List S23 := setD (a.filter fun z => decide (z ∉ b))
theorem mem_union {z : S23} {a b : List S23} : z ∈ unionD a b ↔ z ∈ a ∨ z ∈ b := mem_set.trans List.mem_append
theorem mem_minus {z : S23} {a b : List S23} : z ∈ minusD a b ↔ z ∈ a ∧ z ∉ b := mem_set.trans (by simp)
theorem ins_set {x : S23} {l : List S23} : insD x (setD l) = setD (l ++ [x]) := set_eq (srt_ins (srt_set l)) fun z => by
  rw [mem_ins, mem_set]
  simp [or_comm]
/-! What Compact does to a sorted row. -/
theorem upTo_succ (d : Array S23) (m : Nat) : compactUpTo d (m + 1) = compactUpTo d m ++ (if keeps d m then [d[m]!] else []) := by
  unfold compactUpTo
  rw [List.range_succ, List.filter_append, List.map_append]
  by_cases h : keeps d m = true
  · simp [h]
  · simp [h]
theorem upTo_srt (d : Array S23) (hs : ∀ i j, i < j → j < d.size → ¬ ltD d[j]! d[i]!) : ∀ m, m ≤ d.size → Srt (compactUpTo d m) ∧ (∀ z, z ∈ compactUpTo d m ↔ ∃ j, j < m ∧ d[j]! = z)
  | 0, _ => ⟨List.Pairwise.nil, fun z => by simp [compactUpTo]⟩
  | m + 1, hm => by
    obtain ⟨h1, h2⟩ := upTo_srt d hs m (by omega)
    rw [upTo_succ]
    by_cases hk : keeps d m = true
    · rw [if_pos hk]
      refine ⟨List.pairwise_append.2 ⟨h1, List.pairwise_singleton _ _, fun x hx y hy => ?_⟩, fun z => ?_⟩
      · obtain rfl : y = d[m]! := by simpa using hy
        obtain ⟨j, hj, rfl⟩ := (h2 x).1 hx
        have hk' : m = 0 ∨ d[m]! ≠ d[m - 1]! := by simpa [keeps] using hk
        have hne : d[m]! ≠ d[m - 1]! := by
          rcases hk' with q | q
          · omega
          · exact q
        have a1 := hs (m - 1) m (by omega) (by omega)
        have a2 : ltD d[m - 1]! d[m]! := by
          rcases lt_tri d[m - 1]! d[m]! with q | q | q
          · exact q
          · exact absurd q.symm hne
          · exact absurd q a1
        rcases Nat.lt_or_ge j (m - 1) with q | q
        · have a3 := hs j (m - 1) q (by omega)
          rcases lt_tri d[j]! d[m - 1]! with p | p | p
          · exact lt_trans p a2
          · rw [p]; exact a2
          · exact absurd p a3
        · obtain rfl : j = m - 1 := by omega
          exact a2
      · rw [List.mem_append, h2]
        constructor
        · rintro (⟨j, hj, rfl⟩ | q)
          · exact ⟨j, by omega, rfl⟩
          · exact ⟨m, by omega, (List.mem_singleton.1 q).symm⟩
        · rintro ⟨j, hj, rfl⟩
          rcases Nat.lt_or_ge j m with q | q
          · exact Or.inl ⟨j, q, rfl⟩
          · obtain rfl : j = m := by omega
            exact Or.inr (by simp)
    · rw [if_neg hk, List.append_nil]
      refine ⟨h1, fun z => ?_⟩
      rw [h2]
      constructor
      · rintro ⟨j, hj, rfl⟩
        exact ⟨j, by omega, rfl⟩
      · rintro ⟨j, hj, rfl⟩
        rcases Nat.lt_or_ge j m with q | q
        · exact ⟨j, q, rfl⟩
        · obtain rfl : j = m := by omega
          have hk' : ¬ (j = 0 ∨ d[j]! ≠ d[j - 1]!) := by simpa [keeps] using hk
          exact ⟨j - 1, by omega, (Classical.not_not.1 (fun q => hk' (Or.inr q))).symm⟩
theorem upTo_set (d : Array S23) (l : List S23) (hs : ∀ i j, i < j → j < d.size → ¬ ltD d[j]! d[i]!) (hm : ∀ z, z ∈ d.toList ↔ z ∈ l) : compactUpTo d d.size = setD l := by
  obtain ⟨h1, h2⟩ := upTo_srt d hs d.size (Nat.le_refl _)
  refine set_eq h1 fun z => ?_
  rw [h2, ← hm]
  constructor
  · rintro ⟨j, hj, rfl⟩
    rw [getElem!_pos d j hj]
    exact Array.getElem_mem_toList hj
  · intro q
    obtain ⟨j, hj, e⟩ := List.getElem_of_mem q
    refine ⟨j, by simpa using hj, ?_⟩
    rw [getElem!_pos d j (by simpa using hj), ← e]
    simp
end Go.Proofs.YtcmicaheakkgdaaDoor.Dl

namespace Go.Proofs.YtcmicaheakkgdaaDoor.PAll.De
open Go Go.RowKit Go.Proofs Go.Proofs.YtcmicaheakkgdaaDoorW.PrintWords Go.Proofs.YtcmicaheakkgdaaDoorW.PrintLast Go.Proofs.YtcmicaheakkgdaaDoorW.PrintMore
theorem le_drewN {n m : Nat} {a : World} (h : n ≤ a.drawn) : n ≤ (a.drewN m).drawn := Nat.le_trans h (Nat.le_add_right _ _)
theorem le_drew {n : Nat} {a : World} (h : n ≤ a.drawn) : n ≤ a.drew.drawn := Nat.le_trans h (Nat.le_add_right _ _)
section
variable {P : Program} {ops : Array Oper} {rest : List Oper} {o : Oper} {a : Act} {Q : Exit → Act → World → Prop}
theorem box_eventD {W : World} (hgd : o.guard = none) {N : Tmp} (_hd : o.dst = some N) {cs : Array Value} {t : TypeId}
    (hrun : (execOp a.eval o).run P W = .ok (.value (.pointer (some ⟨W.heap.size, 0, none⟩))) (W.alloc (.cells cs t (0, 0))))
    (h : ∀ g, g = W.heap.size → ∀ w1, w1.heap[g]? = some (.cells cs t (0, 0)) → Below W.heap.size W w1 → W.drawn ≤ w1.drawn → wpList P ops Q rest (a.put o.dst (.pointer (some ⟨g, 0, none⟩))) w1) : wpList P ops Q (o :: rest) a W :=
  Kd.event_run hgd hrun (h _ rfl _ (blk_new W _) (below_alloc (Below.refl _ _) _) (Nat.le_refl _))
end
section
open Kd
variable {P : Program} {ops : Array Oper} {o : Oper} {a : Act} {Q : Exit → Act → World → Prop} {W : World} {Kc : Act → World → Prop} {α : Type}
theorem lit_stepD (d : Kd α) {w0 W : World} (base e : Nat) (hw : Region.wanted o (yielded ops a.tmps) = true) {N : Tmp} (_hd : o.dst = some N) {xs : List α} {inner : List Value} {ok okp : Nat → Prop}
    (hrun : (execOp a.eval o).run P W = .ok (.value (.slice (some ⟨W.heap.size, 0, none⟩) xs.length xs.length)) (W.alloc (.cells inner.toArray e)))
    (hrep : Reps (d.M W base okp) d.sz xs inner) (hok : ∀ k, okp k → ok k) (hfresh : ok W.heap.size) (HB : Below base w0 W) (hbase : base ≤ W.heap.size) (hm : xs.length ≤ 9223372036854775807)
    (h : ∀ v1 w1, d.R e w1 base ok v1 xs → Below base w0 w1 → W.grownBy w1 none → (∃ b, v1.ownBlock = some b ∧ W.heap.size ≤ b) → W.drawn ≤ w1.drawn → Kc (a.put o.dst v1) w1) : if Region.wanted o (yielded ops a.tmps) = true then Oper.wp P o a W Kc Q else Kc (a.put o.dst undef) W := by
  refine event_step hw hrun (h _ _ ⟨fun k hk => ?_, inner, ?_, ?_⟩ (HB.alloc hbase _) (World.grownBy_alloc W _ none) ⟨W.heap.size, by simp [Value.ownBlock], Nat.le_refl _⟩ (Nat.le_refl _))
  · have : W.heap.size = k := by simpa [Value.ownBlock] using hk
    subst this
    exact hfresh
  · have h2 := World.ownsRow_lit (base := base) (e := e) (size := d.sz) W inner.toArray xs.length hbase (by simpa [maxLen] using hm) (by simpa using hrep.1)
    simpa using h2
  · refine hrep.imp_ (fun p c hp => d.M_mono (fun k hk => ⟨hok k hk.1, fun he => ?_⟩) (M_below (d.M_bound hp) (below_alloc (Below.refl _ _) _)))
    have h3 : k = W.heap.size := by simpa [Value.ownBlock] using he
    have := hk.2.2.1
    omega
end
end Go.Proofs.YtcmicaheakkgdaaDoor.PAll.De
namespace Go.Proofs.YtcmicaheakkgdaaDoor.PAll
open Go.RowKit Go.Proofs.YtcmicaheakkgdaaDoorW.PrintWords Go.Proofs.YtcmicaheakkgdaaDoorW.PrintLast Go.Proofs.YtcmicaheakkgdaaDoorW.PrintMore
attribute [local go_sem] max2_int min2_int max_two min_two max_three min_three max_four min_four   -- for this text's walks alone
set_option linter.unusedVariables false
set_option linter.unusedSimpArgs false

attribute [local go_sem high] eqA23
set_option maxHeartbeats 8000000 in
set_option maxRecDepth 100000 in
theorem dot_Compare.callsD (k : Nat) (a0_0 : Int) (a0_1 : Int) (a1_0 : Int) (a1_1 : Int) (r : Int) (w : World) (h : dot_Compare.f k a0_0 a0_1 a1_0 a1_1 = some r) :
  Calls Tryd.prog 12 #[.agg #[.int .i64 a0_0, .int .i64 a0_1], .agg #[.int .i64 a1_0, .int .i64 a1_1]] w fun e w' => e = .returned (.int .i64 r) ∧ Below w.heap.size w w' ∧ w.drawn ≤ w'.drawn := by
 have HD := Aside0.mk (Nat.le_refl w.drawn)
 have hu23 := Tryd.underlying23
 have HB := Aside0.mk (Below.refl w.heap.size w)
 have H : ((cmp_Compare_int.f a0_1 a1_1).bind fun t110 => ((cmp_Compare_int.f a0_0 a1_0).bind fun t111 => ((cmp_Or_int.f k (([t110, t111] : List Int))).bind fun t115 => (some t115)))) = some r := h
 clear h
 replace H := Option.bind_eq_some_iff.mp H
 obtain ⟨t110, A30, H⟩ := H
 replace H : ((cmp_Compare_int.f a0_0 a1_0).bind fun t111 => ((cmp_Or_int.f k (([t110, t111] : List Int))).bind fun t115 => (some t115))) = some r := H
 have A3 := Aside0.mk A30
 clear A30
 replace H := Option.bind_eq_some_iff.mp H
 obtain ⟨t111, A40, H⟩ := H
 replace H : ((cmp_Or_int.f k (([t110, t111] : List Int))).bind fun t115 => (some t115)) = some r := H
 have A4 := Aside0.mk A40
 clear A40
 obtain ⟨y112, hy112⟩ : ∃ y_ : List Int, y_ = (([t110, t111] : List Int)) := ⟨_, rfl⟩
 replace H : ((cmp_Or_int.f k y112).bind fun t115 => (some t115)) = some r := by first | (rw [hy112]; with_reducible exact H) | (have H2_ := (Option.bind_some _ _).symm.trans H; rw [hy112]; with_reducible exact H2_) | (have H2_ := (Option.bind_some _ _).symm.trans H; with_reducible exact H2_) | with_reducible exact H | (rw [hy112]; exact H) | exact H
 have Ny112 := Aside0.mk hy112
 clear hy112
 replace H := Option.bind_eq_some_iff.mp H
 obtain ⟨t115, A50, H⟩ := H
 replace H : (some t115) = some r := H
 have A5 := Aside0.mk A50
 clear A50
 obtain rfl := Option.some.inj H
 go_enter Tryd.func12, Tryd.ntmps12
 try go_wp2_with (first | ((with_reducible refine gate_dst (N := 2) rfl ?_); refine De.box_eventD ?hg (N := 2) ?hd (cs := #[.int .i64 a0_0, .int .i64 a0_1]) (t := 23) ?hr ?_; (case hd => rfl); (case hg => rfl); (case hr => first | (go_simp; done) | (go_simp; rfl)); intro gb108 hg w6 hbox hb hd_; have HD := Aside0.mk (Nat.le_trans (by repeat (first | exact HD.out | apply De.le_drewN | apply De.le_drew)) hd_); clear hd_; have n0_ := Aside0.mk (below_step (by repeat (first | (with_reducible first | exact HB.out | apply below_alloc | apply pw_below_drewN | apply below_drew1) | exact HB.out)) hb); have n1_ := Aside0.mk (hbox); have n2_ := Aside0.mk ((by rw [hg]; exact (below_size (by repeat (first | (with_reducible first | exact HB.out | apply below_alloc | apply pw_below_drewN | apply below_drew1) | exact HB.out))) : w.heap.size ≤ gb108)); have n3_ := Aside0.mk ((by rw [hg]; exact (below_size (by repeat (first | (with_reducible first | exact HB.out | apply below_alloc | apply pw_below_drewN | apply below_drew1) | exact HB.out))) : w.heap.size ≤ gb108)); clear HB; have HB := n0_; have BK108 := n1_; have GW108 := n2_; have GE108 := n3_; clear n0_ n1_ n2_ n3_; clear hb hbox hg) | ((with_reducible refine gate_dst (N := 3) rfl ?_); refine De.box_eventD ?hg (N := 3) ?hd (cs := #[.int .i64 a1_0, .int .i64 a1_1]) (t := 23) ?hr ?_; (case hd => rfl); (case hg => rfl); (case hr => first | (go_simp; done) | (go_simp; rfl)); intro gb109 hg w7 hbox hb hd_; have HD := Aside0.mk (Nat.le_trans (by repeat (first | exact HD.out | apply De.le_drewN | apply De.le_drew)) hd_); clear hd_; have n0_ := Aside0.mk (blk_below (g := gb108) (o := .cells #[.int .i64 a0_0, .int .i64 a0_1] 23 (0, 0)) (by (with_reducible repeat (first | refine blk_drewN ?_ _ | refine blk_drew ?_ | refine blk_alloc ?_ _)); exact BK108.out) hb); have n1_ := Aside0.mk (below_step (by repeat (first | (with_reducible first | exact HB.out | apply below_alloc | apply pw_below_drewN | apply below_drew1 | refine below_set ?_ GE108.out) | exact HB.out)) hb); have n2_ := Aside0.mk (hbox); have n3_ := Aside0.mk ((by rw [hg]; exact (below_size (by repeat (first | (with_reducible first | exact HB.out | apply below_alloc | apply pw_below_drewN | apply below_drew1 | refine below_set ?_ GE108.out) | exact HB.out))) : w.heap.size ≤ gb109)); have n4_ := Aside0.mk ((by rw [hg]; exact (below_size (by repeat (first | (with_reducible first | exact HB.out | apply below_alloc | apply pw_below_drewN | apply below_drew1 | refine below_set ?_ GE108.out) | exact HB.out))) : w.heap.size ≤ gb109)); have n5_ := Aside0.mk ((by rw [hg]; exact Nat.ne_of_lt (blk_lt (g := gb108) (o := .cells #[.int .i64 a0_0, .int .i64 a0_1] 23 (0, 0)) (by (with_reducible repeat (first | refine blk_drewN ?_ _ | refine blk_drew ?_ | refine blk_alloc ?_ _)); exact BK108.out)) : gb108 ≠ gb109)); have n6_ := Aside0.mk ((by rw [hg]; exact Nat.ne_of_gt (blk_lt (g := gb108) (o := .cells #[.int .i64 a0_0, .int .i64 a0_1] 23 (0, 0)) (by (with_reducible repeat (first | refine blk_drewN ?_ _ | refine blk_drew ?_ | refine blk_alloc ?_ _)); exact BK108.out)) : gb109 ≠ gb108)); clear BK108; clear HB; have BK108 := n0_; have HB := n1_; have BK109 := n2_; have GW109 := n3_; have GE109 := n4_; have NB108_109 := n5_; have NB109_108 := n6_; clear n0_ n1_ n2_ n3_ n4_ n5_ n6_; clear hb hbox hg))
 have n0_ := Aside0.mk (blk_drew BK108.out)
 have n1_ := Aside0.mk (blk_drew BK109.out)
 have n2_ := Aside0.mk (below_drew1 HB.out)
 clear BK108
 clear BK109
 clear HB
 have BK108 := n0_
 have BK109 := n1_
 have HB := n2_
 clear n0_ n1_ n2_
 refine start_ (n := 13) (S := fun w' => w'.cell? ⟨gb108, 0, none⟩ = some (.int .i64 a0_0) ∧ w'.cell? ⟨gb108, 1, none⟩ = some (.int .i64 a0_1) ∧ w'.cell? ⟨gb109, 0, none⟩ = some (.int .i64 a1_0) ∧ w'.cell? ⟨gb109, 1, none⟩ = some (.int .i64 a1_1)) (ds := []) #[false, false, false, false, false, false, false, false, false, false, false, false, false] (by kernel_rfl) rfl rfl ⟨(blk_cell BK108.out 0).trans rfl, (blk_cell BK108.out 1).trans rfl, (blk_cell BK109.out 0).trans rfl, (blk_cell BK109.out 1).trans rfl⟩ (fun hHeld => ?_); refine with_tabW dot_Compare.tab1 dot_Compare.bits1 (fun HT_ HW_ => ?_)
 have HD := Aside0.mk (De.le_drew HD.out)
 generalize w7.drew = w8 at HD BK108 BK109 HB hHeld ⊢
 refine pure_ (i := 0) (N := some 5) (v := ?_) (a' := ?_) #[true, false, false, false, false, false, false, false, false, false, false, false, false] rfl rfl (any_of HT_.out (by kernel_rfl)) (fun _ _ _ h => h) (Or.inl ⟨by rfl, ?_⟩) ?_ ?_
 rotate_left
 ·
  intro w'
  go_simp
  with_reducible rfl
 rotate_left
 ·
  simp only [Act.put, List.setIfInBounds_toArray, List.set_cons_zero, List.set_cons_succ, i64_w, i32_w]
  rfl
 refine pure_ (i := 2) (N := some 7) (v := ?_) (a' := ?_) #[true, false, true, false, false, false, false, false, false, false, false, false, false] rfl rfl (any_of HT_.out (by kernel_rfl)) (fun _ _ _ h => h) (Or.inl ⟨by rfl, ?_⟩) ?_ ?_
 rotate_left
 ·
  intro w'
  go_simp
  with_reducible rfl
 rotate_left
 ·
  simp only [Act.put, List.setIfInBounds_toArray, List.set_cons_zero, List.set_cons_succ, i64_w, i32_w]
  rfl
 refine pure_ (i := 5) (N := some 10) (v := ?_) (a' := ?_) #[true, false, true, false, false, true, false, false, false, false, false, false, false] rfl rfl (any_of HT_.out (by kernel_rfl)) (fun _ _ _ h => h) (Or.inl ⟨by rfl, ?_⟩) ?_ ?_
 rotate_left
 ·
  intro w'
  go_simp
  with_reducible rfl
 rotate_left
 ·
  simp only [Act.put, List.setIfInBounds_toArray, List.set_cons_zero, List.set_cons_succ, i64_w, i32_w]
  rfl
 refine pure_ (i := 7) (N := some 12) (v := ?_) (a' := ?_) #[true, false, true, false, false, true, false, true, false, false, false, false, false] rfl rfl (any_of HT_.out (by kernel_rfl)) (fun _ _ _ h => h) (Or.inl ⟨by rfl, ?_⟩) ?_ ?_
 rotate_left
 ·
  intro w'
  go_simp
  with_reducible rfl
 rotate_left
 ·
  simp only [Act.put, List.setIfInBounds_toArray, List.set_cons_zero, List.set_cons_succ, i64_w, i32_w]
  rfl
 refine take_ (i := 1) (N := some 6) (v := ?_) (a' := ?_) #[true, true, true, false, false, true, false, true, false, false, false, false, false] rfl rfl (take_ofW HT_.out HW_.out (by kernel_rfl)) (fun _ _ _ h => h) (Or.inl ⟨by rfl, ?_⟩) hHeld ?_ ?_
 rotate_left
 ·
  rintro w' ⟨s0, s1, s2, s3⟩
  go_simp
  with_reducible rfl
 rotate_left
 ·
  simp only [Act.put, List.setIfInBounds_toArray, List.set_cons_zero, List.set_cons_succ, i64_w, i32_w]
  rfl
 refine take_ (i := 3) (N := some 8) (v := ?_) (a' := ?_) #[true, true, true, true, false, true, false, true, false, false, false, false, false] rfl rfl (take_ofW HT_.out HW_.out (by kernel_rfl)) (fun _ _ _ h => h) (Or.inl ⟨by rfl, ?_⟩) hHeld ?_ ?_
 rotate_left
 ·
  rintro w' ⟨s0, s1, s2, s3⟩
  go_simp
  with_reducible rfl
 rotate_left
 ·
  simp only [Act.put, List.setIfInBounds_toArray, List.set_cons_zero, List.set_cons_succ, i64_w, i32_w]
  rfl
 refine take_ (i := 6) (N := some 11) (v := ?_) (a' := ?_) #[true, true, true, true, false, true, true, true, false, false, false, false, false] rfl rfl (take_ofW HT_.out HW_.out (by kernel_rfl)) (fun _ _ _ h => h) (Or.inl ⟨by rfl, ?_⟩) hHeld ?_ ?_
 rotate_left
 ·
  rintro w' ⟨s0, s1, s2, s3⟩
  go_simp
  with_reducible rfl
 rotate_left
 ·
  simp only [Act.put, List.setIfInBounds_toArray, List.set_cons_zero, List.set_cons_succ, i64_w, i32_w]
  rfl
 refine take_ (i := 8) (N := some 13) (v := ?_) (a' := ?_) #[true, true, true, true, false, true, true, true, true, false, false, false, false] rfl rfl (take_ofW HT_.out HW_.out (by kernel_rfl)) (fun _ _ _ h => h) (Or.inl ⟨by rfl, ?_⟩) hHeld ?_ ?_
 rotate_left
 ·
  rintro w' ⟨s0, s1, s2, s3⟩
  go_simp
  with_reducible rfl
 rotate_left
 ·
  simp only [Act.put, List.setIfInBounds_toArray, List.set_cons_zero, List.set_cons_succ, i64_w, i32_w]
  rfl
 refine one_ (i := 4) (N := some 9) #[true, true, true, true, true, true, true, true, true, false, false, false, false] rfl rfl (one_of HT_.out (by kernel_rfl)) (by decide) (fun K hK => ?_)
 refine goes_ Tryd.func32 (by kernel_rfl) rfl #[.int .i64 a0_1, .int .i64 a1_1] (by rfl) rfl rfl (by (try simp only [List.map_toArray, List.map_cons, List.map_nil]); first | done | rfl | (simp only [List.length_drop, List.length_take]; rfl)) ?_
 with_reducible refine (cmp_Compare_int.calls a0_1 a1_1 t110 _ A3.out).mono ?_
 rintro e w' ⟨rfl, ⟨nd, rfl⟩⟩
 refine ⟨_, rfl, ?_⟩
 refine hK.out _ _ ⟨(blk_cell BK108.out 0).trans rfl, (blk_cell BK108.out 1).trans rfl, (blk_cell BK109.out 0).trans rfl, (blk_cell BK109.out 1).trans rfl⟩ (fun hHeld => ?_)
 clear hK K
 refine norm_ (a' := ?_) ?_ ?_
 rotate_left
 ·
  show Act.put _ (some 9) _ = _
  simp only [Act.put, List.setIfInBounds_toArray, List.set_cons_zero, List.set_cons_succ, i64_w, i32_w]
  rfl
 refine one_ (i := 9) (N := some 14) #[true, true, true, true, true, true, true, true, true, true, false, false, false] rfl rfl (one_of HT_.out (by kernel_rfl)) (by decide) (fun K hK => ?_)
 refine goes_ Tryd.func32 (by kernel_rfl) rfl #[.int .i64 a0_0, .int .i64 a1_0] (by rfl) rfl rfl (by (try simp only [List.map_toArray, List.map_cons, List.map_nil]); first | done | rfl | (simp only [List.length_drop, List.length_take]; rfl)) ?_
 with_reducible refine (cmp_Compare_int.calls a0_0 a1_0 t111 _ A4.out).mono ?_
 rintro e w' ⟨rfl, ⟨nd, rfl⟩⟩
 refine ⟨_, rfl, ?_⟩
 refine hK.out _ _ ⟨(blk_cell BK108.out 0).trans rfl, (blk_cell BK108.out 1).trans rfl, (blk_cell BK109.out 0).trans rfl, (blk_cell BK109.out 1).trans rfl⟩ (fun hHeld => ?_)
 clear hK K
 refine norm_ (a' := ?_) ?_ ?_
 rotate_left
 ·
  show Act.put _ (some 14) _ = _
  simp only [Act.put, List.setIfInBounds_toArray, List.set_cons_zero, List.set_cons_succ, i64_w, i32_w]
  rfl
 refine one_ (i := 10) (N := some 15) #[true, true, true, true, true, true, true, true, true, true, true, false, false] rfl rfl (one_of HT_.out (by kernel_rfl)) (by decide) (fun K hK => ?_)
 refine De.lit_stepD (Kd.int .i64) _ 3 ?hg (N := 15) ?hd (xs := ([t110, t111] : List Int)) (inner := [.int .i64 t110, .int .i64 t111]) (ok := fun _ => True) (okp := fun _ => True) ?hr ?hp (fun _ hk => hk) trivial (Below.refl _ _) (Nat.le_refl _) (by simp) ?_; (case hd => rfl); (case hg => rfl); (case hr => first | (go_simp; done) | (go_simp; rfl)); (case hp => exact (Reps.one (show Kd.M (Kd.int .i64) _ _ _ t110 [.int .i64 t110] from rfl) (Reps.one (show Kd.M (Kd.int .i64) _ _ _ t111 [.int .i64 t111] from rfl) (Reps.none _ _))))
 intro v113 w9 ho10 hb hg_ hnew_ hd_
 have HD := Aside0.mk (Nat.le_trans (by repeat (first | exact HD.out | apply De.le_drewN | apply De.le_drew)) hd_)
 clear hd_
 clear hg_ hnew_
 (first | rw [← Ny112.out] at ho10 | (simp only [Int.reduceToNat] at ho10; rw [← Ny112.out] at ho10))
 have n0_ := Aside0.mk (Kd.R_lower ho10 (below_size (by repeat (first | (with_reducible first | exact HB.out | apply below_alloc | apply pw_below_drewN | apply below_drew1 | refine below_set ?_ GE108.out | refine below_set ?_ GE109.out) | exact HB.out))))
 have n1_ := Aside0.mk (blk_below (g := gb108) (o := .cells #[.int .i64 a0_0, .int .i64 a0_1] 23 (0, 0)) (by (with_reducible repeat (first | refine blk_drewN ?_ _ | refine blk_drew ?_ | refine blk_alloc ?_ _)); exact BK108.out) hb)
 have n2_ := Aside0.mk (blk_below (g := gb109) (o := .cells #[.int .i64 a1_0, .int .i64 a1_1] 23 (0, 0)) (by (with_reducible repeat (first | refine blk_drewN ?_ _ | refine blk_drew ?_ | refine blk_alloc ?_ _)); exact BK109.out) hb)
 have n3_ := Aside0.mk (below_step (by repeat (first | (with_reducible first | exact HB.out | apply below_alloc | apply pw_below_drewN | apply below_drew1 | refine below_set ?_ GE108.out | refine below_set ?_ GE109.out) | exact HB.out)) hb)
 clear BK108
 clear BK109
 clear HB
 have HO114 := n0_
 have BK108 := n1_
 have BK109 := n2_
 have HB := n3_
 clear n0_ n1_ n2_ n3_
 clear hb ho10
 obtain ⟨Ao11, co11, eo11⟩ := Kd.R_slice HO114.out
 (first | subst eo11 | (injection eo11 with f1_ f2_ f3_; have f4_ := f1_.symm; have f5_ := f3_.symm; clear f1_ f2_ f3_; subst f4_; subst f5_))
 refine hK.out _ _ ⟨(blk_cell BK108.out 0).trans rfl, (blk_cell BK108.out 1).trans rfl, (blk_cell BK109.out 0).trans rfl, (blk_cell BK109.out 1).trans rfl⟩ (fun hHeld => ?_)
 clear hK K
 refine norm_ (a' := ?_) ?_ ?_
 rotate_left
 ·
  show Act.put _ (some 15) _ = _
  simp only [Act.put, List.setIfInBounds_toArray, List.set_cons_zero, List.set_cons_succ, i64_w, i32_w]
  rfl
 refine one_ (i := 11) (N := some 16) #[true, true, true, true, true, true, true, true, true, true, true, true, false] rfl rfl (one_of HT_.out (by kernel_rfl)) (by decide) (fun K hK => ?_)
 refine goes_ Tryd.func31 (by kernel_rfl) rfl #[.slice Ao11 y112.length co11] (by rfl) rfl rfl (by (try simp only [List.map_toArray, List.map_cons, List.map_nil]); first | done | rfl | (simp only [List.length_drop, List.length_take]; rfl)) ?_
 with_reducible refine (cmp_Or_int.calls k _ _ y112 t115 _ ?side1 ?side2 A5.out).mono ?_
 (case side1 => repeat (first | exact (Kd.R_reads' HO114.out).2.2 | (with_reducible refine Kd.C_alloc ?_ _) | (with_reducible refine Kd.C_drewN ?_ _) | (with_reducible refine Kd.C_drew ?_)))
 (case side2 => exact (Kd.R_reads' HO114.out).2.1)
 rintro e w' ⟨rfl, ⟨nd, rfl⟩⟩
 refine ⟨_, rfl, ?_⟩
 refine hK.out _ _ ⟨(blk_cell BK108.out 0).trans rfl, (blk_cell BK108.out 1).trans rfl, (blk_cell BK109.out 0).trans rfl, (blk_cell BK109.out 1).trans rfl⟩ (fun hHeld => ?_)
 clear hK K
 refine norm_ (a' := ?_) ?_ ?_
 rotate_left
 ·
  show Act.put _ (some 16) _ = _
  simp only [Act.put, List.setIfInBounds_toArray, List.set_cons_zero, List.set_cons_succ, i64_w, i32_w]
  rfl
 refine pure_ (i := 12) (N := some 4) (v := ?_) (a' := ?_) #[true, true, true, true, true, true, true, true, true, true, true, true, true] rfl rfl (any_of HT_.out (by kernel_rfl)) (fun _ _ _ h => h) (Or.inl ⟨by rfl, ?_⟩) ?_ ?_
 rotate_left
 ·
  intro w'
  go_simp
  with_reducible rfl
 rotate_left
 ·
  simp only [Act.put, List.setIfInBounds_toArray, List.set_cons_zero, List.set_cons_succ, i64_w, i32_w]
  rfl
 refine done_ (done_of HT_.out (by kernel_rfl)) ?_
 try go_wp2
 go_ret
 exact ⟨by first | rfl | (simp [errW_none, errW_some] <;> rfl) | (simp [*, errW_none, errW_some] <;> rfl), by repeat (first | (with_reducible first | exact HB.out | apply below_alloc | apply pw_below_drewN | apply below_drew1 | refine below_set ?_ GE108.out | refine below_set ?_ GE109.out) | exact HB.out), (by repeat (first | exact HD.out | apply De.le_drewN | apply De.le_drew))⟩

end Go.Proofs.YtcmicaheakkgdaaDoor.PAll

namespace Go.Proofs.YtcmicaheakkgdaaDoor.Dl
open Go Go.RowKit Go.Proofs Go.Lib Go.Sort Go.Proofs.YtcmicaheakkgdaaDoorW.PrintWords Go.Proofs.YtcmicaheakkgdaaDoor.PAll
set_option linter.unusedSimpArgs false
set_option linter.unusedVariables false

theorem or_two (k : Nat) (a b : Int) : cmp_Or_int.f (k + 3) [a, b] = some (if a = 0 then b else a) := by
  unfold cmp_Or_int.f
  have e0 : wrap64 (0 + 1) = 1 := by decide +kernel
  have e1 : wrap64 (1 + 1) = 2 := by decide +kernel
  have l2 : (([a, b] : List Int).length : Int) = 2 := rfl
  rw [l2, cmp_Or_int.l0, if_pos (by decide), if_pos (by decide), if_pos (by simp), e0]
  have r0 : rd [a, b] 0 = a := rfl
  have r1 : rd [a, b] 1 = b := rfl
  rw [r0]
  by_cases h : a = 0
  · rw [if_pos h, if_pos h, cmp_Or_int.l0, if_pos (by decide), if_pos (by decide), if_pos (by simp), r1, e1]
    by_cases k0 : b = 0
    · rw [if_pos k0, cmp_Or_int.l0, if_neg (by decide), k0]
    · rw [if_neg k0]
  · rw [if_neg h, if_neg h]
theorem cmp_int (a b : Int) : cmp_Compare_int.f a b = some (if a < b then -1 else if a > b then 1 else 0) := by
  have e : ∀ x : Int, cmp_isNaN_int.f x = some false := fun x => by unfold cmp_isNaN_int.f; simp
  unfold cmp_Compare_int.f
  rw [e, e, Option.bind_some, Option.bind_some, if_neg (by decide), if_neg (by decide)]
  split
  · rfl
  · split <;> rfl
theorem cmp_val (k : Nat) (a b c d : Int) : dot_Compare.f (k + 3) a b c d = some (cmpD ⟨a, b⟩ ⟨c, d⟩) := by
  unfold dot_Compare.f
  rw [cmp_int, cmp_int, Option.bind_some, Option.bind_some, or_two, Option.bind_some]
  congr 1
  have key : cmpD ⟨a, b⟩ ⟨c, d⟩ = if b < d ∨ b = d ∧ a < c then -1 else if d < b ∨ d = b ∧ c < a then 1 else 0 := rfl
  rw [key]
  clear key
  by_cases h1 : b < d
  · have h2 : b < d ∨ b = d ∧ a < c := Or.inl h1
    rw [if_pos h1, if_pos h2, if_neg (by decide)]
  · by_cases h2 : d < b
    · have n1 : ¬ (b < d ∨ b = d ∧ a < c) := by omega
      have n2 : d < b ∨ d = b ∧ c < a := Or.inl h2
      simp only [if_neg h1, if_pos h2, if_neg n1, if_pos n2, gt_iff_lt]
      rw [if_neg (by decide)]
    · obtain rfl : b = d := by omega
      have z : (if b < b then (-1 : Int) else if b > b then 1 else 0) = 0 := by rw [if_neg h1, if_neg h2]
      rw [z, if_pos rfl]
      by_cases k1 : a < c
      · have p : b < b ∨ b = b ∧ a < c := Or.inr ⟨rfl, k1⟩
        rw [if_pos k1, if_pos p]
      · have p : ¬ (b < b ∨ b = b ∧ a < c) := by omega
        rw [if_neg k1, if_neg p]
        by_cases k2 : c < a
        · have p2 : b < b ∨ b = b ∧ c < a := Or.inr ⟨rfl, k2⟩
          rw [if_pos k2, if_pos p2]
        · have p2 : ¬ (b < b ∨ b = b ∧ c < a) := by omega
          rw [if_neg k2, if_neg p2]

/-- A dot's two cells. -/
def encD (x : S23) : List Value := [.int .i64 x.f0, .int .i64 x.f1]
theorem lt_of (x y : S23) : ltOf cmpD x y = decide (ltD x y) := by
  unfold ltOf
  exact decide_eq_decide.2 (cmpD_neg x y)
theorem swoD : SWO (ltOf cmpD) where
  irrefl x := by rw [lt_of]; simp [lt_irrefl]
  trans x y z h1 h2 := by rw [lt_of] at *; simp only [decide_eq_true_eq] at *; exact lt_trans h1 h2
  ntrans x y z h1 h2 := by
    rw [lt_of] at *
    have k1 := of_decide_eq_false h1
    have k2 := of_decide_eq_false h2
    refine decide_eq_false ?_
    unfold ltD at *
    omega
theorem grow_of {w w' : World} (hb : Below w.heap.size w w') (hd : w.drawn ≤ w'.drawn) : ∃ q os', w' = grow (w.drewN q) os' := by
  refine ⟨w'.drawn - w.drawn, w'.heap.extract w.heap.size w'.heap.size, ?_⟩
  obtain ⟨h1, h2, h3, h4, h5⟩ := hb
  have hh : w'.heap = w.heap ++ w'.heap.extract w.heap.size w'.heap.size := by
    apply Array.ext_getElem?
    intro k
    rw [Array.getElem?_append]
    by_cases hk : k < w.heap.size
    · rw [if_pos hk]; exact h5 k hk
    · rw [if_neg hk, Array.getElem?_extract]
      by_cases hk2 : k < w'.heap.size
      · rw [if_pos (by omega)]; congr 1; omega
      · rw [if_neg (by omega), Array.getElem?_eq_none (by omega)]
  unfold grow World.drewN
  cases w'
  simp only at *
  subst h1 h2 h3
  rw [← hh]
  congr 1
  omega
theorem cmpLays (blk off size : Nat) (w : World) : Go.Proofs.CmpLays Tryd.prog 12 #[] encD 2 cmpD blk off size w :=
  fun m os dk _ x y => (dot_Compare.callsD 3 x.f0 x.f1 y.f0 y.f1 _ _ (cmp_val 0 _ _ _ _)).mono fun e w' ⟨he, hb, hd⟩ => ⟨he, grow_of hb hd⟩

/-! A row of one's own, as the sort sees it. -/
theorem add0 (g n : Nat) : (⟨g, 0, none⟩ : Addr).add n = ⟨g, n, none⟩ := by
  unfold Addr.add
  split
  · subst_vars; rfl
  · rw [Nat.zero_add]
theorem flat_get (d : Array S23) (t : Nat) (h : t < d.size * 2) : (flatK encD 2 d)[t]! = if t % 2 = 0 then .int .i64 d[t / 2]!.f0 else .int .i64 d[t / 2]!.f1 := by
  rw [get_flatK _ _ _ _ h]
  by_cases q : t % 2 = 0
  · rw [if_pos q, q]; rfl
  · have q1 : t % 2 = 1 := by omega
    rw [if_neg q, q1]; rfl
theorem toA (xs : List S23) (i : Nat) (h : i < xs.length) : xs.toArray[i]! = rd_T23 xs (i : Int) := by
  unfold rd_T23
  rw [Int.toNat_natCast, List.getD_eq_getElem?_getD, List.getElem?_eq_getElem h, getElem!_pos xs.toArray i (by simpa using h)]
  rfl
theorem holds_of_R {w : World} {base g cap : Nat} {ok : Nat → Prop} {xs : List S23} (h : k23.R 23 w base ok (.slice (some ⟨g, 0, none⟩) xs.length cap) xs) (hp : 0 < xs.length) : HoldsK encD 2 w g 0 xs.toArray := by
  intro t ht
  have ht2 : t < xs.length * 2 := by simpa using ht
  obtain ⟨_, _, hC⟩ := Kd.R_reads' h
  obtain ⟨g', cap', e, _, hlt, cells, hb⟩ := Kd.R_form h hp
  injection e with e1 e2 e3
  injection e1 with e1
  injection e1 with e1
  subst e1 e3
  refine ⟨?_, blk_frozen hb _⟩
  obtain ⟨ad, e, c0, c1⟩ := at_T23 hC ((t / 2 : Nat) : Int) (by omega) (by omega)
  cases e
  rw [Int.toNat_natCast] at c0 c1
  show _ = some (id _)
  rw [id, flat_get _ _ (by simpa using ht2), toA _ _ (by omega)]
  by_cases q : t % 2 = 0
  · rw [if_pos q]
    have e2 : (0 + t) = 0 + t / 2 * 2 := by omega
    rw [e2, Nat.zero_add]
    rw [add0] at c0
    exact c0
  · rw [if_neg q]
    have e2 : (0 + t) = 0 + t / 2 * 2 + 1 := by omega
    rw [e2, Nat.zero_add]
    rw [add0] at c1
    exact c1
end Go.Proofs.YtcmicaheakkgdaaDoor.Dl

/- What the printed functions of the reference and of dot compute on lists of dots. -/
namespace Go.Proofs.YtcmicaheakkgdaaDoor.Dl
open Go Go.RowKit Go.Proofs Go.Proofs.YtcmicaheakkgdaaDoorW.PrintWords Go.Proofs.YtcmicaheakkgdaaDoor.PAll
set_option linter.unusedSimpArgs false
set_option linter.unusedVariables false

theorem w64 {n : Int} (h0 : -9000000000000000000 ≤ n) (h1 : n ≤ 9000000000000000000) : wrap64 n = n := by simp only [wrap64]; omega
theorem wi {i : Nat} (h : i ≤ 1000000000) : wrap64 ((i : Int) + 1) = ((i + 1 : Nat) : Int) := by rw [w64 (by omega) (by omega)]; omega
theorem rdN (l : List S23) (i : Nat) : rd_T23 l (i : Int) = l.getD i z23 := by unfold rd_T23; rw [Int.toNat_natCast]
theorem getDN (l : List S23) (i : Nat) (h : i < l.length) : l.getD i z23 = l[i] := by rw [List.getD_eq_getElem?_getD, List.getElem?_eq_getElem h]; rfl
theorem less_val (a b c d : Int) : redpencilref04_Less.f a b c d = some (decide (ltD ⟨a, b⟩ ⟨c, d⟩)) := by
  unfold redpencilref04_Less.f
  by_cases h : b = d
  · subst h
    rw [if_pos rfl]
    congr 1
    exact decide_eq_decide.2 (by show a < c ↔ (b < b ∨ b = b ∧ a < c); omega)
  · rw [if_neg h]
    congr 1
    exact decide_eq_decide.2 (by show b < d ↔ (b < d ∨ b = d ∧ a < c); omega)
theorem eq_dots (x y : S23) : ((x.f0 == y.f0) && (x.f1 == y.f1)) = decide (x = y) := by
  by_cases h : x = y
  · subst h; simp
  · rw [decide_eq_false h]
    by_cases q : x.f0 = y.f0
    · have q1 : x.f1 ≠ y.f1 := fun p => h (ext_D q p)
      simp [q1]
    · simp [q]
theorem has_l0 (l : List S23) (x : S23) (hl : l.length ≤ 1000000) : ∀ (n i : Nat), i + n = l.length → ∀ k, n < k → redpencilref04_Has.l0 k l (i : Int) x.f0 x.f1 = some (decide (x ∈ l.drop i))
  | n, i, h, 0, hk => absurd hk (Nat.not_lt_zero _)
  | 0, i, h, k + 1, _ => by
    rw [redpencilref04_Has.l0, if_neg (by omega), List.drop_of_length_le (by omega)]
    simp
  | n + 1, i, h, k + 1, hk => by
    have hi : i < l.length := by omega
    rw [redpencilref04_Has.l0, if_pos (by omega), if_pos (by omega), rdN, getDN l i hi, eq_dots, wi (by omega)]
    rw [List.drop_eq_getElem_cons hi]
    by_cases q : l[i] = x
    · rw [if_pos (decide_eq_true q), decide_eq_true]
      rw [q]; exact List.mem_cons_self
    · rw [if_neg (by simp [q]), has_l0 l x hl n (i + 1) (by omega) k (by omega)]
      congr 1
      refine decide_eq_decide.2 ?_
      rw [List.mem_cons]
      constructor
      · exact Or.inr
      · rintro (p | p)
        · exact absurd p.symm q
        · exact p
theorem has_val (l : List S23) (x : S23) (hl : l.length ≤ 1000000) (k : Nat) (hk : l.length < k) : redpencilref04_Has.f k l x.f0 x.f1 = some (decide (x ∈ l)) := by
  unfold redpencilref04_Has.f
  exact has_l0 l x hl l.length 0 (by omega) k hk
/-- Where a new dot stands in a set. -/
theorem ins_split (d : S23) : ∀ (xs : List S23) (k : Nat), k ≤ xs.length → d ∉ xs → (∀ t, t < k → ltD (xs.getD t z23) d) → (k < xs.length → ¬ ltD (xs.getD k z23) d) → insD d xs = xs.take k ++ d :: xs.drop k
  | [], k, hk, _, _, _ => by
    obtain rfl : k = 0 := by simpa using hk
    rfl
  | y :: l, 0, _, hm, _, h2 => by
    have n1 : ¬ ltD y d := h2 (by simp)
    have n2 : d ≠ y := fun e => hm (e ▸ List.mem_cons_self)
    have n3 : ltD d y := by
      rcases lt_tri d y with q | q | q
      · exact q
      · exact absurd q n2
      · exact absurd q n1
    unfold insD
    rw [if_pos n3]
    rfl
  | y :: l, k + 1, hk, hm, h1, h2 => by
    have n1 : ltD y d := h1 0 (by omega)
    unfold insD
    rw [if_neg (lt_asymm n1), if_pos n1, ins_split d l k (by simpa using hk) (fun q => hm (List.mem_cons_of_mem _ q)) (fun t ht => h1 (t + 1) (by omega)) (fun q => h2 (by simpa using q))]
    rfl
end Go.Proofs.YtcmicaheakkgdaaDoor.Dl

namespace Go.Proofs.YtcmicaheakkgdaaDoor.PAll
open Go.RowKit Go.Proofs.YtcmicaheakkgdaaDoorW.PrintWords Go.Proofs.YtcmicaheakkgdaaDoorW.PrintLast Go.Proofs.YtcmicaheakkgdaaDoorW.PrintMore
attribute [local go_sem] max2_int min2_int max_two min_two max_three min_three max_four min_four   -- for this text's walks alone
set_option linter.unusedVariables false
set_option linter.unusedSimpArgs false

attribute [local go_sem high] eqA23
/-! ### redpencilref04_With: function 42 -/
def redpencilref04_With.l0 : Nat → List (S23) → Int → Int → Int → Option ((List (S23)))
 | 0, _, _, _, _ => none
 | k + 1, x0, x5, x106000, x106001 => if x5 < (x0.length : Int) then (if 0 ≤ x5 then ((redpencilref04_Less.f ((rd_T23 x0 x5).f0) ((rd_T23 x0 x5).f1) x106000 x106001).bind fun t108 => (if t108 = true then (redpencilref04_With.l0 k x0 (wrap64 (x5 + 1)) x106000 x106001) else (if x5 ≤ (x0.length : Int) then ((some (x0.take (x5 : Int).toNat : List (S23))).bind fun y109 => (if ([] : List (S23)).length + y109.length < 8796093022208 then ((some (([] : List (S23)) ++ y109 : List (S23))).bind fun y113 => ((some (([(⟨x106000, x106001⟩ : S23)] : List (S23)) : List (S23))).bind fun y116 => (if y113.length + y116.length < 8796093022208 then ((some (y113 ++ y116 : List (S23))).bind fun y119 => ((some (x0.drop (x5 : Int).toNat : List (S23))).bind fun y122 => (if y119.length + y122.length < 8796093022208 then (some (y119 ++ y122)) else (none)))) else (none)))) else (none))) else (none)))) else (none)) else (if 0 ≤ x5 then (if x5 ≤ (x0.length : Int) then ((some (x0.take (x5 : Int).toNat : List (S23))).bind fun y129 => (if ([] : List (S23)).length + y129.length < 8796093022208 then ((some (([] : List (S23)) ++ y129 : List (S23))).bind fun y133 => ((some (([(⟨x106000, x106001⟩ : S23)] : List (S23)) : List (S23))).bind fun y136 => (if y133.length + y136.length < 8796093022208 then ((some (y133 ++ y136 : List (S23))).bind fun y139 => ((some (x0.drop (x5 : Int).toNat : List (S23))).bind fun y142 => (if y139.length + y142.length < 8796093022208 then (some (y139 ++ y142)) else (none)))) else (none)))) else (none))) else (none)) else (none))
def redpencilref04_With.f (k : Nat) (l0 : List (S23)) (a1_0 : Int) (a1_1 : Int) : Option ((List (S23))) := (redpencilref04_Has.f k l0 a1_0 a1_1).bind fun t106 => (if t106 = true then (some ([] : List (S23))) else (redpencilref04_With.l0 k l0 0 a1_0 a1_1))
theorem redpencilref04_With.mono_l : ∀ k, (∀ y0 y1 y2 y3, LeO (redpencilref04_With.l0 k y0 y1 y2 y3) (redpencilref04_With.l0 (k + 1) y0 y1 y2 y3))
 | 0 => fun _ _ _ _ r h => by simp [redpencilref04_With.l0] at h
 | k + 1 => by
  have ih0 := redpencilref04_With.mono_l k
  ·
   intro y0 y1 y2 y3
   unfold redpencilref04_With.l0
   repeat' first
   | (with_reducible exact ih0 _ _ _ _)
   | (with_reducible exact redpencilref04_Has.mono _ _ _ _)
   | (with_reducible exact LeO.refl _)
   | (with_reducible exact LeO.none _)
   | (with_reducible refine LeO.ite ?_ ?_)
   | (with_reducible refine LeO.bind ?_ (fun _ => ?_))
   | exact ih0 _ _ _ _
   | exact redpencilref04_Has.mono _ _ _ _
   | exact LeO.none _
   | refine LeO.ite ?_ ?_
   | refine LeO.bind ?_ (fun _ => ?_)
theorem redpencilref04_With.mono : ∀ a0 a1 a2 k, LeO (redpencilref04_With.f k a0 a1 a2) (redpencilref04_With.f (k + 1) a0 a1 a2) := by
 intro a0 a1 a2 k
 have ih0 := redpencilref04_With.mono_l k
 unfold redpencilref04_With.f
 repeat' first
   | (with_reducible exact ih0 _ _ _ _)
   | (with_reducible exact redpencilref04_Has.mono _ _ _ _)
   | (with_reducible exact LeO.refl _)
   | (with_reducible exact LeO.none _)
   | (with_reducible refine LeO.ite ?_ ?_)
   | (with_reducible refine LeO.bind ?_ (fun _ => ?_))
   | exact ih0 _ _ _ _
   | exact redpencilref04_Has.mono _ _ _ _
   | exact LeO.none _
   | refine LeO.ite ?_ ?_
   | refine LeO.bind ?_ (fun _ => ?_)
def redpencilref04_With.T4 : Bool × List (List Nat × List Nat) := (true, [([], []), ([], []), ([1], [1]), ([0, 2], [0, 2]), ([3], [3]), ([4], [4]), ([4], [4]), ([5, 6, 4], [4, 5, 6]), ([7, 4], [4, 7]), ([4], [4]), ([8, 9, 4, 4], [4, 8, 9]), ([4, 10], [4, 10])])
def redpencilref04_With.B4 : List Nat := [0, 0, 2, 7, 15, 31, 31, 127, 255, 31, 1023, 2047]
theorem redpencilref04_With.tab4 : rtab .any (opsOf Tryd.f42 4) = redpencilref04_With.T4 := by kernel_rfl
theorem redpencilref04_With.bits4 : waitsOk redpencilref04_With.T4.2 redpencilref04_With.B4 = true := by kernel_rfl
def redpencilref04_With.T6 : Bool × List (List Nat × List Nat) := (true, [([], []), ([], []), ([0, 1], [0, 1]), ([2], [2]), ([], []), ([4], [4]), ([3, 5, 3], [3, 5]), ([], []), ([], []), ([7, 8], [7, 8]), ([6, 9, 6], [6, 9]), ([10, 10, 0, 1, 2, 3, 4, 5, 6, 7, 8, 9, 10], [10])])
def redpencilref04_With.B6 : List Nat := [0, 0, 3, 7, 0, 16, 63, 0, 0, 384, 1023, 2047]
theorem redpencilref04_With.tab6 : rtab .any (opsOf Tryd.f42 6) = redpencilref04_With.T6 := by kernel_rfl
theorem redpencilref04_With.bits6 : waitsOk redpencilref04_With.T6.2 redpencilref04_With.B6 = true := by kernel_rfl
set_option maxHeartbeats 8000000 in
set_option maxRecDepth 100000 in
theorem redpencilref04_With.calls (k : Nat) (A0 : Option Addr) (c0 : Nat) (l0 : List (S23)) (a1_0 : Int) (a1_1 : Int) (r : List (S23)) (w : World) (hr0 : Kd.C k23 w A0 l0.length l0) (hc0 : l0.length ≤ c0) (hn : redpencilref04_Has.f k l0 a1_0 a1_1 = some false) (h : redpencilref04_With.f k l0 a1_0 a1_1 = some r) :
  Calls Tryd.prog 42 #[.slice A0 l0.length c0, .agg #[.int .i64 a1_0, .int .i64 a1_1]] w fun e w' => ∃ v0_ : Value, e = .returned (v0_) ∧ Kd.R k23 23 w' w.heap.size (fun _ => True) v0_ r ∧ Below w.heap.size w w' := by
 have hu23 := Tryd.underlying23
 have HN := Aside0.mk hn
 clear hn
 have HR0 := Aside0.mk hr0
 have HC0 := Aside0.mk hc0
 clear hr0 hc0
 have HB := Aside0.mk (Below.refl w.heap.size w)
 have H : ((redpencilref04_Has.f k l0 a1_0 a1_1).bind fun t106 => (if t106 = true then (some ([] : List (S23))) else (redpencilref04_With.l0 k l0 0 a1_0 a1_1))) = some r := h
 clear h
 replace H := Option.bind_eq_some_iff.mp H
 obtain ⟨t106, A30, H⟩ := H
 replace H : (if t106 = true then (some ([] : List (S23))) else (redpencilref04_With.l0 k l0 0 a1_0 a1_1)) = some r := H
 have A3 := Aside0.mk A30
 clear A30
 by_cases c4 : t106 = true
 ·
  subst c4
  exact absurd (A3.out.symm.trans HN.out) (by simp)
 ·
  replace c4 := Bool.eq_false_iff.mpr c4
  subst c4
  have H1 : (redpencilref04_With.l0 k l0 0 a1_0 a1_1) = some r := by rw [if_neg (show ¬ (false = true) by decide)] at H; exact H
  clear H
  have H := H1
  clear H1
  have H' := Aside0.mk H
  clear H
  go_enter Tryd.func42, Tryd.ntmps42
  go_wp2_with (first | ((with_reducible refine gate_dst (N := 3) rfl ?_); refine box_event ?hg (N := 3) ?hd (cs := #[.int .i64 a1_0, .int .i64 a1_1]) (t := 23) ?hr ?_; (case hd => rfl); (case hg => rfl); (case hr => first | (go_simp; done) | (go_simp; rfl)); intro gb105 hg w8 hbox hb; have n0_ := Aside0.mk (below_step (by repeat (first | (with_reducible first | exact HB.out | apply below_alloc | apply pw_below_drewN | apply below_drew1) | exact HB.out)) hb); have n1_ := Aside0.mk (hbox); have n2_ := Aside0.mk ((by rw [hg]; exact (below_size (by repeat (first | (with_reducible first | exact HB.out | apply below_alloc | apply pw_below_drewN | apply below_drew1) | exact HB.out))) : w.heap.size ≤ gb105)); have n3_ := Aside0.mk ((by rw [hg]; exact (below_size (by repeat (first | (with_reducible first | exact HB.out | apply below_alloc | apply pw_below_drewN | apply below_drew1) | exact HB.out))) : w.heap.size ≤ gb105)); clear HB; have HB := n0_; have BK105 := n1_; have GW105 := n2_; have GE105 := n3_; clear n0_ n1_ n2_ n3_; clear hb hbox hg; have hcz9_0 : w8.cell? ⟨gb105, 0, none⟩ = some (.int .i64 a1_0) := (blk_cell BK105.out 0).trans rfl; have hcz9_1 : w8.cell? ⟨gb105, 1, none⟩ = some (.int .i64 a1_1) := (blk_cell BK105.out 1).trans rfl; have hfz9_0 := blk_frozen BK105.out 0; have hfz9_1 := blk_frozen BK105.out 1) | ((with_reducible refine gate_callee (f := 21) rfl ?_); refine goesL_ (some 8) rfl rfl Tryd.func21 (by kernel_rfl) rfl #[.slice A0 l0.length c0, .agg #[.int .i64 a1_0, .int .i64 a1_1]] rfl (by (try simp only [List.map_toArray, List.map_cons, List.map_nil]); first | done | rfl | (simp only [List.length_drop, List.length_take]; rfl)) ?_; (with_reducible refine (redpencilref04_Has.calls k _ _ l0 a1_0 a1_1 false _ ?side1 ?side2 A3.out).mono ?_); (case side1 => repeat (first | exact (Kd.C_below HR0.out HB.out) | (with_reducible refine Kd.C_alloc ?_ _) | (with_reducible refine Kd.C_drewN ?_ _) | (with_reducible refine Kd.C_drew ?_))); (case side2 => exact HC0.out); rintro e w10 ⟨rfl, hb⟩; refine ⟨_, rfl, ?_⟩; have n0_ := Aside0.mk (blk_below (g := gb105) (o := .cells #[.int .i64 a1_0, .int .i64 a1_1] 23 (0, 0)) (by (with_reducible repeat (first | refine blk_drewN ?_ _ | refine blk_drew ?_ | refine blk_alloc ?_ _)); exact BK105.out) hb); have n1_ := Aside0.mk (below_step (by repeat (first | (with_reducible first | exact HB.out | apply below_alloc | apply pw_below_drewN | apply below_drew1 | refine below_set ?_ GE105.out) | exact HB.out)) hb); clear BK105; clear HB; have BK105 := n0_; have HB := n1_; clear n0_ n1_; (try clear hb); (try clear hb2); (try clear hk); (try clear hi)))
  go_loopg [5] k (fun kq v5 w' => ∃ (x5_1 : Int), v5 = .int .i64 x5_1 ∧ Aside0 (redpencilref04_With.l0 kq l0 x5_1 a1_0 a1_1 = some r) ∧ Aside0 (kq ≤ k) ∧ Aside0 (w'.heap[gb105]? = some (.cells #[.int .i64 a1_0, .int .i64 a1_1] 23 (0, 0))) ∧ Aside0 (Below w.heap.size w w'))
  case atStart => exact ⟨(0), (by first | rfl | (simp; done) | (simp [*]; done)), H', ⟨Nat.le_refl _⟩, ⟨by (with_reducible repeat (first | refine blk_drewN ?_ _ | refine blk_drew ?_ | refine blk_alloc ?_ _)); exact BK105.out⟩, ⟨by repeat (first | (with_reducible first | exact HB.out | apply below_alloc | apply pw_below_drewN | apply below_drew1 | refine below_set ?_ GE105.out) | exact HB.out)⟩⟩
  case round =>
   clear H'
   try clear c2
   try clear p2
   try clear c4
   try clear hcz6_0
   try clear hcz6_1
   try clear hcz9_0
   try clear hcz9_1
   try clear hfz6_0
   try clear hfz6_1
   try clear hfz9_0
   try clear hfz9_1
   obtain ⟨x5_1, rfl, HA, HK1, BK105, HB⟩ := hrel
   cases gk with
   | zero => exact absurd HA.out (by simp [redpencilref04_With.l0])
   | succ k1 =>
    have H := HA.out
    clear HA
    simp only [redpencilref04_With.l0] at H
    by_cases c11 : x5_1 < (l0.length : Int)
    ·
     rw [if_pos c11] at H
     have c11b0 : decide (x5_1 < (l0.length : Int)) = true := decide_eq_true c11
     clear c11
     by_cases c12 : 0 ≤ x5_1
     ·
      rw [if_pos c12] at H
      have c12b0 : decide (0 ≤ x5_1) = true := decide_eq_true c12
      clear c12
      replace H := Option.bind_eq_some_iff.mp H
      obtain ⟨t108, A130, H⟩ := H
      replace H : (if t108 = true then (redpencilref04_With.l0 k1 l0 (wrap64 (x5_1 + 1)) a1_0 a1_1) else (if x5_1 ≤ (l0.length : Int) then ((some (l0.take (x5_1 : Int).toNat : List (S23))).bind fun y109 => (if ([] : List (S23)).length + y109.length < 8796093022208 then ((some (([] : List (S23)) ++ y109 : List (S23))).bind fun y113 => ((some (([(⟨a1_0, a1_1⟩ : S23)] : List (S23)) : List (S23))).bind fun y116 => (if y113.length + y116.length < 8796093022208 then ((some (y113 ++ y116 : List (S23))).bind fun y119 => ((some (l0.drop (x5_1 : Int).toNat : List (S23))).bind fun y122 => (if y119.length + y122.length < 8796093022208 then (some (y119 ++ y122)) else (none)))) else (none)))) else (none))) else (none))) = some r := H
      have A13 := Aside0.mk A130
      clear A130
      by_cases c14 : t108 = true
      ·
       subst c14
       have H1 : (redpencilref04_With.l0 k1 l0 (wrap64 (x5_1 + 1)) a1_0 a1_1) = some r := by rw [if_pos rfl] at H; exact H
       clear H
       have H := H1
       clear H1
       have H' := Aside0.mk H
       clear H
       try go_wp2
       have n0_ := Aside0.mk (blk_drew BK105.out)
       have n1_ := Aside0.mk (below_drew1 HB.out)
       clear BK105
       clear HB
       have BK105 := n0_
       have HB := n1_
       clear n0_ n1_
       have p107 : 0 ≤ (x5_1 : Int) := of_decide_eq_true (by first | (with_reducible assumption) | assumption)
       have q107 : x5_1 < (l0.length : Int) := of_decide_eq_true (by first | (with_reducible assumption) | assumption)
       obtain ⟨ad107, e107, hx107_0, hx107_1⟩ := at_T23 HR0.out x5_1 p107 q107
       have hw107_1 := hx107_1
       have hw107_0 := hx107_0
       cases e107
       replace hx107_0 := (HB.out.cell (World.block_lt_of_cell? w _ hx107_0)).trans hx107_0
       replace hx107_1 := (HB.out.cell (World.block_lt_of_cell? w _ hx107_1)).trans hx107_1
       replace p107 := eq_true p107
       replace q107 := eq_true q107
       refine start_ (n := 12) (S := fun w' => w'.cell? ⟨gb105, 0, none⟩ = some (.int .i64 a1_0) ∧ w'.cell? ⟨gb105, 1, none⟩ = some (.int .i64 a1_1) ∧ w'.cell? (ad107.add ((x5_1).toNat * 2)) = some (.int .i64 ((rd_T23 l0 x5_1).f0)) ∧ w'.cell? ⟨(ad107.add ((x5_1).toNat * 2)).block, (ad107.add ((x5_1).toNat * 2)).off + 1, none⟩ = some (.int .i64 ((rd_T23 l0 x5_1).f1))) (ds := []) #[false, false, false, false, false, false, false, false, false, false, false, false] (by kernel_rfl) rfl rfl ⟨(blk_cell BK105.out 0).trans rfl, (blk_cell BK105.out 1).trans rfl, ((HB.out.cell (World.block_lt_of_cell? w _ hw107_0)).trans hw107_0), ((HB.out.cell (World.block_lt_of_cell? w _ hw107_1)).trans hw107_1)⟩ (fun hHeld => ?_); refine with_tabW redpencilref04_With.tab4 redpencilref04_With.bits4 (fun HT_ HW_ => ?_)
       generalize wr.drew = w15 at BK105 HB hx107_0 hx107_1 hHeld ⊢
       refine pure_ (i := 0) (N := some 10) (v := ?_) (a' := ?_) #[true, false, false, false, false, false, false, false, false, false, false, false] rfl rfl (any_of HT_.out (by kernel_rfl)) (fun _ _ _ h => h) (Or.inl ⟨by rfl, ?_⟩) ?_ ?_
       rotate_left
       ·
        intro w'
        go_simp
        with_reducible rfl
       rotate_left
       ·
        simp only [Act.put, List.setIfInBounds_toArray, List.set_cons_zero, List.set_cons_succ, i64_w, i32_w]
        rfl
       refine pure_ (i := 1) (N := some 11) (v := ?_) (a' := ?_) #[true, true, false, false, false, false, false, false, false, false, false, false] rfl rfl (any_of HT_.out (by kernel_rfl)) (fun _ _ _ h => h) (Or.inl ⟨by rfl, ?_⟩) ?_ ?_
       rotate_left
       ·
        intro w'
        go_simp
        with_reducible rfl
       rotate_left
       ·
        simp only [Act.put, List.setIfInBounds_toArray, List.set_cons_zero, List.set_cons_succ, i64_w, i32_w]
        rfl
       refine pure_ (i := 2) (N := some 12) (v := ?_) (a' := ?_) #[true, true, true, false, false, false, false, false, false, false, false, false] rfl rfl (any_of HT_.out (by kernel_rfl)) (fun _ _ _ h => h) (Or.inl ⟨by rfl, ?_⟩) ?_ ?_
       rotate_left
       ·
        intro w'
        go_simp
        with_reducible rfl
       rotate_left
       ·
        simp only [Act.put, List.setIfInBounds_toArray, List.set_cons_zero, List.set_cons_succ, i64_w, i32_w]
        rfl
       refine pure_ (i := 3) (N := some 13) (v := ?_) (a' := ?_) #[true, true, true, true, false, false, false, false, false, false, false, false] rfl rfl (any_of HT_.out (by kernel_rfl)) (fun _ _ _ h => h) (Or.inl ⟨by rfl, ?_⟩) ?_ ?_
       rotate_left
       ·
        intro w'
        go_simp
        with_reducible rfl
       rotate_left
       ·
        simp only [Act.put, List.setIfInBounds_toArray, List.set_cons_zero, List.set_cons_succ, i64_w, i32_w]
        rfl
       refine pure_ (i := 4) (N := some 14) (v := ?_) (a' := ?_) #[true, true, true, true, true, false, false, false, false, false, false, false] rfl rfl (any_of HT_.out (by kernel_rfl)) (fun _ _ _ h => h) (Or.inl ⟨by rfl, ?_⟩) ?_ ?_
       rotate_left
       ·
        intro w'
        go_simp
        with_reducible rfl
       rotate_left
       ·
        simp only [Act.put, List.setIfInBounds_toArray, List.set_cons_zero, List.set_cons_succ, i64_w, i32_w]
        rfl
       refine pure_ (i := 5) (N := some 15) (v := ?_) (a' := ?_) #[true, true, true, true, true, true, false, false, false, false, false, false] rfl rfl (any_of HT_.out (by kernel_rfl)) (fun _ _ _ h => h) (Or.inl ⟨by rfl, ?_⟩) ?_ ?_
       rotate_left
       ·
        intro w'
        go_simp
        with_reducible rfl
       rotate_left
       ·
        simp only [Act.put, List.setIfInBounds_toArray, List.set_cons_zero, List.set_cons_succ, i64_w, i32_w]
        rfl
       refine pure_ (i := 6) (N := some 16) (v := ?_) (a' := ?_) #[true, true, true, true, true, true, true, false, false, false, false, false] rfl rfl (any_of HT_.out (by kernel_rfl)) (fun _ _ _ h => h) (Or.inl ⟨by rfl, ?_⟩) ?_ ?_
       rotate_left
       ·
        intro w'
        go_simp
        with_reducible rfl
       rotate_left
       ·
        simp only [Act.put, List.setIfInBounds_toArray, List.set_cons_zero, List.set_cons_succ, i64_w, i32_w]
        rfl
       refine pure_ (i := 7) (N := some 17) (v := ?_) (a' := ?_) #[true, true, true, true, true, true, true, true, false, false, false, false] rfl rfl (any_of HT_.out (by kernel_rfl)) (fun _ _ _ h => h) (Or.inl ⟨by rfl, ?_⟩) ?_ ?_
       rotate_left
       ·
        intro w'
        go_simp
        with_reducible rfl
       rotate_left
       ·
        simp only [Act.put, List.setIfInBounds_toArray, List.set_cons_zero, List.set_cons_succ, i64_w, i32_w]
        rfl
       refine take_ (i := 8) (N := some 18) (v := ?_) (a' := ?_) #[true, true, true, true, true, true, true, true, true, false, false, false] rfl rfl (take_ofW HT_.out HW_.out (by kernel_rfl)) (fun _ _ _ h => h) (Or.inl ⟨by rfl, ?_⟩) hHeld ?_ ?_
       rotate_left
       ·
        rintro w' ⟨s0, s1, s2, s3⟩
        go_simp
        with_reducible rfl
       rotate_left
       ·
        simp only [Act.put, List.setIfInBounds_toArray, List.set_cons_zero, List.set_cons_succ, i64_w, i32_w]
        rfl
       refine take_ (i := 9) (N := some 19) (v := ?_) (a' := ?_) #[true, true, true, true, true, true, true, true, true, true, false, false] rfl rfl (take_ofW HT_.out HW_.out (by kernel_rfl)) (fun _ _ _ h => h) (Or.inl ⟨by rfl, ?_⟩) hHeld ?_ ?_
       rotate_left
       ·
        rintro w' ⟨s0, s1, s2, s3⟩
        go_simp
        with_reducible rfl
       rotate_left
       ·
        simp only [Act.put, List.setIfInBounds_toArray, List.set_cons_zero, List.set_cons_succ, i64_w, i32_w]
        rfl
       refine one_ (i := 10) (N := some 20) #[true, true, true, true, true, true, true, true, true, true, true, false] rfl rfl (one_of HT_.out (by kernel_rfl)) (by decide) (fun K hK => ?_)
       refine goes_ Tryd.func33 (by kernel_rfl) rfl #[.agg #[.int .i64 ((rd_T23 l0 x5_1).f0), .int .i64 ((rd_T23 l0 x5_1).f1)], .agg #[.int .i64 a1_0, .int .i64 a1_1]] (by rfl) rfl rfl (by (try simp only [List.map_toArray, List.map_cons, List.map_nil]); first | done | rfl | (simp only [List.length_drop, List.length_take]; rfl)) ?_
       with_reducible refine (redpencilref04_Less.calls ((rd_T23 l0 x5_1).f0) ((rd_T23 l0 x5_1).f1) a1_0 a1_1 true _ A13.out).mono ?_
       rintro e w16 ⟨rfl, hb⟩
       refine ⟨_, rfl, ?_⟩
       have n0_ := Aside0.mk (blk_below (g := gb105) (o := .cells #[.int .i64 a1_0, .int .i64 a1_1] 23 (0, 0)) (by (with_reducible repeat (first | refine blk_drewN ?_ _ | refine blk_drew ?_ | refine blk_alloc ?_ _)); exact BK105.out) hb)
       have n1_ := Aside0.mk (below_step (by repeat (first | (with_reducible first | exact HB.out | apply below_alloc | apply pw_below_drewN | apply below_drew1 | refine below_set ?_ GE105.out) | exact HB.out)) hb)
       clear BK105
       clear HB
       have BK105 := n0_
       have HB := n1_
       clear n0_ n1_
       (try clear hb)
       (try clear hb2)
       (try clear hk)
       (try clear hi)
       refine hK.out _ _ ⟨(blk_cell BK105.out 0).trans rfl, (blk_cell BK105.out 1).trans rfl, ((HB.out.cell (World.block_lt_of_cell? w _ hw107_0)).trans hw107_0), ((HB.out.cell (World.block_lt_of_cell? w _ hw107_1)).trans hw107_1)⟩ (fun hHeld => ?_)
       clear hK K
       refine norm_ (a' := ?_) ?_ ?_
       rotate_left
       ·
        show Act.put _ (some 20) _ = _
        simp only [Act.put, List.setIfInBounds_toArray, List.set_cons_zero, List.set_cons_succ, i64_w, i32_w]
        rfl
       refine pure_ (i := 11) (N := some 21) (v := ?_) (a' := ?_) #[true, true, true, true, true, true, true, true, true, true, true, true] rfl rfl (any_of HT_.out (by kernel_rfl)) (fun _ _ _ h => h) (Or.inl ⟨by rfl, ?_⟩) ?_ ?_
       rotate_left
       ·
        intro w'
        go_simp
        with_reducible rfl
       rotate_left
       ·
        simp only [Act.put, List.setIfInBounds_toArray, List.set_cons_zero, List.set_cons_succ, i64_w, i32_w]
        rfl
       refine done_ (done_of HT_.out (by kernel_rfl)) ?_
       try go_wp2
       go_roundg k1
       case measure => have := HK1.out; omega
       case rel => exact ⟨(wrap64 (x5_1 + 1)), (by first | rfl | (simp; done) | (simp [*]; done)), H', ⟨by have := HK1.out; omega⟩, ⟨by (with_reducible repeat (first | refine blk_drewN ?_ _ | refine blk_drew ?_ | refine blk_alloc ?_ _)); exact BK105.out⟩, ⟨by repeat (first | (with_reducible first | exact HB.out | apply below_alloc | apply pw_below_drewN | apply below_drew1 | refine below_set ?_ GE105.out) | exact HB.out)⟩⟩
      ·
       replace c14 := Bool.eq_false_iff.mpr c14
       subst c14
       have H1 : (if x5_1 ≤ (l0.length : Int) then ((some (l0.take (x5_1 : Int).toNat : List (S23))).bind fun y109 => (if ([] : List (S23)).length + y109.length < 8796093022208 then ((some (([] : List (S23)) ++ y109 : List (S23))).bind fun y113 => ((some (([(⟨a1_0, a1_1⟩ : S23)] : List (S23)) : List (S23))).bind fun y116 => (if y113.length + y116.length < 8796093022208 then ((some (y113 ++ y116 : List (S23))).bind fun y119 => ((some (l0.drop (x5_1 : Int).toNat : List (S23))).bind fun y122 => (if y119.length + y122.length < 8796093022208 then (some (y119 ++ y122)) else (none)))) else (none)))) else (none))) else (none)) = some r := by rw [if_neg (show ¬ (false = true) by decide)] at H; exact H
       clear H
       have H := H1
       clear H1
       have c17b0 := eq_true (of_decide_eq_true (by first | (with_reducible assumption) | assumption) : 0 ≤ x5_1)
       by_cases c18 : x5_1 ≤ (l0.length : Int)
       ·
        rw [if_pos c18] at H
        have c18b0 := eq_true c18
        have c18b1 : decide (x5_1 ≤ (l0.length : Int)) = true := decide_eq_true c18
        clear c18
        obtain ⟨y109, hy109⟩ : ∃ y_ : List (S23), y_ = (l0.take (x5_1 : Int).toNat) := ⟨_, rfl⟩
        replace H : (if ([] : List (S23)).length + y109.length < 8796093022208 then ((some (([] : List (S23)) ++ y109 : List (S23))).bind fun y113 => ((some (([(⟨a1_0, a1_1⟩ : S23)] : List (S23)) : List (S23))).bind fun y116 => (if y113.length + y116.length < 8796093022208 then ((some (y113 ++ y116 : List (S23))).bind fun y119 => ((some (l0.drop (x5_1 : Int).toNat : List (S23))).bind fun y122 => (if y119.length + y122.length < 8796093022208 then (some (y119 ++ y122)) else (none)))) else (none)))) else (none)) = some r := by first | (rw [hy109]; with_reducible exact H) | (have H2_ := (Option.bind_some _ _).symm.trans H; rw [hy109]; with_reducible exact H2_) | (have H2_ := (Option.bind_some _ _).symm.trans H; with_reducible exact H2_) | with_reducible exact H | (rw [hy109]; exact H) | exact H
        have Ny109 := Aside0.mk hy109
        clear hy109
        by_cases c19 : ([] : List (S23)).length + y109.length < 8796093022208
        ·
         rw [if_pos c19] at H
         have LMc19 := Aside0.mk c19
         clear c19
         obtain ⟨y113, hy113⟩ : ∃ y_ : List (S23), y_ = (([] : List (S23)) ++ y109) := ⟨_, rfl⟩
         replace H : ((some (([(⟨a1_0, a1_1⟩ : S23)] : List (S23)) : List (S23))).bind fun y116 => (if y113.length + y116.length < 8796093022208 then ((some (y113 ++ y116 : List (S23))).bind fun y119 => ((some (l0.drop (x5_1 : Int).toNat : List (S23))).bind fun y122 => (if y119.length + y122.length < 8796093022208 then (some (y119 ++ y122)) else (none)))) else (none))) = some r := by first | (rw [hy113]; with_reducible exact H) | (have H2_ := (Option.bind_some _ _).symm.trans H; rw [hy113]; with_reducible exact H2_) | (have H2_ := (Option.bind_some _ _).symm.trans H; with_reducible exact H2_) | with_reducible exact H | (rw [hy113]; exact H) | exact H
         have Ny113 := Aside0.mk hy113
         clear hy113
         obtain ⟨y116, hy116⟩ : ∃ y_ : List (S23), y_ = (([(⟨a1_0, a1_1⟩ : S23)] : List (S23))) := ⟨_, rfl⟩
         replace H : (if y113.length + y116.length < 8796093022208 then ((some (y113 ++ y116 : List (S23))).bind fun y119 => ((some (l0.drop (x5_1 : Int).toNat : List (S23))).bind fun y122 => (if y119.length + y122.length < 8796093022208 then (some (y119 ++ y122)) else (none)))) else (none)) = some r := by first | (rw [hy116]; with_reducible exact H) | (have H2_ := (Option.bind_some _ _).symm.trans H; rw [hy116]; with_reducible exact H2_) | (have H2_ := (Option.bind_some _ _).symm.trans H; with_reducible exact H2_) | with_reducible exact H | (rw [hy116]; exact H) | exact H
         have Ny116 := Aside0.mk hy116
         clear hy116
         by_cases c20 : y113.length + y116.length < 8796093022208
         ·
          rw [if_pos c20] at H
          have LMc20 := Aside0.mk c20
          clear c20
          obtain ⟨y119, hy119⟩ : ∃ y_ : List (S23), y_ = (y113 ++ y116) := ⟨_, rfl⟩
          replace H : ((some (l0.drop (x5_1 : Int).toNat : List (S23))).bind fun y122 => (if y119.length + y122.length < 8796093022208 then (some (y119 ++ y122)) else (none))) = some r := by first | (rw [hy119]; with_reducible exact H) | (have H2_ := (Option.bind_some _ _).symm.trans H; rw [hy119]; with_reducible exact H2_) | (have H2_ := (Option.bind_some _ _).symm.trans H; with_reducible exact H2_) | with_reducible exact H | (rw [hy119]; exact H) | exact H
          have Ny119 := Aside0.mk hy119
          clear hy119
          have c21b0 := eq_true (of_decide_eq_true (by first | (with_reducible assumption) | assumption) : 0 ≤ x5_1)
          have c22b0 := eq_true (of_decide_eq_true (by first | (with_reducible assumption) | assumption) : x5_1 ≤ (l0.length : Int))
          obtain ⟨y122, hy122⟩ : ∃ y_ : List (S23), y_ = (l0.drop (x5_1 : Int).toNat) := ⟨_, rfl⟩
          replace H : (if y119.length + y122.length < 8796093022208 then (some (y119 ++ y122)) else (none)) = some r := by first | (rw [hy122]; with_reducible exact H) | (have H2_ := (Option.bind_some _ _).symm.trans H; rw [hy122]; with_reducible exact H2_) | (have H2_ := (Option.bind_some _ _).symm.trans H; with_reducible exact H2_) | with_reducible exact H | (rw [hy122]; exact H) | exact H
          have Ny122 := Aside0.mk hy122
          clear hy122
          by_cases c23 : y119.length + y122.length < 8796093022208
          ·
           rw [if_pos c23] at H
           have LMc23 := Aside0.mk c23
           clear c23
           obtain ⟨y126, hy126⟩ : ∃ y_ : List (S23), y_ = (y119 ++ y122) := ⟨_, rfl⟩
           replace H : (some y126) = some r := by first | (rw [hy126]; with_reducible exact H) | (have H2_ := (Option.bind_some _ _).symm.trans H; rw [hy126]; with_reducible exact H2_) | (have H2_ := (Option.bind_some _ _).symm.trans H; with_reducible exact H2_) | with_reducible exact H | (rw [hy126]; exact H) | exact H
           have Ny126 := Aside0.mk hy126
           clear hy126
           obtain rfl := Option.some.inj H
           try go_wp2
           have n0_ := Aside0.mk (blk_drew BK105.out)
           have n1_ := Aside0.mk (below_drew1 HB.out)
           clear BK105
           clear HB
           have BK105 := n0_
           have HB := n1_
           clear n0_ n1_
           have p107 : 0 ≤ (x5_1 : Int) := of_decide_eq_true (by first | (with_reducible assumption) | assumption)
           have q107 : x5_1 < (l0.length : Int) := of_decide_eq_true (by first | (with_reducible assumption) | assumption)
           obtain ⟨ad107, e107, hx107_0, hx107_1⟩ := at_T23 HR0.out x5_1 p107 q107
           have hw107_1 := hx107_1
           have hw107_0 := hx107_0
           cases e107
           replace hx107_0 := (HB.out.cell (World.block_lt_of_cell? w _ hx107_0)).trans hx107_0
           replace hx107_1 := (HB.out.cell (World.block_lt_of_cell? w _ hx107_1)).trans hx107_1
           replace p107 := eq_true p107
           replace q107 := eq_true q107
           refine start_ (n := 12) (S := fun w' => w'.cell? ⟨gb105, 0, none⟩ = some (.int .i64 a1_0) ∧ w'.cell? ⟨gb105, 1, none⟩ = some (.int .i64 a1_1) ∧ w'.cell? (ad107.add ((x5_1).toNat * 2)) = some (.int .i64 ((rd_T23 l0 x5_1).f0)) ∧ w'.cell? ⟨(ad107.add ((x5_1).toNat * 2)).block, (ad107.add ((x5_1).toNat * 2)).off + 1, none⟩ = some (.int .i64 ((rd_T23 l0 x5_1).f1))) (ds := []) #[false, false, false, false, false, false, false, false, false, false, false, false] (by kernel_rfl) rfl rfl ⟨(blk_cell BK105.out 0).trans rfl, (blk_cell BK105.out 1).trans rfl, ((HB.out.cell (World.block_lt_of_cell? w _ hw107_0)).trans hw107_0), ((HB.out.cell (World.block_lt_of_cell? w _ hw107_1)).trans hw107_1)⟩ (fun hHeld => ?_); refine with_tabW redpencilref04_With.tab4 redpencilref04_With.bits4 (fun HT_ HW_ => ?_)
           generalize wr.drew = w24 at BK105 HB hx107_0 hx107_1 hHeld ⊢
           refine pure_ (i := 0) (N := some 10) (v := ?_) (a' := ?_) #[true, false, false, false, false, false, false, false, false, false, false, false] rfl rfl (any_of HT_.out (by kernel_rfl)) (fun _ _ _ h => h) (Or.inl ⟨by rfl, ?_⟩) ?_ ?_
           rotate_left
           ·
            intro w'
            go_simp
            with_reducible rfl
           rotate_left
           ·
            simp only [Act.put, List.setIfInBounds_toArray, List.set_cons_zero, List.set_cons_succ, i64_w, i32_w]
            rfl
           refine pure_ (i := 1) (N := some 11) (v := ?_) (a' := ?_) #[true, true, false, false, false, false, false, false, false, false, false, false] rfl rfl (any_of HT_.out (by kernel_rfl)) (fun _ _ _ h => h) (Or.inl ⟨by rfl, ?_⟩) ?_ ?_
           rotate_left
           ·
            intro w'
            go_simp
            with_reducible rfl
           rotate_left
           ·
            simp only [Act.put, List.setIfInBounds_toArray, List.set_cons_zero, List.set_cons_succ, i64_w, i32_w]
            rfl
           refine pure_ (i := 2) (N := some 12) (v := ?_) (a' := ?_) #[true, true, true, false, false, false, false, false, false, false, false, false] rfl rfl (any_of HT_.out (by kernel_rfl)) (fun _ _ _ h => h) (Or.inl ⟨by rfl, ?_⟩) ?_ ?_
           rotate_left
           ·
            intro w'
            go_simp
            with_reducible rfl
           rotate_left
           ·
            simp only [Act.put, List.setIfInBounds_toArray, List.set_cons_zero, List.set_cons_succ, i64_w, i32_w]
            rfl
           refine pure_ (i := 3) (N := some 13) (v := ?_) (a' := ?_) #[true, true, true, true, false, false, false, false, false, false, false, false] rfl rfl (any_of HT_.out (by kernel_rfl)) (fun _ _ _ h => h) (Or.inl ⟨by rfl, ?_⟩) ?_ ?_
           rotate_left
           ·
            intro w'
            go_simp
            with_reducible rfl
           rotate_left
           ·
            simp only [Act.put, List.setIfInBounds_toArray, List.set_cons_zero, List.set_cons_succ, i64_w, i32_w]
            rfl
           refine pure_ (i := 4) (N := some 14) (v := ?_) (a' := ?_) #[true, true, true, true, true, false, false, false, false, false, false, false] rfl rfl (any_of HT_.out (by kernel_rfl)) (fun _ _ _ h => h) (Or.inl ⟨by rfl, ?_⟩) ?_ ?_
           rotate_left
           ·
            intro w'
            go_simp
            with_reducible rfl
           rotate_left
           ·
            simp only [Act.put, List.setIfInBounds_toArray, List.set_cons_zero, List.set_cons_succ, i64_w, i32_w]
            rfl
           refine pure_ (i := 5) (N := some 15) (v := ?_) (a' := ?_) #[true, true, true, true, true, true, false, false, false, false, false, false] rfl rfl (any_of HT_.out (by kernel_rfl)) (fun _ _ _ h => h) (Or.inl ⟨by rfl, ?_⟩) ?_ ?_
           rotate_left
           ·
            intro w'
            go_simp
            with_reducible rfl
           rotate_left
           ·
            simp only [Act.put, List.setIfInBounds_toArray, List.set_cons_zero, List.set_cons_succ, i64_w, i32_w]
            rfl
           refine pure_ (i := 6) (N := some 16) (v := ?_) (a' := ?_) #[true, true, true, true, true, true, true, false, false, false, false, false] rfl rfl (any_of HT_.out (by kernel_rfl)) (fun _ _ _ h => h) (Or.inl ⟨by rfl, ?_⟩) ?_ ?_
           rotate_left
           ·
            intro w'
            go_simp
            with_reducible rfl
           rotate_left
           ·
            simp only [Act.put, List.setIfInBounds_toArray, List.set_cons_zero, List.set_cons_succ, i64_w, i32_w]
            rfl
           refine pure_ (i := 7) (N := some 17) (v := ?_) (a' := ?_) #[true, true, true, true, true, true, true, true, false, false, false, false] rfl rfl (any_of HT_.out (by kernel_rfl)) (fun _ _ _ h => h) (Or.inl ⟨by rfl, ?_⟩) ?_ ?_
           rotate_left
           ·
            intro w'
            go_simp
            with_reducible rfl
           rotate_left
           ·
            simp only [Act.put, List.setIfInBounds_toArray, List.set_cons_zero, List.set_cons_succ, i64_w, i32_w]
            rfl
           refine take_ (i := 8) (N := some 18) (v := ?_) (a' := ?_) #[true, true, true, true, true, true, true, true, true, false, false, false] rfl rfl (take_ofW HT_.out HW_.out (by kernel_rfl)) (fun _ _ _ h => h) (Or.inl ⟨by rfl, ?_⟩) hHeld ?_ ?_
           rotate_left
           ·
            rintro w' ⟨s0, s1, s2, s3⟩
            go_simp
            with_reducible rfl
           rotate_left
           ·
            simp only [Act.put, List.setIfInBounds_toArray, List.set_cons_zero, List.set_cons_succ, i64_w, i32_w]
            rfl
           refine take_ (i := 9) (N := some 19) (v := ?_) (a' := ?_) #[true, true, true, true, true, true, true, true, true, true, false, false] rfl rfl (take_ofW HT_.out HW_.out (by kernel_rfl)) (fun _ _ _ h => h) (Or.inl ⟨by rfl, ?_⟩) hHeld ?_ ?_
           rotate_left
           ·
            rintro w' ⟨s0, s1, s2, s3⟩
            go_simp
            with_reducible rfl
           rotate_left
           ·
            simp only [Act.put, List.setIfInBounds_toArray, List.set_cons_zero, List.set_cons_succ, i64_w, i32_w]
            rfl
           refine one_ (i := 10) (N := some 20) #[true, true, true, true, true, true, true, true, true, true, true, false] rfl rfl (one_of HT_.out (by kernel_rfl)) (by decide) (fun K hK => ?_)
           refine goes_ Tryd.func33 (by kernel_rfl) rfl #[.agg #[.int .i64 ((rd_T23 l0 x5_1).f0), .int .i64 ((rd_T23 l0 x5_1).f1)], .agg #[.int .i64 a1_0, .int .i64 a1_1]] (by rfl) rfl rfl (by (try simp only [List.map_toArray, List.map_cons, List.map_nil]); first | done | rfl | (simp only [List.length_drop, List.length_take]; rfl)) ?_
           with_reducible refine (redpencilref04_Less.calls ((rd_T23 l0 x5_1).f0) ((rd_T23 l0 x5_1).f1) a1_0 a1_1 false _ A13.out).mono ?_
           rintro e w25 ⟨rfl, hb⟩
           refine ⟨_, rfl, ?_⟩
           have n0_ := Aside0.mk (blk_below (g := gb105) (o := .cells #[.int .i64 a1_0, .int .i64 a1_1] 23 (0, 0)) (by (with_reducible repeat (first | refine blk_drewN ?_ _ | refine blk_drew ?_ | refine blk_alloc ?_ _)); exact BK105.out) hb)
           have n1_ := Aside0.mk (below_step (by repeat (first | (with_reducible first | exact HB.out | apply below_alloc | apply pw_below_drewN | apply below_drew1 | refine below_set ?_ GE105.out) | exact HB.out)) hb)
           clear BK105
           clear HB
           have BK105 := n0_
           have HB := n1_
           clear n0_ n1_
           (try clear hb)
           (try clear hb2)
           (try clear hk)
           (try clear hi)
           refine hK.out _ _ ⟨(blk_cell BK105.out 0).trans rfl, (blk_cell BK105.out 1).trans rfl, ((HB.out.cell (World.block_lt_of_cell? w _ hw107_0)).trans hw107_0), ((HB.out.cell (World.block_lt_of_cell? w _ hw107_1)).trans hw107_1)⟩ (fun hHeld => ?_)
           clear hK K
           refine norm_ (a' := ?_) ?_ ?_
           rotate_left
           ·
            show Act.put _ (some 20) _ = _
            simp only [Act.put, List.setIfInBounds_toArray, List.set_cons_zero, List.set_cons_succ, i64_w, i32_w]
            rfl
           refine pure_ (i := 11) (N := some 21) (v := ?_) (a' := ?_) #[true, true, true, true, true, true, true, true, true, true, true, true] rfl rfl (any_of HT_.out (by kernel_rfl)) (fun _ _ _ h => h) (Or.inl ⟨by rfl, ?_⟩) ?_ ?_
           rotate_left
           ·
            intro w'
            go_simp
            with_reducible rfl
           rotate_left
           ·
            simp only [Act.put, List.setIfInBounds_toArray, List.set_cons_zero, List.set_cons_succ, i64_w, i32_w]
            rfl
           refine done_ (done_of HT_.out (by kernel_rfl)) ?_
           try go_wp2
           have n0_ := Aside0.mk (blk_drew BK105.out)
           have n1_ := Aside0.mk (below_drew1 HB.out)
           clear BK105
           clear HB
           have BK105 := n0_
           have HB := n1_
           clear n0_ n1_
           have q27 : (x5_1 : Int) ≤ ((l0.length : Int) : Int) := of_decide_eq_true (by first | (with_reducible assumption) | assumption)
           obtain ⟨i027, hi027, _, hsz27, _⟩ := info_parts info23
           have hroom27 : l0.length ≤ c0 := HC0.out
           have hC27 : Kd.C k23 _ (some ad107) l0.length l0 := HR0.out
           have hcut27 := cut_to (P := Tryd.prog) 28 23 .i64 Tryd.underlying28 hi027 (some ad107) l0.length c0 x5_1 (of_decide_eq_true (by first | (with_reducible assumption) | assumption)) q27 hroom27
           have hr27 := Kd.C_take (m := (x5_1 : Int).toNat) hC27 (by omega)
           have hy27 : y109.length = (x5_1 : Int).toNat := (by rw [Ny109.out, List.length_take]; omega)
           rw [← Ny109.out] at hr27
           rw [← hy27] at hcut27
           have HR112 := Aside0.mk hr27
           have HC112 := Aside0.mk (show y109.length ≤ c0 from by omega)
           clear hr27 hC27 hroom27 hi027 hsz27
           have KY27 := Aside0.mk hy27
           clear hy27
           replace q27 := eq_true q27
           have q28 : (x5_1 : Int) ≤ ((l0.length : Int) : Int) := of_decide_eq_true (by first | (with_reducible assumption) | assumption)
           obtain ⟨i028, hi028, _, hsz28, _⟩ := info_parts info23
           have hroom28 : l0.length ≤ c0 := HC0.out
           have hC28 : Kd.C k23 _ (some ad107) l0.length l0 := HR0.out
           have q028 : (0 : Int) ≤ (x5_1 : Int) := of_decide_eq_true (by first | (with_reducible assumption) | assumption)
           have hcut28 := cut_from (P := Tryd.prog) 28 23 .i64 Tryd.underlying28 hi028 2 hsz28 (some ad107) l0.length c0 x5_1 q028 q28
           have hr28 := Kd.C_drop (m := (x5_1 : Int).toNat) (c := c0) hC28 (by omega) hroom28
           obtain ⟨A28, hA28⟩ : ∃ A1, A1 = (if c0 = (x5_1 : Int).toNat then (some ad107) else ((some ad107) : Option Addr).map (·.add ((x5_1 : Int).toNat * 2))) := ⟨_, rfl⟩
           obtain ⟨c28, hc28⟩ : ∃ c1, c1 = c0 - (x5_1 : Int).toNat := ⟨_, rfl⟩
           have hy28 : y122.length = l0.length - (x5_1 : Int).toNat := (by rw [Ny122.out, List.length_drop] <;> omega)
           rw [show (l0).drop (x5_1 : Int).toNat = y122 from Ny122.out.symm] at hr28
           replace hr28 : Kd.C k23 _ A28 y122.length y122 := (by rw [hA28]; exact hr28)
           rw [← hy28, ← hA28, ← hc28] at hcut28
           have HR125 := Aside0.mk hr28
           have HC125 := Aside0.mk (show y122.length ≤ c28 from by rw [hy28, hc28]; exact Nat.sub_le_sub_right hroom28 _)
           clear hr28 hC28 hroom28 hi028 hsz28 hc28
           have KY28 := Aside0.mk hy28
           have KA28 := Aside0.mk hA28
           clear hy28 hA28
           replace q28 := eq_true q28
           refine start_ (n := 12) (S := fun w' => w'.cell? ⟨gb105, 0, none⟩ = some (.int .i64 a1_0) ∧ w'.cell? ⟨gb105, 1, none⟩ = some (.int .i64 a1_1)) (ds := []) #[false, false, false, false, false, false, false, false, false, false, false, false] (by kernel_rfl) rfl rfl ⟨(blk_cell BK105.out 0).trans rfl, (blk_cell BK105.out 1).trans rfl⟩ (fun hHeld => ?_); refine with_tabW redpencilref04_With.tab6 redpencilref04_With.bits6 (fun HT_ HW_ => ?_)
           generalize w25.drew = w26 at BK105 HB HR112 HR125 hHeld ⊢
           refine pure_ (i := 0) (N := some 24) (v := ?_) (a' := ?_) #[true, false, false, false, false, false, false, false, false, false, false, false] rfl rfl (any_of HT_.out (by kernel_rfl)) (fun _ _ _ h => h) (Or.inl ⟨by rfl, ?_⟩) ?_ ?_
           rotate_left
           ·
            intro w'
            go_simp
            with_reducible rfl
           rotate_left
           ·
            simp only [Act.put, List.setIfInBounds_toArray, List.set_cons_zero, List.set_cons_succ, i64_w, i32_w]
            rfl
           refine pure_ (i := 1) (N := some 25) (v := ?_) (a' := ?_) #[true, true, false, false, false, false, false, false, false, false, false, false] rfl rfl (any_of HT_.out (by kernel_rfl)) (fun _ _ _ h => h) (Or.inl ⟨by rfl, ?_⟩) ?_ ?_
           rotate_left
           ·
            intro w'
            go_simp
            with_reducible rfl
           rotate_left
           ·
            simp only [Act.put, List.setIfInBounds_toArray, List.set_cons_zero, List.set_cons_succ, i64_w, i32_w]
            rfl
           refine pure_ (i := 2) (N := some 26) (v := ?_) (a' := ?_) #[true, true, true, false, false, false, false, false, false, false, false, false] rfl rfl (any_of HT_.out (by kernel_rfl)) (fun _ _ _ h => h) (Or.inl ⟨by rfl, ?_⟩) ?_ ?_
           rotate_left
           ·
            intro w'
            go_simp
            with_reducible rfl
           rotate_left
           ·
            simp only [Act.put, List.setIfInBounds_toArray, List.set_cons_zero, List.set_cons_succ, i64_w, i32_w]
            rfl
           refine pure_ (i := 7) (N := some 31) (v := ?_) (a' := ?_) #[true, true, true, false, false, false, false, true, false, false, false, false] rfl rfl (any_of HT_.out (by kernel_rfl)) (fun _ _ _ h => h) (Or.inl ⟨by rfl, ?_⟩) ?_ ?_
           rotate_left
           ·
            intro w'
            go_simp
            with_reducible rfl
           rotate_left
           ·
            simp only [Act.put, List.setIfInBounds_toArray, List.set_cons_zero, List.set_cons_succ, i64_w, i32_w]
            rfl
           refine pure_ (i := 8) (N := some 32) (v := ?_) (a' := ?_) #[true, true, true, false, false, false, false, true, true, false, false, false] rfl rfl (any_of HT_.out (by kernel_rfl)) (fun _ _ _ h => h) (Or.inl ⟨by rfl, ?_⟩) ?_ ?_
           rotate_left
           ·
            intro w'
            go_simp
            with_reducible rfl
           rotate_left
           ·
            simp only [Act.put, List.setIfInBounds_toArray, List.set_cons_zero, List.set_cons_succ, i64_w, i32_w]
            rfl
           refine pure_ (i := 9) (N := some 33) (v := ?_) (a' := ?_) #[true, true, true, false, false, false, false, true, true, true, false, false] rfl rfl (any_of HT_.out (by kernel_rfl)) (fun _ _ _ h => h) (Or.inl ⟨by rfl, ?_⟩) ?_ ?_
           rotate_left
           ·
            intro w'
            go_simp
            with_reducible rfl
           rotate_left
           ·
            simp only [Act.put, List.setIfInBounds_toArray, List.set_cons_zero, List.set_cons_succ, i64_w, i32_w]
            rfl
           refine take_ (i := 4) (N := some 28) (v := ?_) (a' := ?_) #[true, true, true, false, true, false, false, true, true, true, false, false] rfl rfl (take_ofW HT_.out HW_.out (by kernel_rfl)) (fun _ _ _ h => h) (Or.inl ⟨by rfl, ?_⟩) hHeld ?_ ?_
           rotate_left
           ·
            rintro w' ⟨s0, s1⟩
            go_simp
            with_reducible rfl
           rotate_left
           ·
            simp only [Act.put, List.setIfInBounds_toArray, List.set_cons_zero, List.set_cons_succ, i64_w, i32_w]
            rfl
           refine join_ (σ := Value × Value) 3 #[true, true, true, true, true, true, false, true, true, true, false, false] (fun s_ => [(27, s_.1), (29, s_.2)]) (fun s_ w' => (w'.cell? ⟨gb105, 0, none⟩ = some (.int .i64 a1_0) ∧ w'.cell? ⟨gb105, 1, none⟩ = some (.int .i64 a1_1)) ∧ (Kd.R k23 23 w' w.heap.size (fun k_ => some k_ ≠ (s_.2 : Value).ownBlock ∧ k_ ≠ gb105) s_.1 y113) ∧ (Kd.R k23 23 w' w.heap.size (fun k_ => some k_ ≠ (s_.1 : Value).ownBlock ∧ k_ ≠ gb105) s_.2 y116) ∧ (w'.heap[gb105]? = some (.cells #[.int .i64 a1_0, .int .i64 a1_1] 23 (0, 0))) ∧ (Below w.heap.size w w')) ?_ ?_
           rotate_left
           ·
            intro hCont
            refine two_ (i := 3) (j := 5) (Ni := some 27) (Nj := some 29) #[true, true, true, true, true, false, false, true, true, true, false, false] #[true, true, true, false, true, true, false, true, true, true, false, false] rfl rfl rfl rfl (two_of HT_.out (by kernel_rfl)) (by decide) (by decide) (fun K hK => ?_) (fun K hK => ?_)
            ·
             skip
             refine Kd.R_append_rows_step k23 (w0 := w) w.heap.size (by rfl) (.const (.slice none 0 0)) (.tmp 26) 28 23 (.agg #[(.int .i64 0), (.int .i64 0)]) 16 rfl Tryd.underlying28 info23 rfl (by decide) (by omega) (.slice none 0 0) ([] : List (S23)) y109 _ _ _ (fun k_ => k_ ≠ gb105) (fun _ => False) rfl rfl ?aO ?aR (fun _ _ h => h) (fun _ h => h.elim) ?aF ?aB ?aS ?aL ?_
             (case aR => repeat (first | exact (Kd.C_below HR112.out HB.out) | (with_reducible refine Kd.C_alloc ?_ _) | (with_reducible refine Kd.C_drewN ?_ _) | (with_reducible refine Kd.C_drew ?_)))
             (case aB => exact (by repeat (first | (with_reducible first | exact HB.out | apply below_alloc | apply pw_below_drewN | apply below_drew1 | refine below_set ?_ GE105.out) | exact HB.out)))
             (case aF => exact (fun k_ hk => Kd.freshB (g := gb105) (o := .cells #[.int .i64 a1_0, .int .i64 a1_1] 23 (0, 0)) (by (with_reducible repeat (first | refine blk_drewN ?_ _ | refine blk_drew ?_ | refine blk_alloc ?_ _)); exact BK105.out) k_ hk))
             (case aO => exact ((Kd.R_nil _ _ _ _ (fun k_ => k_ ≠ gb105))))
             (case aS => exact (below_size (by repeat (first | (with_reducible first | exact HB.out | apply below_alloc | apply pw_below_drewN | apply below_drew1 | refine below_set ?_ GE105.out) | exact HB.out))))
             (case aL => have := LMc19.out; omega)
             intro v114 w29 ho hb hg hat
             rw [← Ny113.out] at ho
             have n0_ := Aside0.mk (blk_grown (g := gb105) (o := .cells #[.int .i64 a1_0, .int .i64 a1_1] 23 (0, 0)) (by (with_reducible repeat (first | refine blk_drewN ?_ _ | refine blk_drew ?_ | refine blk_alloc ?_ _)); exact BK105.out) hg (by simp [Value.ownBlock]))
             have n1_ := Aside0.mk (hb)
             have n2_ := Aside0.mk (ho)
             clear BK105
             clear HB
             have BK105 := n0_
             have HB := n1_
             have HO115 := n2_
             clear n0_ n1_ n2_
             clear ho hb hg hat
             refine hK.out _ _ ⟨(blk_cell BK105.out 0).trans rfl, (blk_cell BK105.out 1).trans rfl⟩ (fun hHeld => ?_)
             clear hK K
             refine norm_ (a' := ?_) ?_ ?_
             rotate_left
             ·
              show Act.put _ (some 27) _ = _
              simp only [Act.put, List.setIfInBounds_toArray, List.set_cons_zero, List.set_cons_succ, i64_w, i32_w]
              rfl
             refine one_ (i := 5) (N := some 29) #[true, true, true, true, true, true, false, true, true, true, false, false] rfl rfl (one_of HT_.out (by kernel_rfl)) (by decide) (fun K hK => ?_)
             refine Kd.R_lit_step k23 _ 23 ?hg (N := 29) ?hd (xs := ([(⟨a1_0, a1_1⟩ : S23)] : List (S23))) (inner := [.int .i64 a1_0, .int .i64 a1_1]) (ok := fun _ => True) (okp := fun _ => True) ?hr ?hp (fun _ hk => hk) trivial (Below.refl _ _) (Nat.le_refl _) (by simp) ?_; (case hd => rfl); (case hg => rfl); (case hr => first | (go_simp; done) | (go_simp; rfl)); (case hp => exact (Reps.c2 (show Kd.M k23 _ _ _ (⟨a1_0, a1_1⟩ : S23) [.int .i64 a1_0, .int .i64 a1_1] from (k23_mkM _ _ _ (⟨a1_0, a1_1⟩ : S23) )) (Reps.none _ _)))
             intro v117 w30 ho31 hb hg_ hnew_
             clear hg_ hnew_
             (first | rw [← Ny116.out] at ho31 | (simp only [Int.reduceToNat] at ho31; rw [← Ny116.out] at ho31))
             have n0_ := Aside0.mk (Kd.R_elder' (by (with_reducible repeat (first | apply Kd.R_alloc | apply Kd.R_drewN | apply Kd.R_drew)); exact HO115.out) (Kd.R_base ho31) hb)
             have n1_ := Aside0.mk (Kd.R_lower (Kd.R_newB (Kd.R_new' ho31 (Kd.R_lt (by (with_reducible repeat (first | apply Kd.R_alloc | apply Kd.R_drewN | apply Kd.R_drew)); exact HO115.out))) (g := gb105) (o := .cells #[.int .i64 a1_0, .int .i64 a1_1] 23 (0, 0)) (by (with_reducible repeat (first | refine blk_drewN ?_ _ | refine blk_drew ?_ | refine blk_alloc ?_ _)); exact BK105.out)) (below_size (by repeat (first | (with_reducible first | exact HB.out | apply below_alloc | apply pw_below_drewN | apply below_drew1 | refine below_set ?_ GE105.out) | exact HB.out))))
             have n2_ := Aside0.mk (blk_below (g := gb105) (o := .cells #[.int .i64 a1_0, .int .i64 a1_1] 23 (0, 0)) (by (with_reducible repeat (first | refine blk_drewN ?_ _ | refine blk_drew ?_ | refine blk_alloc ?_ _)); exact BK105.out) hb)
             have n3_ := Aside0.mk (below_step (by repeat (first | (with_reducible first | exact HB.out | apply below_alloc | apply pw_below_drewN | apply below_drew1 | refine below_set ?_ GE105.out) | exact HB.out)) hb)
             clear HO115
             clear BK105
             clear HB
             have HO115 := n0_
             have HO118 := n1_
             have BK105 := n2_
             have HB := n3_
             clear n0_ n1_ n2_ n3_
             clear hb ho31
             refine hK.out _ _ ⟨(blk_cell BK105.out 0).trans rfl, (blk_cell BK105.out 1).trans rfl⟩ (fun hHeld => ?_)
             clear hK K
             refine norm_ (a' := ?_) ?_ ?_
             rotate_left
             ·
              show Act.put _ (some 29) _ = _
              simp only [Act.put, List.setIfInBounds_toArray, List.set_cons_zero, List.set_cons_succ, i64_w, i32_w]
              rfl
             exact norm_ (by simp only [putAll, Act.put, List.setIfInBounds_toArray, List.set_cons_zero, List.set_cons_succ]) (hCont (v114, v117) _ ⟨hHeld, (by (with_reducible repeat (first | apply Kd.R_alloc | apply Kd.R_drewN | apply Kd.R_drew)); exact Kd.R_mono HO115.out (fun _ hk => ⟨hk.2, hk.1⟩)), (by (with_reducible repeat (first | apply Kd.R_alloc | apply Kd.R_drewN | apply Kd.R_drew)); exact Kd.R_mono HO118.out (fun _ hk => ⟨hk.1.2, hk.2⟩)), (by (with_reducible repeat (first | refine blk_drewN ?_ _ | refine blk_drew ?_ | refine blk_alloc ?_ _)); exact BK105.out), (by repeat (first | (with_reducible first | exact HB.out | apply below_alloc | apply pw_below_drewN | apply below_drew1 | refine below_set ?_ GE105.out) | exact HB.out))⟩)
            ·
             skip
             refine Kd.R_lit_step k23 _ 23 ?hg (N := 29) ?hd (xs := ([(⟨a1_0, a1_1⟩ : S23)] : List (S23))) (inner := [.int .i64 a1_0, .int .i64 a1_1]) (ok := fun _ => True) (okp := fun _ => True) ?hr ?hp (fun _ hk => hk) trivial (Below.refl _ _) (Nat.le_refl _) (by simp) ?_; (case hd => rfl); (case hg => rfl); (case hr => first | (go_simp; done) | (go_simp; rfl)); (case hp => exact (Reps.c2 (show Kd.M k23 _ _ _ (⟨a1_0, a1_1⟩ : S23) [.int .i64 a1_0, .int .i64 a1_1] from (k23_mkM _ _ _ (⟨a1_0, a1_1⟩ : S23) )) (Reps.none _ _)))
             intro v117 w29 ho30 hb hg_ hnew_
             clear hg_ hnew_
             (first | rw [← Ny116.out] at ho30 | (simp only [Int.reduceToNat] at ho30; rw [← Ny116.out] at ho30))
             have n0_ := Aside0.mk (Kd.R_lower (Kd.R_newB ho30 (g := gb105) (o := .cells #[.int .i64 a1_0, .int .i64 a1_1] 23 (0, 0)) (by (with_reducible repeat (first | refine blk_drewN ?_ _ | refine blk_drew ?_ | refine blk_alloc ?_ _)); exact BK105.out)) (below_size (by repeat (first | (with_reducible first | exact HB.out | apply below_alloc | apply pw_below_drewN | apply below_drew1 | refine below_set ?_ GE105.out) | exact HB.out))))
             have n1_ := Aside0.mk (blk_below (g := gb105) (o := .cells #[.int .i64 a1_0, .int .i64 a1_1] 23 (0, 0)) (by (with_reducible repeat (first | refine blk_drewN ?_ _ | refine blk_drew ?_ | refine blk_alloc ?_ _)); exact BK105.out) hb)
             have n2_ := Aside0.mk (below_step (by repeat (first | (with_reducible first | exact HB.out | apply below_alloc | apply pw_below_drewN | apply below_drew1 | refine below_set ?_ GE105.out) | exact HB.out)) hb)
             clear BK105
             clear HB
             have HO118 := n0_
             have BK105 := n1_
             have HB := n2_
             clear n0_ n1_ n2_
             clear hb ho30
             refine hK.out _ _ ⟨(blk_cell BK105.out 0).trans rfl, (blk_cell BK105.out 1).trans rfl⟩ (fun hHeld => ?_)
             clear hK K
             refine norm_ (a' := ?_) ?_ ?_
             rotate_left
             ·
              show Act.put _ (some 29) _ = _
              simp only [Act.put, List.setIfInBounds_toArray, List.set_cons_zero, List.set_cons_succ, i64_w, i32_w]
              rfl
             refine one_ (i := 3) (N := some 27) #[true, true, true, true, true, true, false, true, true, true, false, false] rfl rfl (one_of HT_.out (by kernel_rfl)) (by decide) (fun K hK => ?_)
             refine Kd.R_append_rows_step k23 (w0 := w) w.heap.size (by rfl) (.const (.slice none 0 0)) (.tmp 26) 28 23 (.agg #[(.int .i64 0), (.int .i64 0)]) 16 rfl Tryd.underlying28 info23 rfl (by decide) (by omega) (.slice none 0 0) ([] : List (S23)) y109 _ _ _ (fun k_ => some k_ ≠ (v117 : Value).ownBlock ∧ k_ ≠ gb105) (fun _ => False) rfl rfl ?aO ?aR (fun _ _ h => h) (fun _ h => h.elim) ?aF ?aB ?aS ?aL ?_
             (case aR => repeat (first | exact (Kd.C_below HR112.out HB.out) | (with_reducible refine Kd.C_alloc ?_ _) | (with_reducible refine Kd.C_drewN ?_ _) | (with_reducible refine Kd.C_drew ?_)))
             (case aB => exact (by repeat (first | (with_reducible first | exact HB.out | apply below_alloc | apply pw_below_drewN | apply below_drew1 | refine below_set ?_ GE105.out) | exact HB.out)))
             (case aF => exact (fun k_ hk => ⟨Kd.fresh' (Kd.R_lt (by (with_reducible repeat (first | apply Kd.R_alloc | apply Kd.R_drewN | apply Kd.R_drew)); exact HO118.out)) k_ hk, Kd.freshB (g := gb105) (o := .cells #[.int .i64 a1_0, .int .i64 a1_1] 23 (0, 0)) (by (with_reducible repeat (first | refine blk_drewN ?_ _ | refine blk_drew ?_ | refine blk_alloc ?_ _)); exact BK105.out) k_ hk⟩))
             (case aO => exact ((Kd.R_nil _ _ _ _ (fun k_ => some k_ ≠ (v117 : Value).ownBlock ∧ k_ ≠ gb105))))
             (case aS => exact (below_size (by repeat (first | (with_reducible first | exact HB.out | apply below_alloc | apply pw_below_drewN | apply below_drew1 | refine below_set ?_ GE105.out) | exact HB.out))))
             (case aL => have := LMc19.out; omega)
             intro v114 w31 ho hb hg hat
             rw [← Ny113.out] at ho
             have n0_ := Aside0.mk (blk_grown (g := gb105) (o := .cells #[.int .i64 a1_0, .int .i64 a1_1] 23 (0, 0)) (by (with_reducible repeat (first | refine blk_drewN ?_ _ | refine blk_drew ?_ | refine blk_alloc ?_ _)); exact BK105.out) hg (by simp [Value.ownBlock]))
             have n1_ := Aside0.mk (Kd.R_after (Kd.R_apart_nil (by (with_reducible repeat (first | apply Kd.R_alloc | apply Kd.R_drewN | apply Kd.R_drew)); exact HO118.out)) hg hat)
             have n2_ := Aside0.mk (hb)
             have n3_ := Aside0.mk (ho)
             clear BK105
             clear HO118
             clear HB
             have BK105 := n0_
             have HO118 := n1_
             have HB := n2_
             have HO115 := n3_
             clear n0_ n1_ n2_ n3_
             clear ho hb hg hat
             refine hK.out _ _ ⟨(blk_cell BK105.out 0).trans rfl, (blk_cell BK105.out 1).trans rfl⟩ (fun hHeld => ?_)
             clear hK K
             refine norm_ (a' := ?_) ?_ ?_
             rotate_left
             ·
              show Act.put _ (some 27) _ = _
              simp only [Act.put, List.setIfInBounds_toArray, List.set_cons_zero, List.set_cons_succ, i64_w, i32_w]
              rfl
             exact norm_ (by simp only [putAll, Act.put, List.setIfInBounds_toArray, List.set_cons_zero, List.set_cons_succ]) (hCont (v114, v117) _ ⟨hHeld, (by (with_reducible repeat (first | apply Kd.R_alloc | apply Kd.R_drewN | apply Kd.R_drew)); exact HO115.out), (by (with_reducible repeat (first | apply Kd.R_alloc | apply Kd.R_drewN | apply Kd.R_drew)); exact Kd.R_mono HO118.out (fun _ hk => ⟨hk.2, hk.1.2⟩)), (by (with_reducible repeat (first | refine blk_drewN ?_ _ | refine blk_drew ?_ | refine blk_alloc ?_ _)); exact BK105.out), (by repeat (first | (with_reducible first | exact HB.out | apply below_alloc | apply pw_below_drewN | apply below_drew1 | refine below_set ?_ GE105.out) | exact HB.out))⟩)
           rintro ⟨v114, v117⟩ w32 ⟨hS_, h0_, h1_, h2_, h3_⟩
           have n0_ : Aside0 (Kd.R k23 23 w32 w.heap.size (fun k_ => some k_ ≠ (v117 : Value).ownBlock ∧ k_ ≠ gb105) v114 y113) := ⟨h0_⟩
           have n1_ : Aside0 (Kd.R k23 23 w32 w.heap.size (fun k_ => some k_ ≠ (v114 : Value).ownBlock ∧ k_ ≠ gb105) v117 y116) := ⟨h1_⟩
           have n2_ : Aside0 (w32.heap[gb105]? = some (.cells #[.int .i64 a1_0, .int .i64 a1_1] 23 (0, 0))) := ⟨h2_⟩
           have n3_ : Aside0 (Below w.heap.size w w32) := ⟨h3_⟩
           clear BK105
           clear HB
           clear h0_ h1_ h2_ h3_
           have HO115 := n0_
           have HO118 := n1_
           have BK105 := n2_
           have HB := n3_
           clear n0_ n1_ n2_ n3_
           have hHeld : w32.cell? ⟨gb105, 0, none⟩ = some (.int .i64 a1_0) ∧ w32.cell? ⟨gb105, 1, none⟩ = some (.int .i64 a1_1) := hS_
           obtain ⟨Ao34, co34, eo34⟩ := Kd.R_slice HO118.out
           (first | subst eo34 | (injection eo34 with f1_ f2_ f3_; have f4_ := f1_.symm; have f5_ := f3_.symm; clear f1_ f2_ f3_; subst f4_; subst f5_))
           refine norm_ (a' := ?_) ?_ ?_
           rotate_left
           ·
            simp only [putAll, Act.put, List.setIfInBounds_toArray, List.set_cons_zero, List.set_cons_succ]
            rfl
           refine one_ (i := 6) (N := some 30) #[true, true, true, true, true, true, true, true, true, true, false, false] rfl rfl (one_of HT_.out (by kernel_rfl)) (by decide) (fun K hK => ?_)
           refine Kd.R_append_rows_step k23 (w0 := w) w.heap.size (by rfl) (.tmp 27) (.tmp 29) 28 23 (.agg #[(.int .i64 0), (.int .i64 0)]) 16 rfl Tryd.underlying28 info23 rfl (by decide) (by omega) v114 y113 y116 _ _ _ (fun k_ => some k_ ≠ (.slice Ao34 y116.length co34 : Value).ownBlock ∧ k_ ≠ gb105) (fun _ => False) rfl rfl ?aO ?aR (fun _ _ h => h) (fun _ h => h.elim) ?aF ?aB ?aS ?aL ?_
           (case aR => repeat (first | exact (Kd.R_reads' HO118.out).2.2 | (with_reducible refine Kd.C_alloc ?_ _) | (with_reducible refine Kd.C_drewN ?_ _) | (with_reducible refine Kd.C_drew ?_)))
           (case aB => exact (by repeat (first | (with_reducible first | exact HB.out | apply below_alloc | apply pw_below_drewN | apply below_drew1 | refine below_set ?_ GE105.out) | exact HB.out)))
           (case aF => exact (fun k_ hk => ⟨Kd.fresh' (Kd.R_lt (by (with_reducible repeat (first | apply Kd.R_alloc | apply Kd.R_drewN | apply Kd.R_drew)); exact HO118.out)) k_ hk, Kd.freshB (g := gb105) (o := .cells #[.int .i64 a1_0, .int .i64 a1_1] 23 (0, 0)) (by (with_reducible repeat (first | refine blk_drewN ?_ _ | refine blk_drew ?_ | refine blk_alloc ?_ _)); exact BK105.out) k_ hk⟩))
           (case aO => exact (by (with_reducible repeat (first | apply Kd.R_alloc | apply Kd.R_drewN | apply Kd.R_drew)); exact HO115.out))
           (case aS => exact (below_size (by repeat (first | (with_reducible first | exact HB.out | apply below_alloc | apply pw_below_drewN | apply below_drew1 | refine below_set ?_ GE105.out) | exact HB.out))))
           (case aL => have := LMc20.out; omega)
           intro v120 w33 ho hb hg hat
           rw [← Ny119.out] at ho
           have n0_ := Aside0.mk (blk_grown (g := gb105) (o := .cells #[.int .i64 a1_0, .int .i64 a1_1] 23 (0, 0)) (by (with_reducible repeat (first | refine blk_drewN ?_ _ | refine blk_drew ?_ | refine blk_alloc ?_ _)); exact BK105.out) hg (Kd.R_away HO115.out (fun _ hk => hk.2)))
           have n1_ := Aside0.mk (Kd.R_after (ok := (fun k_ => k_ ≠ gb105)) (by (with_reducible repeat (first | apply Kd.R_alloc | apply Kd.R_drewN | apply Kd.R_drew)); exact Kd.R_mono HO118.out (fun _ hk => ⟨hk.2, hk.1⟩)) hg hat)
           have n2_ := Aside0.mk (hb)
           have n3_ := Aside0.mk (ho)
           clear BK105
           clear HO118
           clear HB
           clear HO115
           have BK105 := n0_
           have HO118 := n1_
           have HB := n2_
           have HO121 := n3_
           clear n0_ n1_ n2_ n3_
           clear ho hb hg hat
           refine hK.out _ _ ⟨(blk_cell BK105.out 0).trans rfl, (blk_cell BK105.out 1).trans rfl⟩ (fun hHeld => ?_)
           clear hK K
           refine norm_ (a' := ?_) ?_ ?_
           rotate_left
           ·
            show Act.put _ (some 30) _ = _
            simp only [Act.put, List.setIfInBounds_toArray, List.set_cons_zero, List.set_cons_succ, i64_w, i32_w]
            rfl
           refine one_ (i := 10) (N := some 34) #[true, true, true, true, true, true, true, true, true, true, true, false] rfl rfl (one_of HT_.out (by kernel_rfl)) (by decide) (fun K hK => ?_)
           refine Kd.R_append_rows_step k23 (w0 := w) w.heap.size (by rfl) (.tmp 30) (.tmp 33) 28 23 (.agg #[(.int .i64 0), (.int .i64 0)]) 16 rfl Tryd.underlying28 info23 rfl (by decide) (by omega) v120 y119 y122 _ _ _ (fun k_ => some k_ ≠ (.slice Ao34 y116.length co34 : Value).ownBlock ∧ k_ ≠ gb105) (fun _ => False) rfl rfl ?aO ?aR (fun _ _ h => h) (fun _ h => h.elim) ?aF ?aB ?aS ?aL ?_
           (case aR => repeat (first | exact (Kd.C_below HR125.out HB.out) | (with_reducible refine Kd.C_alloc ?_ _) | (with_reducible refine Kd.C_drewN ?_ _) | (with_reducible refine Kd.C_drew ?_)))
           (case aB => exact (by repeat (first | (with_reducible first | exact HB.out | apply below_alloc | apply pw_below_drewN | apply below_drew1 | refine below_set ?_ GE105.out) | exact HB.out)))
           (case aF => exact (fun k_ hk => ⟨Kd.fresh' (Kd.R_lt (by (with_reducible repeat (first | apply Kd.R_alloc | apply Kd.R_drewN | apply Kd.R_drew)); exact HO118.out)) k_ hk, Kd.freshB (g := gb105) (o := .cells #[.int .i64 a1_0, .int .i64 a1_1] 23 (0, 0)) (by (with_reducible repeat (first | refine blk_drewN ?_ _ | refine blk_drew ?_ | refine blk_alloc ?_ _)); exact BK105.out) k_ hk⟩))
           (case aO => exact (by (with_reducible repeat (first | apply Kd.R_alloc | apply Kd.R_drewN | apply Kd.R_drew)); exact HO121.out))
           (case aS => exact (below_size (by repeat (first | (with_reducible first | exact HB.out | apply below_alloc | apply pw_below_drewN | apply below_drew1 | refine below_set ?_ GE105.out) | exact HB.out))))
           (case aL => have := LMc23.out; omega)
           intro v127 w35 ho hb hg hat
           rw [← Ny126.out] at ho
           have n0_ := Aside0.mk (blk_grown (g := gb105) (o := .cells #[.int .i64 a1_0, .int .i64 a1_1] 23 (0, 0)) (by (with_reducible repeat (first | refine blk_drewN ?_ _ | refine blk_drew ?_ | refine blk_alloc ?_ _)); exact BK105.out) hg (Kd.R_away HO121.out (fun _ hk => hk.2)))
           have n1_ := Aside0.mk (Kd.R_after (ok := (fun k_ => k_ ≠ gb105)) (by (with_reducible repeat (first | apply Kd.R_alloc | apply Kd.R_drewN | apply Kd.R_drew)); exact HO118.out) hg hat)
           have n2_ := Aside0.mk (hb)
           have n3_ := Aside0.mk (ho)
           clear BK105
           clear HO118
           clear HB
           clear HO121
           have BK105 := n0_
           have HO118 := n1_
           have HB := n2_
           have HO128 := n3_
           clear n0_ n1_ n2_ n3_
           clear ho hb hg hat
           refine hK.out _ _ ⟨(blk_cell BK105.out 0).trans rfl, (blk_cell BK105.out 1).trans rfl⟩ (fun hHeld => ?_)
           clear hK K
           refine norm_ (a' := ?_) ?_ ?_
           rotate_left
           ·
            show Act.put _ (some 34) _ = _
            simp only [Act.put, List.setIfInBounds_toArray, List.set_cons_zero, List.set_cons_succ, i64_w, i32_w]
            rfl
           refine pure_ (i := 11) (N := some 4) (v := ?_) (a' := ?_) #[true, true, true, true, true, true, true, true, true, true, true, true] rfl rfl (any_of HT_.out (by kernel_rfl)) (fun _ _ _ h => h) (Or.inl ⟨by rfl, ?_⟩) ?_ ?_
           rotate_left
           ·
            intro w'
            go_simp
            with_reducible rfl
           rotate_left
           ·
            simp only [Act.put, List.setIfInBounds_toArray, List.set_cons_zero, List.set_cons_succ, i64_w, i32_w]
            rfl
           refine done_ (done_of HT_.out (by kernel_rfl)) ?_
           try go_wp2
           go_ret
           exact ⟨_, by first | rfl | (simp [errW_none, errW_some] <;> rfl) | (simp [*, errW_none, errW_some] <;> rfl), by (with_reducible repeat (first | apply Kd.R_alloc | apply Kd.R_drewN | apply Kd.R_drew)); exact Kd.R_mono HO128.out (fun _ hk => trivial), by repeat (first | (with_reducible first | exact HB.out | apply below_alloc | apply pw_below_drewN | apply below_drew1 | refine below_set ?_ GE105.out) | exact HB.out)⟩
          ·
           rw [if_neg c23] at H
           exact absurd H (by simp)
         ·
          rw [if_neg c20] at H
          exact absurd H (by simp)
        ·
         rw [if_neg c19] at H
         exact absurd H (by simp)
       ·
        rw [if_neg c18] at H
        exact absurd H (by simp)
     ·
      rw [if_neg c12] at H
      exact absurd H (by simp)
    ·
     rw [if_neg c11] at H
     have c11b0 : decide (x5_1 < (l0.length : Int)) = false := decide_eq_false c11
     clear c11
     by_cases c36 : 0 ≤ x5_1
     ·
      rw [if_pos c36] at H
      have c36b0 := eq_true c36
      have c36b1 : decide (0 ≤ x5_1) = true := decide_eq_true c36
      clear c36
      by_cases c37 : x5_1 ≤ (l0.length : Int)
      ·
       rw [if_pos c37] at H
       have c37b0 := eq_true c37
       have c37b1 : decide (x5_1 ≤ (l0.length : Int)) = true := decide_eq_true c37
       clear c37
       obtain ⟨y129, hy129⟩ : ∃ y_ : List (S23), y_ = (l0.take (x5_1 : Int).toNat) := ⟨_, rfl⟩
       replace H : (if ([] : List (S23)).length + y129.length < 8796093022208 then ((some (([] : List (S23)) ++ y129 : List (S23))).bind fun y133 => ((some (([(⟨a1_0, a1_1⟩ : S23)] : List (S23)) : List (S23))).bind fun y136 => (if y133.length + y136.length < 8796093022208 then ((some (y133 ++ y136 : List (S23))).bind fun y139 => ((some (l0.drop (x5_1 : Int).toNat : List (S23))).bind fun y142 => (if y139.length + y142.length < 8796093022208 then (some (y139 ++ y142)) else (none)))) else (none)))) else (none)) = some r := by first | (rw [hy129]; with_reducible exact H) | (have H2_ := (Option.bind_some _ _).symm.trans H; rw [hy129]; with_reducible exact H2_) | (have H2_ := (Option.bind_some _ _).symm.trans H; with_reducible exact H2_) | with_reducible exact H | (rw [hy129]; exact H) | exact H
       have Ny129 := Aside0.mk hy129
       clear hy129
       by_cases c38 : ([] : List (S23)).length + y129.length < 8796093022208
       ·
        rw [if_pos c38] at H
        have LMc38 := Aside0.mk c38
        clear c38
        obtain ⟨y133, hy133⟩ : ∃ y_ : List (S23), y_ = (([] : List (S23)) ++ y129) := ⟨_, rfl⟩
        replace H : ((some (([(⟨a1_0, a1_1⟩ : S23)] : List (S23)) : List (S23))).bind fun y136 => (if y133.length + y136.length < 8796093022208 then ((some (y133 ++ y136 : List (S23))).bind fun y139 => ((some (l0.drop (x5_1 : Int).toNat : List (S23))).bind fun y142 => (if y139.length + y142.length < 8796093022208 then (some (y139 ++ y142)) else (none)))) else (none))) = some r := by first | (rw [hy133]; with_reducible exact H) | (have H2_ := (Option.bind_some _ _).symm.trans H; rw [hy133]; with_reducible exact H2_) | (have H2_ := (Option.bind_some _ _).symm.trans H; with_reducible exact H2_) | with_reducible exact H | (rw [hy133]; exact H) | exact H
        have Ny133 := Aside0.mk hy133
        clear hy133
        obtain ⟨y136, hy136⟩ : ∃ y_ : List (S23), y_ = (([(⟨a1_0, a1_1⟩ : S23)] : List (S23))) := ⟨_, rfl⟩
        replace H : (if y133.length + y136.length < 8796093022208 then ((some (y133 ++ y136 : List (S23))).bind fun y139 => ((some (l0.drop (x5_1 : Int).toNat : List (S23))).bind fun y142 => (if y139.length + y142.length < 8796093022208 then (some (y139 ++ y142)) else (none)))) else (none)) = some r := by first | (rw [hy136]; with_reducible exact H) | (have H2_ := (Option.bind_some _ _).symm.trans H; rw [hy136]; with_reducible exact H2_) | (have H2_ := (Option.bind_some _ _).symm.trans H; with_reducible exact H2_) | with_reducible exact H | (rw [hy136]; exact H) | exact H
        have Ny136 := Aside0.mk hy136
        clear hy136
        by_cases c39 : y133.length + y136.length < 8796093022208
        ·
         rw [if_pos c39] at H
         have LMc39 := Aside0.mk c39
         clear c39
         obtain ⟨y139, hy139⟩ : ∃ y_ : List (S23), y_ = (y133 ++ y136) := ⟨_, rfl⟩
         replace H : ((some (l0.drop (x5_1 : Int).toNat : List (S23))).bind fun y142 => (if y139.length + y142.length < 8796093022208 then (some (y139 ++ y142)) else (none))) = some r := by first | (rw [hy139]; with_reducible exact H) | (have H2_ := (Option.bind_some _ _).symm.trans H; rw [hy139]; with_reducible exact H2_) | (have H2_ := (Option.bind_some _ _).symm.trans H; with_reducible exact H2_) | with_reducible exact H | (rw [hy139]; exact H) | exact H
         have Ny139 := Aside0.mk hy139
         clear hy139
         have c40b0 := eq_true (of_decide_eq_true (by first | (with_reducible assumption) | assumption) : 0 ≤ x5_1)
         have c41b0 := eq_true (of_decide_eq_true (by first | (with_reducible assumption) | assumption) : x5_1 ≤ (l0.length : Int))
         obtain ⟨y142, hy142⟩ : ∃ y_ : List (S23), y_ = (l0.drop (x5_1 : Int).toNat) := ⟨_, rfl⟩
         replace H : (if y139.length + y142.length < 8796093022208 then (some (y139 ++ y142)) else (none)) = some r := by first | (rw [hy142]; with_reducible exact H) | (have H2_ := (Option.bind_some _ _).symm.trans H; rw [hy142]; with_reducible exact H2_) | (have H2_ := (Option.bind_some _ _).symm.trans H; with_reducible exact H2_) | with_reducible exact H | (rw [hy142]; exact H) | exact H
         have Ny142 := Aside0.mk hy142
         clear hy142
         by_cases c42 : y139.length + y142.length < 8796093022208
         ·
          rw [if_pos c42] at H
          have LMc42 := Aside0.mk c42
          clear c42
          obtain ⟨y146, hy146⟩ : ∃ y_ : List (S23), y_ = (y139 ++ y142) := ⟨_, rfl⟩
          replace H : (some y146) = some r := by first | (rw [hy146]; with_reducible exact H) | (have H2_ := (Option.bind_some _ _).symm.trans H; rw [hy146]; with_reducible exact H2_) | (have H2_ := (Option.bind_some _ _).symm.trans H; with_reducible exact H2_) | with_reducible exact H | (rw [hy146]; exact H) | exact H
          have Ny146 := Aside0.mk hy146
          clear hy146
          obtain rfl := Option.some.inj H
          try go_wp2
          have n0_ := Aside0.mk (blk_drew BK105.out)
          have n1_ := Aside0.mk (below_drew1 HB.out)
          clear BK105
          clear HB
          have BK105 := n0_
          have HB := n1_
          clear n0_ n1_
          refine start_ (n := 12) (S := fun w' => True) (ds := []) #[false, false, false, false, false, false, false, false, false, false, false, false] (by kernel_rfl) rfl rfl trivial (fun hHeld => ?_); refine with_tabW redpencilref04_With.tab4 redpencilref04_With.bits4 (fun HT_ HW_ => ?_)
          generalize wr.drew = w43 at BK105 HB hHeld ⊢
          refine pure_ (i := 0) (N := some 10) (v := ?_) (a' := ?_) #[true, false, false, false, false, false, false, false, false, false, false, false] rfl rfl (any_of HT_.out (by kernel_rfl)) (fun _ _ _ h => h) (Or.inl ⟨by rfl, ?_⟩) ?_ ?_
          rotate_left
          ·
           intro w'
           go_simp
           with_reducible rfl
          rotate_left
          ·
           simp only [Act.put, List.setIfInBounds_toArray, List.set_cons_zero, List.set_cons_succ, i64_w, i32_w]
           rfl
          refine pure_ (i := 1) (N := some 11) (v := ?_) (a' := ?_) #[true, true, false, false, false, false, false, false, false, false, false, false] rfl rfl (any_of HT_.out (by kernel_rfl)) (fun _ _ _ h => h) (Or.inl ⟨by rfl, ?_⟩) ?_ ?_
          rotate_left
          ·
           intro w'
           go_simp
           with_reducible rfl
          rotate_left
          ·
           simp only [Act.put, List.setIfInBounds_toArray, List.set_cons_zero, List.set_cons_succ, i64_w, i32_w]
           rfl
          refine pure_ (i := 2) (N := some 12) (v := ?_) (a' := ?_) #[true, true, true, false, false, false, false, false, false, false, false, false] rfl rfl (any_of HT_.out (by kernel_rfl)) (fun _ _ _ h => h) (Or.inl ⟨by rfl, ?_⟩) ?_ ?_
          rotate_left
          ·
           intro w'
           go_simp
           with_reducible rfl
          rotate_left
          ·
           simp only [Act.put, List.setIfInBounds_toArray, List.set_cons_zero, List.set_cons_succ, i64_w, i32_w]
           rfl
          refine pure_ (i := 3) (N := some 13) (v := ?_) (a' := ?_) #[true, true, true, true, false, false, false, false, false, false, false, false] rfl rfl (any_of HT_.out (by kernel_rfl)) (fun _ _ _ h => h) (Or.inl ⟨by rfl, ?_⟩) ?_ ?_
          rotate_left
          ·
           intro w'
           go_simp
           with_reducible rfl
          rotate_left
          ·
           simp only [Act.put, List.setIfInBounds_toArray, List.set_cons_zero, List.set_cons_succ, i64_w, i32_w]
           rfl
          refine pure_ (i := 4) (N := some 14) (v := ?_) (a' := ?_) #[true, true, true, true, true, false, false, false, false, false, false, false] rfl rfl (any_of HT_.out (by kernel_rfl)) (fun _ _ _ h => h) (Or.inl ⟨by rfl, ?_⟩) ?_ ?_
          rotate_left
          ·
           intro w'
           go_simp
           with_reducible rfl
          rotate_left
          ·
           simp only [Act.put, List.setIfInBounds_toArray, List.set_cons_zero, List.set_cons_succ, i64_w, i32_w]
           rfl
          refine pure_ (i := 5) (N := some 15) (v := undef) (a' := ?_) #[true, true, true, true, true, true, false, false, false, false, false, false] rfl rfl (any_of HT_.out (by kernel_rfl)) (fun _ _ _ h => h) (Or.inr ⟨by rfl, rfl⟩) ?_ ?_
          rotate_left
          ·
           simp only [Act.put, List.setIfInBounds_toArray, List.set_cons_zero, List.set_cons_succ, i64_w, i32_w]
           rfl
          refine pure_ (i := 6) (N := some 16) (v := undef) (a' := ?_) #[true, true, true, true, true, true, true, false, false, false, false, false] rfl rfl (any_of HT_.out (by kernel_rfl)) (fun _ _ _ h => h) (Or.inr ⟨by rfl, rfl⟩) ?_ ?_
          rotate_left
          ·
           simp only [Act.put, List.setIfInBounds_toArray, List.set_cons_zero, List.set_cons_succ, i64_w, i32_w]
           rfl
          refine pure_ (i := 7) (N := some 17) (v := undef) (a' := ?_) #[true, true, true, true, true, true, true, true, false, false, false, false] rfl rfl (any_of HT_.out (by kernel_rfl)) (fun _ _ _ h => h) (Or.inr ⟨by rfl, rfl⟩) ?_ ?_
          rotate_left
          ·
           simp only [Act.put, List.setIfInBounds_toArray, List.set_cons_zero, List.set_cons_succ, i64_w, i32_w]
           rfl
          refine pure_ (i := 8) (N := some 18) (v := undef) (a' := ?_) #[true, true, true, true, true, true, true, true, true, false, false, false] rfl rfl (any_of HT_.out (by kernel_rfl)) (fun _ _ _ h => h) (Or.inr ⟨by rfl, rfl⟩) ?_ ?_
          rotate_left
          ·
           simp only [Act.put, List.setIfInBounds_toArray, List.set_cons_zero, List.set_cons_succ, i64_w, i32_w]
           rfl
          refine pure_ (i := 9) (N := some 19) (v := undef) (a' := ?_) #[true, true, true, true, true, true, true, true, true, true, false, false] rfl rfl (any_of HT_.out (by kernel_rfl)) (fun _ _ _ h => h) (Or.inr ⟨by rfl, rfl⟩) ?_ ?_
          rotate_left
          ·
           simp only [Act.put, List.setIfInBounds_toArray, List.set_cons_zero, List.set_cons_succ, i64_w, i32_w]
           rfl
          refine pure_ (i := 10) (N := some 20) (v := undef) (a' := ?_) #[true, true, true, true, true, true, true, true, true, true, true, false] rfl rfl (any_of HT_.out (by kernel_rfl)) (fun _ _ _ h => h) (Or.inr ⟨by rfl, rfl⟩) ?_ ?_
          rotate_left
          ·
           simp only [Act.put, List.setIfInBounds_toArray, List.set_cons_zero, List.set_cons_succ, i64_w, i32_w]
           rfl
          refine pure_ (i := 11) (N := some 21) (v := ?_) (a' := ?_) #[true, true, true, true, true, true, true, true, true, true, true, true] rfl rfl (any_of HT_.out (by kernel_rfl)) (fun _ _ _ h => h) (Or.inl ⟨by rfl, ?_⟩) ?_ ?_
          rotate_left
          ·
           intro w'
           go_simp
           with_reducible rfl
          rotate_left
          ·
           simp only [Act.put, List.setIfInBounds_toArray, List.set_cons_zero, List.set_cons_succ, i64_w, i32_w]
           rfl
          refine done_ (done_of HT_.out (by kernel_rfl)) ?_
          try go_wp2
          have n0_ := Aside0.mk (blk_drew BK105.out)
          have n1_ := Aside0.mk (below_drew1 HB.out)
          clear BK105
          clear HB
          have BK105 := n0_
          have HB := n1_
          clear n0_ n1_
          have q45 : (x5_1 : Int) ≤ ((l0.length : Int) : Int) := of_decide_eq_true (by first | (with_reducible assumption) | assumption)
          obtain ⟨i045, hi045, _, hsz45, _⟩ := info_parts info23
          have hroom45 : l0.length ≤ c0 := HC0.out
          have hC45 : Kd.C k23 _ A0 l0.length l0 := HR0.out
          have hcut45 := cut_to (P := Tryd.prog) 28 23 .i64 Tryd.underlying28 hi045 A0 l0.length c0 x5_1 (of_decide_eq_true (by first | (with_reducible assumption) | assumption)) q45 hroom45
          have hr45 := Kd.C_take (m := (x5_1 : Int).toNat) hC45 (by omega)
          have hy45 : y129.length = (x5_1 : Int).toNat := (by rw [Ny129.out, List.length_take]; omega)
          rw [← Ny129.out] at hr45
          rw [← hy45] at hcut45
          have HR132 := Aside0.mk hr45
          have HC132 := Aside0.mk (show y129.length ≤ c0 from by omega)
          clear hr45 hC45 hroom45 hi045 hsz45
          have KY45 := Aside0.mk hy45
          clear hy45
          replace q45 := eq_true q45
          have q46 : (x5_1 : Int) ≤ ((l0.length : Int) : Int) := of_decide_eq_true (by first | (with_reducible assumption) | assumption)
          obtain ⟨i046, hi046, _, hsz46, _⟩ := info_parts info23
          have hroom46 : l0.length ≤ c0 := HC0.out
          have hC46 : Kd.C k23 _ A0 l0.length l0 := HR0.out
          have q046 : (0 : Int) ≤ (x5_1 : Int) := of_decide_eq_true (by first | (with_reducible assumption) | assumption)
          have hcut46 := cut_from (P := Tryd.prog) 28 23 .i64 Tryd.underlying28 hi046 2 hsz46 A0 l0.length c0 x5_1 q046 q46
          have hr46 := Kd.C_drop (m := (x5_1 : Int).toNat) (c := c0) hC46 (by omega) hroom46
          obtain ⟨A46, hA46⟩ : ∃ A1, A1 = (if c0 = (x5_1 : Int).toNat then A0 else (A0 : Option Addr).map (·.add ((x5_1 : Int).toNat * 2))) := ⟨_, rfl⟩
          obtain ⟨c46, hc46⟩ : ∃ c1, c1 = c0 - (x5_1 : Int).toNat := ⟨_, rfl⟩
          have hy46 : y142.length = l0.length - (x5_1 : Int).toNat := (by rw [Ny142.out, List.length_drop] <;> omega)
          rw [show (l0).drop (x5_1 : Int).toNat = y142 from Ny142.out.symm] at hr46
          replace hr46 : Kd.C k23 _ A46 y142.length y142 := (by rw [hA46]; exact hr46)
          rw [← hy46, ← hA46, ← hc46] at hcut46
          have HR145 := Aside0.mk hr46
          have HC145 := Aside0.mk (show y142.length ≤ c46 from by rw [hy46, hc46]; exact Nat.sub_le_sub_right hroom46 _)
          clear hr46 hC46 hroom46 hi046 hsz46 hc46
          have KY46 := Aside0.mk hy46
          have KA46 := Aside0.mk hA46
          clear hy46 hA46
          replace q46 := eq_true q46
          refine start_ (n := 12) (S := fun w' => w'.cell? ⟨gb105, 0, none⟩ = some (.int .i64 a1_0) ∧ w'.cell? ⟨gb105, 1, none⟩ = some (.int .i64 a1_1)) (ds := []) #[false, false, false, false, false, false, false, false, false, false, false, false] (by kernel_rfl) rfl rfl ⟨(blk_cell BK105.out 0).trans rfl, (blk_cell BK105.out 1).trans rfl⟩ (fun hHeld => ?_); refine with_tabW redpencilref04_With.tab6 redpencilref04_With.bits6 (fun HT_ HW_ => ?_)
          generalize w43.drew = w44 at BK105 HB HR132 HR145 hHeld ⊢
          refine pure_ (i := 0) (N := some 24) (v := ?_) (a' := ?_) #[true, false, false, false, false, false, false, false, false, false, false, false] rfl rfl (any_of HT_.out (by kernel_rfl)) (fun _ _ _ h => h) (Or.inl ⟨by rfl, ?_⟩) ?_ ?_
          rotate_left
          ·
           intro w'
           go_simp
           with_reducible rfl
          rotate_left
          ·
           simp only [Act.put, List.setIfInBounds_toArray, List.set_cons_zero, List.set_cons_succ, i64_w, i32_w]
           rfl
          refine pure_ (i := 1) (N := some 25) (v := ?_) (a' := ?_) #[true, true, false, false, false, false, false, false, false, false, false, false] rfl rfl (any_of HT_.out (by kernel_rfl)) (fun _ _ _ h => h) (Or.inl ⟨by rfl, ?_⟩) ?_ ?_
          rotate_left
          ·
           intro w'
           go_simp
           with_reducible rfl
          rotate_left
          ·
           simp only [Act.put, List.setIfInBounds_toArray, List.set_cons_zero, List.set_cons_succ, i64_w, i32_w]
           rfl
          refine pure_ (i := 2) (N := some 26) (v := ?_) (a' := ?_) #[true, true, true, false, false, false, false, false, false, false, false, false] rfl rfl (any_of HT_.out (by kernel_rfl)) (fun _ _ _ h => h) (Or.inl ⟨by rfl, ?_⟩) ?_ ?_
          rotate_left
          ·
           intro w'
           go_simp
           with_reducible rfl
          rotate_left
          ·
           simp only [Act.put, List.setIfInBounds_toArray, List.set_cons_zero, List.set_cons_succ, i64_w, i32_w]
           rfl
          refine pure_ (i := 7) (N := some 31) (v := ?_) (a' := ?_) #[true, true, true, false, false, false, false, true, false, false, false, false] rfl rfl (any_of HT_.out (by kernel_rfl)) (fun _ _ _ h => h) (Or.inl ⟨by rfl, ?_⟩) ?_ ?_
          rotate_left
          ·
           intro w'
           go_simp
           with_reducible rfl
          rotate_left
          ·
           simp only [Act.put, List.setIfInBounds_toArray, List.set_cons_zero, List.set_cons_succ, i64_w, i32_w]
           rfl
          refine pure_ (i := 8) (N := some 32) (v := ?_) (a' := ?_) #[true, true, true, false, false, false, false, true, true, false, false, false] rfl rfl (any_of HT_.out (by kernel_rfl)) (fun _ _ _ h => h) (Or.inl ⟨by rfl, ?_⟩) ?_ ?_
          rotate_left
          ·
           intro w'
           go_simp
           with_reducible rfl
          rotate_left
          ·
           simp only [Act.put, List.setIfInBounds_toArray, List.set_cons_zero, List.set_cons_succ, i64_w, i32_w]
           rfl
          refine pure_ (i := 9) (N := some 33) (v := ?_) (a' := ?_) #[true, true, true, false, false, false, false, true, true, true, false, false] rfl rfl (any_of HT_.out (by kernel_rfl)) (fun _ _ _ h => h) (Or.inl ⟨by rfl, ?_⟩) ?_ ?_
          rotate_left
          ·
           intro w'
           go_simp
           with_reducible rfl
          rotate_left
          ·
           simp only [Act.put, List.setIfInBounds_toArray, List.set_cons_zero, List.set_cons_succ, i64_w, i32_w]
           rfl
          refine take_ (i := 4) (N := some 28) (v := ?_) (a' := ?_) #[true, true, true, false, true, false, false, true, true, true, false, false] rfl rfl (take_ofW HT_.out HW_.out (by kernel_rfl)) (fun _ _ _ h => h) (Or.inl ⟨by rfl, ?_⟩) hHeld ?_ ?_
          rotate_left
          ·
           rintro w' ⟨s0, s1⟩
           go_simp
           with_reducible rfl
          rotate_left
          ·
           simp only [Act.put, List.setIfInBounds_toArray, List.set_cons_zero, List.set_cons_succ, i64_w, i32_w]
           rfl
          refine join_ (σ := Value × Value) 3 #[true, true, true, true, true, true, false, true, true, true, false, false] (fun s_ => [(27, s_.1), (29, s_.2)]) (fun s_ w' => (w'.cell? ⟨gb105, 0, none⟩ = some (.int .i64 a1_0) ∧ w'.cell? ⟨gb105, 1, none⟩ = some (.int .i64 a1_1)) ∧ (Kd.R k23 23 w' w.heap.size (fun k_ => some k_ ≠ (s_.2 : Value).ownBlock ∧ k_ ≠ gb105) s_.1 y133) ∧ (Kd.R k23 23 w' w.heap.size (fun k_ => some k_ ≠ (s_.1 : Value).ownBlock ∧ k_ ≠ gb105) s_.2 y136) ∧ (w'.heap[gb105]? = some (.cells #[.int .i64 a1_0, .int .i64 a1_1] 23 (0, 0))) ∧ (Below w.heap.size w w')) ?_ ?_
          rotate_left
          ·
           intro hCont
           refine two_ (i := 3) (j := 5) (Ni := some 27) (Nj := some 29) #[true, true, true, true, true, false, false, true, true, true, false, false] #[true, true, true, false, true, true, false, true, true, true, false, false] rfl rfl rfl rfl (two_of HT_.out (by kernel_rfl)) (by decide) (by decide) (fun K hK => ?_) (fun K hK => ?_)
           ·
            skip
            refine Kd.R_append_rows_step k23 (w0 := w) w.heap.size (by rfl) (.const (.slice none 0 0)) (.tmp 26) 28 23 (.agg #[(.int .i64 0), (.int .i64 0)]) 16 rfl Tryd.underlying28 info23 rfl (by decide) (by omega) (.slice none 0 0) ([] : List (S23)) y129 _ _ _ (fun k_ => k_ ≠ gb105) (fun _ => False) rfl rfl ?aO ?aR (fun _ _ h => h) (fun _ h => h.elim) ?aF ?aB ?aS ?aL ?_
            (case aR => repeat (first | exact (Kd.C_below HR132.out HB.out) | (with_reducible refine Kd.C_alloc ?_ _) | (with_reducible refine Kd.C_drewN ?_ _) | (with_reducible refine Kd.C_drew ?_)))
            (case aB => exact (by repeat (first | (with_reducible first | exact HB.out | apply below_alloc | apply pw_below_drewN | apply below_drew1 | refine below_set ?_ GE105.out) | exact HB.out)))
            (case aF => exact (fun k_ hk => Kd.freshB (g := gb105) (o := .cells #[.int .i64 a1_0, .int .i64 a1_1] 23 (0, 0)) (by (with_reducible repeat (first | refine blk_drewN ?_ _ | refine blk_drew ?_ | refine blk_alloc ?_ _)); exact BK105.out) k_ hk))
            (case aO => exact ((Kd.R_nil _ _ _ _ (fun k_ => k_ ≠ gb105))))
            (case aS => exact (below_size (by repeat (first | (with_reducible first | exact HB.out | apply below_alloc | apply pw_below_drewN | apply below_drew1 | refine below_set ?_ GE105.out) | exact HB.out))))
            (case aL => have := LMc38.out; omega)
            intro v134 w47 ho hb hg hat
            rw [← Ny133.out] at ho
            have n0_ := Aside0.mk (blk_grown (g := gb105) (o := .cells #[.int .i64 a1_0, .int .i64 a1_1] 23 (0, 0)) (by (with_reducible repeat (first | refine blk_drewN ?_ _ | refine blk_drew ?_ | refine blk_alloc ?_ _)); exact BK105.out) hg (by simp [Value.ownBlock]))
            have n1_ := Aside0.mk (hb)
            have n2_ := Aside0.mk (ho)
            clear BK105
            clear HB
            have BK105 := n0_
            have HB := n1_
            have HO135 := n2_
            clear n0_ n1_ n2_
            clear ho hb hg hat
            refine hK.out _ _ ⟨(blk_cell BK105.out 0).trans rfl, (blk_cell BK105.out 1).trans rfl⟩ (fun hHeld => ?_)
            clear hK K
            refine norm_ (a' := ?_) ?_ ?_
            rotate_left
            ·
             show Act.put _ (some 27) _ = _
             simp only [Act.put, List.setIfInBounds_toArray, List.set_cons_zero, List.set_cons_succ, i64_w, i32_w]
             rfl
            refine one_ (i := 5) (N := some 29) #[true, true, true, true, true, true, false, true, true, true, false, false] rfl rfl (one_of HT_.out (by kernel_rfl)) (by decide) (fun K hK => ?_)
            refine Kd.R_lit_step k23 _ 23 ?hg (N := 29) ?hd (xs := ([(⟨a1_0, a1_1⟩ : S23)] : List (S23))) (inner := [.int .i64 a1_0, .int .i64 a1_1]) (ok := fun _ => True) (okp := fun _ => True) ?hr ?hp (fun _ hk => hk) trivial (Below.refl _ _) (Nat.le_refl _) (by simp) ?_; (case hd => rfl); (case hg => rfl); (case hr => first | (go_simp; done) | (go_simp; rfl)); (case hp => exact (Reps.c2 (show Kd.M k23 _ _ _ (⟨a1_0, a1_1⟩ : S23) [.int .i64 a1_0, .int .i64 a1_1] from (k23_mkM _ _ _ (⟨a1_0, a1_1⟩ : S23) )) (Reps.none _ _)))
            intro v137 w48 ho49 hb hg_ hnew_
            clear hg_ hnew_
            (first | rw [← Ny136.out] at ho49 | (simp only [Int.reduceToNat] at ho49; rw [← Ny136.out] at ho49))
            have n0_ := Aside0.mk (Kd.R_elder' (by (with_reducible repeat (first | apply Kd.R_alloc | apply Kd.R_drewN | apply Kd.R_drew)); exact HO135.out) (Kd.R_base ho49) hb)
            have n1_ := Aside0.mk (Kd.R_lower (Kd.R_newB (Kd.R_new' ho49 (Kd.R_lt (by (with_reducible repeat (first | apply Kd.R_alloc | apply Kd.R_drewN | apply Kd.R_drew)); exact HO135.out))) (g := gb105) (o := .cells #[.int .i64 a1_0, .int .i64 a1_1] 23 (0, 0)) (by (with_reducible repeat (first | refine blk_drewN ?_ _ | refine blk_drew ?_ | refine blk_alloc ?_ _)); exact BK105.out)) (below_size (by repeat (first | (with_reducible first | exact HB.out | apply below_alloc | apply pw_below_drewN | apply below_drew1 | refine below_set ?_ GE105.out) | exact HB.out))))
            have n2_ := Aside0.mk (blk_below (g := gb105) (o := .cells #[.int .i64 a1_0, .int .i64 a1_1] 23 (0, 0)) (by (with_reducible repeat (first | refine blk_drewN ?_ _ | refine blk_drew ?_ | refine blk_alloc ?_ _)); exact BK105.out) hb)
            have n3_ := Aside0.mk (below_step (by repeat (first | (with_reducible first | exact HB.out | apply below_alloc | apply pw_below_drewN | apply below_drew1 | refine below_set ?_ GE105.out) | exact HB.out)) hb)
            clear HO135
            clear BK105
            clear HB
            have HO135 := n0_
            have HO138 := n1_
            have BK105 := n2_
            have HB := n3_
            clear n0_ n1_ n2_ n3_
            clear hb ho49
            refine hK.out _ _ ⟨(blk_cell BK105.out 0).trans rfl, (blk_cell BK105.out 1).trans rfl⟩ (fun hHeld => ?_)
            clear hK K
            refine norm_ (a' := ?_) ?_ ?_
            rotate_left
            ·
             show Act.put _ (some 29) _ = _
             simp only [Act.put, List.setIfInBounds_toArray, List.set_cons_zero, List.set_cons_succ, i64_w, i32_w]
             rfl
            exact norm_ (by simp only [putAll, Act.put, List.setIfInBounds_toArray, List.set_cons_zero, List.set_cons_succ]) (hCont (v134, v137) _ ⟨hHeld, (by (with_reducible repeat (first | apply Kd.R_alloc | apply Kd.R_drewN | apply Kd.R_drew)); exact Kd.R_mono HO135.out (fun _ hk => ⟨hk.2, hk.1⟩)), (by (with_reducible repeat (first | apply Kd.R_alloc | apply Kd.R_drewN | apply Kd.R_drew)); exact Kd.R_mono HO138.out (fun _ hk => ⟨hk.1.2, hk.2⟩)), (by (with_reducible repeat (first | refine blk_drewN ?_ _ | refine blk_drew ?_ | refine blk_alloc ?_ _)); exact BK105.out), (by repeat (first | (with_reducible first | exact HB.out | apply below_alloc | apply pw_below_drewN | apply below_drew1 | refine below_set ?_ GE105.out) | exact HB.out))⟩)
           ·
            skip
            refine Kd.R_lit_step k23 _ 23 ?hg (N := 29) ?hd (xs := ([(⟨a1_0, a1_1⟩ : S23)] : List (S23))) (inner := [.int .i64 a1_0, .int .i64 a1_1]) (ok := fun _ => True) (okp := fun _ => True) ?hr ?hp (fun _ hk => hk) trivial (Below.refl _ _) (Nat.le_refl _) (by simp) ?_; (case hd => rfl); (case hg => rfl); (case hr => first | (go_simp; done) | (go_simp; rfl)); (case hp => exact (Reps.c2 (show Kd.M k23 _ _ _ (⟨a1_0, a1_1⟩ : S23) [.int .i64 a1_0, .int .i64 a1_1] from (k23_mkM _ _ _ (⟨a1_0, a1_1⟩ : S23) )) (Reps.none _ _)))
            intro v137 w47 ho48 hb hg_ hnew_
            clear hg_ hnew_
            (first | rw [← Ny136.out] at ho48 | (simp only [Int.reduceToNat] at ho48; rw [← Ny136.out] at ho48))
            have n0_ := Aside0.mk (Kd.R_lower (Kd.R_newB ho48 (g := gb105) (o := .cells #[.int .i64 a1_0, .int .i64 a1_1] 23 (0, 0)) (by (with_reducible repeat (first | refine blk_drewN ?_ _ | refine blk_drew ?_ | refine blk_alloc ?_ _)); exact BK105.out)) (below_size (by repeat (first | (with_reducible first | exact HB.out | apply below_alloc | apply pw_below_drewN | apply below_drew1 | refine below_set ?_ GE105.out) | exact HB.out))))
            have n1_ := Aside0.mk (blk_below (g := gb105) (o := .cells #[.int .i64 a1_0, .int .i64 a1_1] 23 (0, 0)) (by (with_reducible repeat (first | refine blk_drewN ?_ _ | refine blk_drew ?_ | refine blk_alloc ?_ _)); exact BK105.out) hb)
            have n2_ := Aside0.mk (below_step (by repeat (first | (with_reducible first | exact HB.out | apply below_alloc | apply pw_below_drewN | apply below_drew1 | refine below_set ?_ GE105.out) | exact HB.out)) hb)
            clear BK105
            clear HB
            have HO138 := n0_
            have BK105 := n1_
            have HB := n2_
            clear n0_ n1_ n2_
            clear hb ho48
            refine hK.out _ _ ⟨(blk_cell BK105.out 0).trans rfl, (blk_cell BK105.out 1).trans rfl⟩ (fun hHeld => ?_)
            clear hK K
            refine norm_ (a' := ?_) ?_ ?_
            rotate_left
            ·
             show Act.put _ (some 29) _ = _
             simp only [Act.put, List.setIfInBounds_toArray, List.set_cons_zero, List.set_cons_succ, i64_w, i32_w]
             rfl
            refine one_ (i := 3) (N := some 27) #[true, true, true, true, true, true, false, true, true, true, false, false] rfl rfl (one_of HT_.out (by kernel_rfl)) (by decide) (fun K hK => ?_)
            refine Kd.R_append_rows_step k23 (w0 := w) w.heap.size (by rfl) (.const (.slice none 0 0)) (.tmp 26) 28 23 (.agg #[(.int .i64 0), (.int .i64 0)]) 16 rfl Tryd.underlying28 info23 rfl (by decide) (by omega) (.slice none 0 0) ([] : List (S23)) y129 _ _ _ (fun k_ => some k_ ≠ (v137 : Value).ownBlock ∧ k_ ≠ gb105) (fun _ => False) rfl rfl ?aO ?aR (fun _ _ h => h) (fun _ h => h.elim) ?aF ?aB ?aS ?aL ?_
            (case aR => repeat (first | exact (Kd.C_below HR132.out HB.out) | (with_reducible refine Kd.C_alloc ?_ _) | (with_reducible refine Kd.C_drewN ?_ _) | (with_reducible refine Kd.C_drew ?_)))
            (case aB => exact (by repeat (first | (with_reducible first | exact HB.out | apply below_alloc | apply pw_below_drewN | apply below_drew1 | refine below_set ?_ GE105.out) | exact HB.out)))
            (case aF => exact (fun k_ hk => ⟨Kd.fresh' (Kd.R_lt (by (with_reducible repeat (first | apply Kd.R_alloc | apply Kd.R_drewN | apply Kd.R_drew)); exact HO138.out)) k_ hk, Kd.freshB (g := gb105) (o := .cells #[.int .i64 a1_0, .int .i64 a1_1] 23 (0, 0)) (by (with_reducible repeat (first | refine blk_drewN ?_ _ | refine blk_drew ?_ | refine blk_alloc ?_ _)); exact BK105.out) k_ hk⟩))
            (case aO => exact ((Kd.R_nil _ _ _ _ (fun k_ => some k_ ≠ (v137 : Value).ownBlock ∧ k_ ≠ gb105))))
            (case aS => exact (below_size (by repeat (first | (with_reducible first | exact HB.out | apply below_alloc | apply pw_below_drewN | apply below_drew1 | refine below_set ?_ GE105.out) | exact HB.out))))
            (case aL => have := LMc38.out; omega)
            intro v134 w49 ho hb hg hat
            rw [← Ny133.out] at ho
            have n0_ := Aside0.mk (blk_grown (g := gb105) (o := .cells #[.int .i64 a1_0, .int .i64 a1_1] 23 (0, 0)) (by (with_reducible repeat (first | refine blk_drewN ?_ _ | refine blk_drew ?_ | refine blk_alloc ?_ _)); exact BK105.out) hg (by simp [Value.ownBlock]))
            have n1_ := Aside0.mk (Kd.R_after (Kd.R_apart_nil (by (with_reducible repeat (first | apply Kd.R_alloc | apply Kd.R_drewN | apply Kd.R_drew)); exact HO138.out)) hg hat)
            have n2_ := Aside0.mk (hb)
            have n3_ := Aside0.mk (ho)
            clear BK105
            clear HO138
            clear HB
            have BK105 := n0_
            have HO138 := n1_
            have HB := n2_
            have HO135 := n3_
            clear n0_ n1_ n2_ n3_
            clear ho hb hg hat
            refine hK.out _ _ ⟨(blk_cell BK105.out 0).trans rfl, (blk_cell BK105.out 1).trans rfl⟩ (fun hHeld => ?_)
            clear hK K
            refine norm_ (a' := ?_) ?_ ?_
            rotate_left
            ·
             show Act.put _ (some 27) _ = _
             simp only [Act.put, List.setIfInBounds_toArray, List.set_cons_zero, List.set_cons_succ, i64_w, i32_w]
             rfl
            exact norm_ (by simp only [putAll, Act.put, List.setIfInBounds_toArray, List.set_cons_zero, List.set_cons_succ]) (hCont (v134, v137) _ ⟨hHeld, (by (with_reducible repeat (first | apply Kd.R_alloc | apply Kd.R_drewN | apply Kd.R_drew)); exact HO135.out), (by (with_reducible repeat (first | apply Kd.R_alloc | apply Kd.R_drewN | apply Kd.R_drew)); exact Kd.R_mono HO138.out (fun _ hk => ⟨hk.2, hk.1.2⟩)), (by (with_reducible repeat (first | refine blk_drewN ?_ _ | refine blk_drew ?_ | refine blk_alloc ?_ _)); exact BK105.out), (by repeat (first | (with_reducible first | exact HB.out | apply below_alloc | apply pw_below_drewN | apply below_drew1 | refine below_set ?_ GE105.out) | exact HB.out))⟩)
          rintro ⟨v134, v137⟩ w50 ⟨hS_, h0_, h1_, h2_, h3_⟩
          have n0_ : Aside0 (Kd.R k23 23 w50 w.heap.size (fun k_ => some k_ ≠ (v137 : Value).ownBlock ∧ k_ ≠ gb105) v134 y133) := ⟨h0_⟩
          have n1_ : Aside0 (Kd.R k23 23 w50 w.heap.size (fun k_ => some k_ ≠ (v134 : Value).ownBlock ∧ k_ ≠ gb105) v137 y136) := ⟨h1_⟩
          have n2_ : Aside0 (w50.heap[gb105]? = some (.cells #[.int .i64 a1_0, .int .i64 a1_1] 23 (0, 0))) := ⟨h2_⟩
          have n3_ : Aside0 (Below w.heap.size w w50) := ⟨h3_⟩
          clear BK105
          clear HB
          clear h0_ h1_ h2_ h3_
          have HO135 := n0_
          have HO138 := n1_
          have BK105 := n2_
          have HB := n3_
          clear n0_ n1_ n2_ n3_
          have hHeld : w50.cell? ⟨gb105, 0, none⟩ = some (.int .i64 a1_0) ∧ w50.cell? ⟨gb105, 1, none⟩ = some (.int .i64 a1_1) := hS_
          obtain ⟨Ao52, co52, eo52⟩ := Kd.R_slice HO138.out
          (first | subst eo52 | (injection eo52 with f1_ f2_ f3_; have f4_ := f1_.symm; have f5_ := f3_.symm; clear f1_ f2_ f3_; subst f4_; subst f5_))
          refine norm_ (a' := ?_) ?_ ?_
          rotate_left
          ·
           simp only [putAll, Act.put, List.setIfInBounds_toArray, List.set_cons_zero, List.set_cons_succ]
           rfl
          refine one_ (i := 6) (N := some 30) #[true, true, true, true, true, true, true, true, true, true, false, false] rfl rfl (one_of HT_.out (by kernel_rfl)) (by decide) (fun K hK => ?_)
          refine Kd.R_append_rows_step k23 (w0 := w) w.heap.size (by rfl) (.tmp 27) (.tmp 29) 28 23 (.agg #[(.int .i64 0), (.int .i64 0)]) 16 rfl Tryd.underlying28 info23 rfl (by decide) (by omega) v134 y133 y136 _ _ _ (fun k_ => some k_ ≠ (.slice Ao52 y136.length co52 : Value).ownBlock ∧ k_ ≠ gb105) (fun _ => False) rfl rfl ?aO ?aR (fun _ _ h => h) (fun _ h => h.elim) ?aF ?aB ?aS ?aL ?_
          (case aR => repeat (first | exact (Kd.R_reads' HO138.out).2.2 | (with_reducible refine Kd.C_alloc ?_ _) | (with_reducible refine Kd.C_drewN ?_ _) | (with_reducible refine Kd.C_drew ?_)))
          (case aB => exact (by repeat (first | (with_reducible first | exact HB.out | apply below_alloc | apply pw_below_drewN | apply below_drew1 | refine below_set ?_ GE105.out) | exact HB.out)))
          (case aF => exact (fun k_ hk => ⟨Kd.fresh' (Kd.R_lt (by (with_reducible repeat (first | apply Kd.R_alloc | apply Kd.R_drewN | apply Kd.R_drew)); exact HO138.out)) k_ hk, Kd.freshB (g := gb105) (o := .cells #[.int .i64 a1_0, .int .i64 a1_1] 23 (0, 0)) (by (with_reducible repeat (first | refine blk_drewN ?_ _ | refine blk_drew ?_ | refine blk_alloc ?_ _)); exact BK105.out) k_ hk⟩))
          (case aO => exact (by (with_reducible repeat (first | apply Kd.R_alloc | apply Kd.R_drewN | apply Kd.R_drew)); exact HO135.out))
          (case aS => exact (below_size (by repeat (first | (with_reducible first | exact HB.out | apply below_alloc | apply pw_below_drewN | apply below_drew1 | refine below_set ?_ GE105.out) | exact HB.out))))
          (case aL => have := LMc39.out; omega)
          intro v140 w51 ho hb hg hat
          rw [← Ny139.out] at ho
          have n0_ := Aside0.mk (blk_grown (g := gb105) (o := .cells #[.int .i64 a1_0, .int .i64 a1_1] 23 (0, 0)) (by (with_reducible repeat (first | refine blk_drewN ?_ _ | refine blk_drew ?_ | refine blk_alloc ?_ _)); exact BK105.out) hg (Kd.R_away HO135.out (fun _ hk => hk.2)))
          have n1_ := Aside0.mk (Kd.R_after (ok := (fun k_ => k_ ≠ gb105)) (by (with_reducible repeat (first | apply Kd.R_alloc | apply Kd.R_drewN | apply Kd.R_drew)); exact Kd.R_mono HO138.out (fun _ hk => ⟨hk.2, hk.1⟩)) hg hat)
          have n2_ := Aside0.mk (hb)
          have n3_ := Aside0.mk (ho)
          clear BK105
          clear HO138
          clear HB
          clear HO135
          have BK105 := n0_
          have HO138 := n1_
          have HB := n2_
          have HO141 := n3_
          clear n0_ n1_ n2_ n3_
          clear ho hb hg hat
          refine hK.out _ _ ⟨(blk_cell BK105.out 0).trans rfl, (blk_cell BK105.out 1).trans rfl⟩ (fun hHeld => ?_)
          clear hK K
          refine norm_ (a' := ?_) ?_ ?_
          rotate_left
          ·
           show Act.put _ (some 30) _ = _
           simp only [Act.put, List.setIfInBounds_toArray, List.set_cons_zero, List.set_cons_succ, i64_w, i32_w]
           rfl
          refine one_ (i := 10) (N := some 34) #[true, true, true, true, true, true, true, true, true, true, true, false] rfl rfl (one_of HT_.out (by kernel_rfl)) (by decide) (fun K hK => ?_)
          refine Kd.R_append_rows_step k23 (w0 := w) w.heap.size (by rfl) (.tmp 30) (.tmp 33) 28 23 (.agg #[(.int .i64 0), (.int .i64 0)]) 16 rfl Tryd.underlying28 info23 rfl (by decide) (by omega) v140 y139 y142 _ _ _ (fun k_ => some k_ ≠ (.slice Ao52 y136.length co52 : Value).ownBlock ∧ k_ ≠ gb105) (fun _ => False) rfl rfl ?aO ?aR (fun _ _ h => h) (fun _ h => h.elim) ?aF ?aB ?aS ?aL ?_
          (case aR => repeat (first | exact (Kd.C_below HR145.out HB.out) | (with_reducible refine Kd.C_alloc ?_ _) | (with_reducible refine Kd.C_drewN ?_ _) | (with_reducible refine Kd.C_drew ?_)))
          (case aB => exact (by repeat (first | (with_reducible first | exact HB.out | apply below_alloc | apply pw_below_drewN | apply below_drew1 | refine below_set ?_ GE105.out) | exact HB.out)))
          (case aF => exact (fun k_ hk => ⟨Kd.fresh' (Kd.R_lt (by (with_reducible repeat (first | apply Kd.R_alloc | apply Kd.R_drewN | apply Kd.R_drew)); exact HO138.out)) k_ hk, Kd.freshB (g := gb105) (o := .cells #[.int .i64 a1_0, .int .i64 a1_1] 23 (0, 0)) (by (with_reducible repeat (first | refine blk_drewN ?_ _ | refine blk_drew ?_ | refine blk_alloc ?_ _)); exact BK105.out) k_ hk⟩))
          (case aO => exact (by (with_reducible repeat (first | apply Kd.R_alloc | apply Kd.R_drewN | apply Kd.R_drew)); exact HO141.out))
          (case aS => exact (below_size (by repeat (first | (with_reducible first | exact HB.out | apply below_alloc | apply pw_below_drewN | apply below_drew1 | refine below_set ?_ GE105.out) | exact HB.out))))
          (case aL => have := LMc42.out; omega)
          intro v147 w53 ho hb hg hat
          rw [← Ny146.out] at ho
          have n0_ := Aside0.mk (blk_grown (g := gb105) (o := .cells #[.int .i64 a1_0, .int .i64 a1_1] 23 (0, 0)) (by (with_reducible repeat (first | refine blk_drewN ?_ _ | refine blk_drew ?_ | refine blk_alloc ?_ _)); exact BK105.out) hg (Kd.R_away HO141.out (fun _ hk => hk.2)))
          have n1_ := Aside0.mk (Kd.R_after (ok := (fun k_ => k_ ≠ gb105)) (by (with_reducible repeat (first | apply Kd.R_alloc | apply Kd.R_drewN | apply Kd.R_drew)); exact HO138.out) hg hat)
          have n2_ := Aside0.mk (hb)
          have n3_ := Aside0.mk (ho)
          clear BK105
          clear HO138
          clear HB
          clear HO141
          have BK105 := n0_
          have HO138 := n1_
          have HB := n2_
          have HO148 := n3_
          clear n0_ n1_ n2_ n3_
          clear ho hb hg hat
          refine hK.out _ _ ⟨(blk_cell BK105.out 0).trans rfl, (blk_cell BK105.out 1).trans rfl⟩ (fun hHeld => ?_)
          clear hK K
          refine norm_ (a' := ?_) ?_ ?_
          rotate_left
          ·
           show Act.put _ (some 34) _ = _
           simp only [Act.put, List.setIfInBounds_toArray, List.set_cons_zero, List.set_cons_succ, i64_w, i32_w]
           rfl
          refine pure_ (i := 11) (N := some 4) (v := ?_) (a' := ?_) #[true, true, true, true, true, true, true, true, true, true, true, true] rfl rfl (any_of HT_.out (by kernel_rfl)) (fun _ _ _ h => h) (Or.inl ⟨by rfl, ?_⟩) ?_ ?_
          rotate_left
          ·
           intro w'
           go_simp
           with_reducible rfl
          rotate_left
          ·
           simp only [Act.put, List.setIfInBounds_toArray, List.set_cons_zero, List.set_cons_succ, i64_w, i32_w]
           rfl
          refine done_ (done_of HT_.out (by kernel_rfl)) ?_
          try go_wp2
          go_ret
          exact ⟨_, by first | rfl | (simp [errW_none, errW_some] <;> rfl) | (simp [*, errW_none, errW_some] <;> rfl), by (with_reducible repeat (first | apply Kd.R_alloc | apply Kd.R_drewN | apply Kd.R_drew)); exact Kd.R_mono HO148.out (fun _ hk => trivial), by repeat (first | (with_reducible first | exact HB.out | apply below_alloc | apply pw_below_drewN | apply below_drew1 | refine below_set ?_ GE105.out) | exact HB.out)⟩
         ·
          rw [if_neg c42] at H
          exact absurd H (by simp)
        ·
         rw [if_neg c39] at H
         exact absurd H (by simp)
       ·
        rw [if_neg c38] at H
        exact absurd H (by simp)
      ·
       rw [if_neg c37] at H
       exact absurd H (by simp)
     ·
      rw [if_neg c36] at H
      exact absurd H (by simp)

end Go.Proofs.YtcmicaheakkgdaaDoor.PAll

/- slices.SortFunc at a row of dots of one's own. -/
namespace Go.Proofs.YtcmicaheakkgdaaDoor.Dl
open Go Go.RowKit Go.Proofs Go.Lib Go.Sort Go.Proofs.YtcmicaheakkgdaaDoorW.PrintWords Go.Proofs.YtcmicaheakkgdaaDoor.PAll
set_option linter.unusedSimpArgs false
set_option linter.unusedVariables false

theorem put_block {w : World} {g : Nat} {cells : Array Value} {e : TypeId} {x : Nat × Nat} (h : w.heap[g]? = some (.cells cells e x)) (F : Array Value) :
    (putRow id w g 0 F).heap[g]? = some (.cells (putCells id 0 F cells) e x) := by
  unfold putRow mapBlock
  simp only [Array.getElem?_modify, if_true, h, Option.map_some, onCells]
theorem put_size (F cells : Array Value) : (putCells id 0 F cells).size = cells.size := by unfold putCells; simp
theorem put_take (F cells : Array Value) (h : F.size ≤ cells.size) : (putCells id 0 F cells).toList.take F.size = F.toList := by
  apply List.ext_getElem?
  intro i
  by_cases hi : i < F.size
  · rw [List.getElem?_take, if_pos hi, Array.getElem?_toList, Array.getElem?_toList]
    unfold putCells
    rw [Array.getElem?_mapIdx, Array.getElem?_eq_getElem (show i < cells.size by omega), Array.getElem?_eq_getElem hi, Option.map_some, if_pos (by omega), Nat.sub_zero, getElem!_pos F i hi]
    rfl
  · rw [List.getElem?_take, if_neg hi, Array.getElem?_toList, Array.getElem?_eq_none (by omega)]
theorem flat_two (d : Array S23) (j : Nat) (h : j < d.size) : ((flatK encD 2 d).toList.drop (j * 2)).take 2 = [.int .i64 d[j]!.f0, .int .i64 d[j]!.f1] := by
  have hs : (flatK encD 2 d).size = d.size * 2 := size_flatK _ _ _
  have g : ∀ t, t < d.size * 2 → (flatK encD 2 d).toList[t]? = some ((flatK encD 2 d)[t]!) := fun t ht => by
    rw [Array.getElem?_toList, Array.getElem?_eq_getElem (by omega), getElem!_pos _ t (by omega)]
  apply List.ext_getElem?
  intro i
  rw [List.getElem?_take, List.getElem?_drop]
  rcases i with _ | _ | i
  · rw [if_pos (by omega), g _ (by omega), flat_get _ _ (by omega), if_pos (by omega), show (j * 2 + 0) / 2 = j by omega]
    rfl
  · rw [if_pos (by omega), g _ (by omega), flat_get _ _ (by omega), if_neg (by omega), show (j * 2 + (0 + 1)) / 2 = j by omega]
    rfl
  · rw [if_neg (by omega)]
    rfl
/-- A row whose cells were laid anew. -/
theorem R_put {w : World} {base g cap : Nat} {ok : Nat → Prop} {xs : List S23} (h : k23.R 23 w base ok (.slice (some ⟨g, 0, none⟩) xs.length cap) xs) (hp : 0 < xs.length) (n : Nat) (d : Array S23) (os : Array Obj) (hd : d.size = xs.length) :
    k23.R 23 (grow (putRowK encD 2 (Go.Sort.ahead w n) g 0 d) os) base ok (.slice (some ⟨g, 0, none⟩) xs.length cap) d.toList := by
  obtain ⟨g', cap', e, hb, hlt, cells, hcell⟩ := Kd.R_form h hp
  injection e with e1 e2 e3
  injection e1 with e1
  injection e1 with e1
  subst e1 e3
  obtain ⟨hok, inner, ⟨hl, hor⟩, hrep⟩ := h
  rcases hor with ⟨q, _⟩ | ⟨g2, cap2, cur, e, hb2, hh, hnc, hcm, hcs, htk⟩
  · cases q
  injection e with e1 e2 e3
  injection e1 with e1
  injection e1 with e1
  subst e1 e3
  have hF : (flatK encD 2 d).size = xs.length * 2 := by rw [size_flatK, hd]
  have hdl : d.toList.length = xs.length := hd
  have hFl : (flatK encD 2 d).toList.length = xs.length * 2 := hF
  have hsz : k23.sz = 2 := rfl
  rw [hsz] at hcs
  have hcap : xs.length * 2 ≤ cap * 2 := Nat.mul_le_mul_right _ hnc
  refine ⟨hok, (flatK encD 2 d).toList, ⟨?_, Or.inr ⟨g, cap, putCells id 0 (flatK encD 2 d) cur, by rw [hdl], hb, ?_, ?_, hcm, ?_, ?_⟩⟩, ?_, ?_⟩
  · rw [hFl, hdl, hsz]
  · show (w.heap.modify g _ ++ os)[g]? = _
    have hb3 := put_block (w := Go.Sort.ahead w n) hh (flatK encD 2 d)
    have hb4 : (putRow id (Go.Sort.ahead w n) g 0 (flatK encD 2 d)).heap[g]? = _ := hb3
    rw [Array.getElem?_append_left (by simpa using hlt)]
    exact hb4
  · rw [hdl]; exact hnc
  · rw [put_size, hcs, hsz]
  · rw [hdl, hsz, ← hF]
    exact put_take _ _ (by rw [hF, hcs]; exact hcap)
  · rw [hFl, hdl, hsz]
  · intro j p hj
    have hjl : j < d.size := by
      have := (List.getElem?_eq_some_iff.1 hj).1
      simpa using this
    rw [hsz, flat_two d j hjl]
    have hp2 : d[j]! = p := by
      rw [getElem!_pos d j hjl]
      obtain ⟨q1, q2⟩ := List.getElem?_eq_some_iff.1 hj
      rw [← q2]; simp
    rw [hp2]
    exact k23_mkM _ _ _ p
theorem below_put {w : World} {base g : Nat} (hb : base ≤ g) (hw : base ≤ w.heap.size) (n : Nat) (d : Array S23) (os : Array Obj) : Go.RowKit.Below base w (grow (putRowK encD 2 (Go.Sort.ahead w n) g 0 d) os) := by
  refine ⟨rfl, rfl, rfl, ?_, fun k hk => ?_⟩
  · show w.heap.size ≤ (w.heap.modify g _ ++ os).size
    rw [Array.size_append, Array.size_modify]
    exact Nat.le_add_right _ _
  · show (w.heap.modify g _ ++ os)[k]? = _
    rw [Array.getElem?_append_left (by simp; omega), Array.getElem?_modify, if_neg (by omega)]

/-- slices.SortFunc with dot.Compare, at a row of one's own: the same dots, in order. -/
def SortP (xs : List S23) (v : Value) (ok : Nat → Prop) (base : Nat) (w : World) (en : Ending) (w' : World) : Prop :=
  en = .returned (.tuple #[]) ∧ ∃ ys : List S23, ys.length = xs.length ∧ (∀ z, z ∈ ys ↔ z ∈ xs) ∧ (∀ i j, i < j → j < ys.length → ¬ ltD ys.toArray[j]! ys.toArray[i]!) ∧ k23.R 23 w' base ok v ys ∧ Go.RowKit.Below base w w'
theorem sort_any (v : Value) (xs : List S23) (base : Nat) (ok : Nat → Prop) (w : World) (hw : base ≤ w.heap.size) (hl : xs.length < 4611686018427387904) (h : k23.R 23 w base ok v xs) :
    Calls Tryd.prog 36 #[v, .func (.func 12) #[] #[]] w (SortP xs v ok base w) := by
  obtain ⟨A, c, rfl, hc, hC⟩ := Kd.R_reads h
  by_cases hp : 0 < xs.length
  · obtain ⟨g, cap, e, hb, hlt, cells, hcell⟩ := Kd.R_form h hp
    injection e with e1 e2 e3
    subst e1 e3
    have eg : ∀ args w, (callFunc 12 args).run Tryd.prog w = .ok (.enter 12 args) w := enters_of Tryd.func12 (by kernel_rfl) rfl
    have hcon := AnyQ.slices_SortFunc Tryd.sortD 2 Tryd.isAgg23 Tryd.sizeOf23 encD (fun _ => rfl) (fun x u hu => by simp [encD] at hu; rcases hu with rfl | rfl <;> rfl) cmpD swoD 12 #[] g 0 c xs.toArray w eg (cmpLays g 0 _ w) (holds_of_R h hp) hlt (by simpa using hl)
    refine Calls.mono hcon ?_
    rintro en w' ⟨rfl, d', n, os, ⟨hs, _, hperm⟩, hso, rfl⟩
    have hs' : d'.size = xs.length := by simpa using hs
    have e1 : d'.extract 0 xs.toArray.size = d' := by
      rw [show xs.toArray.size = d'.size by rw [hs]]; exact Array.extract_size
    have e2 : xs.toArray.extract 0 xs.toArray.size = xs.toArray := Array.extract_size
    rw [e1, e2] at hperm
    refine ⟨rfl, d'.toList, by rw [Array.length_toList, hs'], fun z => hperm.mem_iff, fun i j hij hj => ?_, R_put h hp n d' os hs', below_put hb hw n d' os⟩
    have q := hso i j (Nat.zero_le _) hij (by have e9 : d'.toList.length = xs.toArray.size := hs; exact e9 ▸ hj)
    rw [lt_of] at q
    exact of_decide_eq_false q
  · have e0 : xs = [] := by cases xs with | nil => rfl | cons _ _ => simp at hp
    subst e0
    refine Calls.mono (AnyF.slices_SortFunc_none { Tryd.sortD with } A c (.func (.func 12) #[] #[]) w) ?_
    rintro en w' ⟨rfl, rfl⟩
    exact ⟨rfl, [], rfl, fun _ => Iff.rfl, fun i j _ hj => by simp at hj, h, Go.RowKit.Below.refl _ _⟩
end Go.Proofs.YtcmicaheakkgdaaDoor.Dl

namespace Go.Proofs.YtcmicaheakkgdaaDoor.Dl
open Go Go.RowKit Go.Proofs Go.Sort Go.Proofs.YtcmicaheakkgdaaDoorW.PrintWords Go.Proofs.YtcmicaheakkgdaaDoor.Kit Go.Proofs.YtcmicaheakkgdaaDoor.PAll
set_option linter.unusedSimpArgs false
set_option linter.unusedVariables false
attribute [local go_sem high] eqA23

theorem cells_R {w : World} {base g cap : Nat} {ok : Nat → Prop} {xs : List S23} (h : k23.R 23 w base ok (.slice (some ⟨g, 0, none⟩) xs.length cap) xs) (i : Nat) (hi : i < xs.length) :
    w.cell? ⟨g, i * 2, none⟩ = some (.int .i64 xs.toArray[i]!.f0) ∧ w.cell? ⟨g, i * 2 + 1, none⟩ = some (.int .i64 xs.toArray[i]!.f1) := by
  have hh := holds_of_R h (by omega)
  have a := (HoldsK.cell hh (i := i) (c := 0) (by simpa using hi) (by omega)).1
  have b := (HoldsK.cell hh (i := i) (c := 1) (by simpa using hi) (by omega)).1
  rw [Nat.zero_add] at a b
  exact ⟨a, b⟩
/-- A store beyond the row's own length. -/
theorem R_beyond {w : World} {base g cap n : Nat} {ok : Nat → Prop} {xs : List S23} (h : k23.R 23 w base ok (.slice (some ⟨g, 0, none⟩) n cap) xs) (o : Nat) (u : Value) (ho : xs.length * 2 ≤ o) :
    k23.R 23 (w.setCell ⟨g, o, none⟩ u) base ok (.slice (some ⟨g, 0, none⟩) n cap) xs := by
  obtain ⟨hok, inner, ⟨hl, hor⟩, hrep⟩ := h
  rcases hor with ⟨q, _⟩ | ⟨g2, cap2, cur, e, hb2, hh, hnc, hcm, hcs, htk⟩
  · cases q
  injection e with e1 e2 e3
  injection e1 with e1
  injection e1 with e1
  subst e1 e2 e3
  refine ⟨hok, inner, ⟨hl, Or.inr ⟨g, cap, cur.setIfInBounds o u, rfl, hb2, ?_, hnc, hcm, ?_, ?_⟩⟩, ?_⟩
  · rw [setCell_eq]
    unfold mapBlock
    simp only [Array.getElem?_modify, if_true, hh, Option.map_some, onCells]
  · rw [Array.size_setIfInBounds]; exact hcs
  · rw [← htk, Array.toList_setIfInBounds, List.take_set_of_le]
    exact ho
  · exact ⟨hrep.1, fun j p hj => by
      have := hrep.2 j p hj
      rw [k23_openM this]
      exact k23_mkM _ _ _ p⟩
theorem R_beyonds {base g cap n : Nat} {ok : Nat → Prop} {xs : List S23} : ∀ (seg : List Value) (w : World) (o : Nat), k23.R 23 w base ok (.slice (some ⟨g, 0, none⟩) n cap) xs → xs.length * 2 ≤ o → k23.R 23 (w.setCells g o seg) base ok (.slice (some ⟨g, 0, none⟩) n cap) xs
  | [], _, _, h, _ => h
  | u :: seg, w, o, h, ho => R_beyonds seg _ (o + 1) (R_beyond h o u ho) (by omega)
theorem below_cells {base g : Nat} (hb : base ≤ g) : ∀ (seg : List Value) (w w0 : World) (o : Nat), Go.RowKit.Below base w0 w → Go.RowKit.Below base w0 (w.setCells g o seg)
  | [], _, _, _, h => h
  | u :: seg, w, w0, o, h => below_cells hb seg _ w0 (o + 1) (h.setCell hb u)
theorem run_clear2 {P : Program} (w : World) (t e ty : TypeId) (ht : P.underlying t = some (.slice e)) (hv : ∀ w, (zeroValue e).run P w = .ok (.agg #[.int .i64 0, .int .i64 0]) w) (b o n c : Nat) (hn : 0 < n)
    (hc : ∀ j, j < n * 2 → (w.cell? ⟨b, o + j, none⟩).isSome = true) (hf : ∀ j, j < n * 2 → w.frozen? ⟨b, o + j, none⟩ = false) :
    (Builtin.clear_ #[t] ty #[.slice (some ⟨b, o, none⟩) n c]).run P w = .ok (.tuple #[]) (w.setCells b o (List.replicate (n * 2) (.int .i64 0))) := by
  have hzc : (Builtin.zeroCells #[.int .i64 0, .int .i64 0] n).toList = List.replicate (n * 2) (.int .i64 0) := by
    simp [Builtin.zeroCells]
    apply List.ext_getElem
    · simp
    · intro i h1 h2
      have : i % 2 = 0 ∨ i % 2 = 1 := by omega
      rcases this with q | q <;> simp [q]
  have hst := run_storeCells_cells (P := P) b o (List.replicate (n * 2) (.int .i64 0)) 0 w (by simpa using hc) (by simpa using hf) (by intro v hv'; rw [List.eq_of_mem_replicate hv']; rfl)
  simp only [Nat.add_zero] at hst
  obtain ⟨m, rfl⟩ : ∃ m, n = m + 1 := ⟨n - 1, by omega⟩
  simp [Builtin.clear_, run_underlying ht, hv, Value.cells, hzc, hst]
def CompP (xs : List S23) (ok : Nat → Prop) (base : Nat) (w : World) (en : Ending) (w' : World) : Prop :=
  ∃ v', en = .returned v' ∧ k23.R 23 w' base ok v' (Lib.compactUpTo xs.toArray xs.length) ∧ Go.RowKit.Below base w w'
set_option maxHeartbeats 8000000 in
set_option maxRecDepth 100000 in
theorem compact_any (v : Value) (xs : List S23) (base : Nat) (ok : Nat → Prop) (w : World) (hw : base ≤ w.heap.size) (hl : xs.length < 4611686018427387904) (h : k23.R 23 w base ok v xs) :
    Calls Tryd.prog 37 #[v] w (CompP xs ok base w) := by
  have same : (∀ j, j < xs.length → Lib.keeps xs.toArray j = true) → Lib.compactUpTo xs.toArray xs.length = xs := fun hall => by
    rw [Lib.compactUpTo_all _ _ hall]
    exact Lib.range_map_get xs.toArray
  obtain ⟨A, c, rfl, hc, hC⟩ := Kd.R_reads h
  have SAME := Lib.hid same
  have HR := Lib.hid h
  have HC := Lib.hid hC
  clear same h hC
  by_cases h2 : xs.length < 2
  · have h2z : (xs.length : Int) < 2 := by omega
    go_enter Tryd.func37, Tryd.ntmps37
    go_wp2
    go_ret
    exact ⟨_, rfl, by rw [SAME.out (fun j hj => Lib.keeps_lt_one _ j (by omega))]; exact HR.out, Go.RowKit.Below.refl _ _⟩
  · obtain ⟨g, cap, e, hb, hlt, cells, hcell⟩ := Kd.R_form HR.out (by omega)
    injection e with e1 e2 e3
    subst e1 e3
    have h2z : ¬ (xs.length : Int) < 2 := by omega
    go_enter Tryd.func37, Tryd.ntmps37
    go_wp2
    go_loopw [3] (fun i wr => ∃ k : Nat, 1 ≤ k ∧ k ≤ xs.length ∧ i = .int .i64 k ∧ Go.RowKit.Below w.heap.size w wr ∧ ∀ j, j < k → Lib.keeps xs.toArray j = true) (fun i _ => xs.length - (intOf i).toNat)
    case atStart => exact ⟨1, Nat.le_refl _, by omega, by go_num, Go.RowKit.Below.refl _ _, fun j hj => Lib.keeps_lt_one _ j hj⟩
    case round =>
      obtain ⟨k, hk1, hk, rfl, hB, hall⟩ := hrel
      have KB := Lib.hid hB
      have KA := Lib.hid hall
      clear hB hall
      by_cases hlt2 : k < xs.length
      · have r := Kd.R_drew (Kd.R_below HR.out KB.out)
        obtain ⟨c0, c1⟩ := cells_R r k hlt2
        obtain ⟨d0, d1⟩ := cells_R r (k - 1) (by omega)
        clear r
        obtain ⟨m, rfl⟩ : ∃ m, k = m + 1 := ⟨k - 1, by omega⟩
        rw [Nat.add_sub_cancel] at d0 d1
        generalize hx : xs.toArray[m + 1]! = x at c0 c1
        generalize hy : xs.toArray[m]! = y at d0 d1
        have X := Lib.hid hx
        have Y := Lib.hid hy
        clear hx hy
        have z1 : (m : Int) + 1 < (xs.length : Int) := by omega
        have z2 : (0 : Int) ≤ (m : Int) := by omega
        have z3 : (m : Int) < (xs.length : Int) := by omega
        have z4 : (0 : Int) ≤ (m : Int) + 1 := by omega
        have z5 : ((m : Int) + 1).toNat = m + 1 := by omega
        have z6 : IntKind.i64.wrap ((m : Int) + 1 - 1) = (m : Int) := by rw [show (m : Int) + 1 - 1 = m by omega]; simp [IntKind.wrap, IntKind.bits, IntKind.signed]; omega
        have z7 : decide ((m : Int) + 1 < (xs.length : Int)) = true := decide_eq_true z1
        have z8 : IntKind.i64.wrap (m : Int) = (m : Int) := by simp [IntKind.wrap, IntKind.bits, IntKind.signed]; omega
        have KD := Lib.hid (below_drew KB.out)
        by_cases hxy : x = y
        · have hd : (x.f0 == y.f0 && (x.f1 == y.f1)) = true := by subst hxy; simp
          have DUP := Lib.hid (show Lib.keeps xs.toArray (m + 1) = false from Lib.keeps_neg (by omega) (by rw [X.out, Nat.add_sub_cancel, Y.out]; exact hxy))
          clear hxy
          go_wp2_with fail
          go_region_held3 (fun w' => w'.cell? ⟨g, (m + 1) * 2, none⟩ = some (.int .i64 x.f0) ∧ w'.cell? ⟨g, (m + 1) * 2 + 1, none⟩ = some (.int .i64 x.f1) ∧ w'.cell? ⟨g, m * 2, none⟩ = some (.int .i64 y.f0) ∧ w'.cell? ⟨g, m * 2 + 1, none⟩ = some (.int .i64 y.f1)) (refine ⟨?_, ?_, ?_, ?_⟩ <;> assumption) (fail)
          go_wp2
          go_loopw [3, 5] (fun i j wr => ∃ (kk k2 : Nat) (ys : List S23), i = .int .i64 kk ∧ j = .int .i64 k2 ∧ 1 ≤ k2 ∧ m + 1 + k2 ≤ xs.length ∧ ys.length = xs.length ∧ Lib.CompInv xs.toArray (m + 1 + k2) kk ys.toArray ∧ k23.R 23 wr base ok (.slice (some ⟨g, 0, none⟩) xs.length c) ys ∧ Go.RowKit.Below base w wr) (fun _ j _ => xs.length - (intOf j).toNat)
          case atStart => exact ⟨m + 1, 1, xs, by go_num, by go_num, Nat.le_refl _, by omega, rfl, Lib.CompInv.start KA.out DUP.out, Kd.R_below HR.out KD.out, KD.out.mono hw⟩
          case round =>
            clear c0 c1 d0 d1 hd z1 z2 z3 z4 z5 z6 z7 z8
            obtain ⟨kk, k2, ys, rfl, rfl, h1, hle, hys, hI, hR, hB⟩ := hrel
            have RR := Lib.hid hR
            have RB := Lib.hid hB
            have II := Lib.hid hI
            have hkk := hI.lt
            clear hR hB hI
            by_cases hlt3 : m + 1 + k2 < xs.length
            · obtain ⟨p, rfl⟩ : ∃ p, k2 = p + 1 := ⟨k2 - 1, by omega⟩
              have r : k23.R 23 wr.drew base ok (.slice (some ⟨g, 0, none⟩) ys.length c) ys := by rw [hys]; exact Kd.R_drew RR.out
              have hh := holds_of_R r (by omega)
              obtain ⟨c0, c1⟩ := cells_R r (m + 1 + (p + 1)) (by omega)
              obtain ⟨d0, d1⟩ := cells_R r (m + 1 + p) (by omega)
              have e0 := cells_R r kk (by omega)
              have f0 := (HoldsK.cell hh (i := kk) (c := 0) (by simp; omega) (by omega)).2
              have f1 := (HoldsK.cell hh (i := kk) (c := 1) (by simp; omega) (by omega)).2
              rw [Nat.zero_add] at f0 f1
              have f0' : wr.drew.frozen? ⟨g, kk * 2, none⟩ = false := f0
              obtain ⟨e0, e1⟩ := e0
              clear r hh f0
              rw [show (m + 1 + (p + 1)) * 2 = (m + 1) * 2 + (p + 1) * 2 by omega, II.out.high _ (by omega)] at c0 c1
              rw [show (m + 1 + p) * 2 = (m + 1) * 2 + p * 2 by omega, II.out.high _ (by omega)] at d0 d1
              generalize hx2 : xs.toArray[m + 1 + (p + 1)]! = x2 at c0 c1
              generalize hy2 : xs.toArray[m + 1 + p]! = y2 at d0 d1
              generalize ys.toArray[kk]!.f0 = o0 at e0
              generalize ys.toArray[kk]!.f1 = o1 at e1
              have X2 := Lib.hid hx2
              have Y2 := Lib.hid hy2
              clear hx2 hy2
              have z0 : ((xs.length - (m + 1) : Nat) : Int) = (xs.length : Int) - ((m : Int) + 1) := by omega
              have z1 : (p : Int) + 1 < ((xs.length - (m + 1) : Nat) : Int) := by omega
              have z2 : (0 : Int) ≤ (p : Int) := by omega
              have z3 : (p : Int) < ((xs.length - (m + 1) : Nat) : Int) := by omega
              have z4 : (0 : Int) ≤ (p : Int) + 1 := by omega
              have z5 : ((p : Int) + 1).toNat = p + 1 := by omega
              have z6 : IntKind.i64.wrap ((p : Int) + 1 - 1) = (p : Int) := by rw [show (p : Int) + 1 - 1 = p by omega]; simp [IntKind.wrap, IntKind.bits, IntKind.signed]; omega
              have z7 : decide ((p : Int) + 1 < ((xs.length - (m + 1) : Nat) : Int)) = true := decide_eq_true z1
              have z8 : IntKind.i64.wrap (p : Int) = (p : Int) := by simp [IntKind.wrap, IntKind.bits, IntKind.signed]; omega
              clear z0
              by_cases hxy : x2 = y2
              · have hd : (!(x2.f0 == y2.f0) || !(x2.f1 == y2.f1)) = false := by subst hxy; simp
                have DUP2 := Lib.hid (show Lib.keeps xs.toArray (m + 1 + (p + 1)) = false from Lib.keeps_neg (by omega) (by rw [X2.out, show m + 1 + (p + 1) - 1 = m + 1 + p by omega, Y2.out]; exact hxy))
                clear hxy
                go_wp2_with fail
                go_region_held3 (fun w' => w'.cell? ⟨g, (m + 1) * 2 + (p + 1) * 2, none⟩ = some (.int .i64 x2.f0) ∧ w'.cell? ⟨g, (m + 1) * 2 + (p + 1) * 2 + 1, none⟩ = some (.int .i64 x2.f1) ∧ w'.cell? ⟨g, (m + 1) * 2 + p * 2, none⟩ = some (.int .i64 y2.f0) ∧ w'.cell? ⟨g, (m + 1) * 2 + p * 2 + 1, none⟩ = some (.int .i64 y2.f1)) (refine ⟨?_, ?_, ?_, ?_⟩ <;> assumption) (fail)
                go_wp2
                go_roundw
                case rel => exact ⟨kk, p + 1 + 1, ys, by go_num, by go_num, by omega, by omega, hys, II.out.skip DUP2.out, Kd.R_drew RR.out, below_drew RB.out⟩
                case measure => simp [intOf]; omega
              · have hd : (!(x2.f0 == y2.f0) || !(x2.f1 == y2.f1)) = true := by
                  by_cases q : x2.f0 = y2.f0
                  · have q2 : x2.f1 ≠ y2.f1 := fun p => hxy (ext_D q p)
                    simp [q2]
                  · simp [q]
                have NEW2 := Lib.hid (show Lib.keeps xs.toArray (m + 1 + (p + 1)) = true from Lib.keeps_pos (by rw [X2.out, show m + 1 + (p + 1) - 1 = m + 1 + p by omega, Y2.out]; exact hxy))
                clear hxy
                go_wp2_with fail
                go_region_held3 (fun w' => w'.cell? ⟨g, (m + 1) * 2 + (p + 1) * 2, none⟩ = some (.int .i64 x2.f0) ∧ w'.cell? ⟨g, (m + 1) * 2 + (p + 1) * 2 + 1, none⟩ = some (.int .i64 x2.f1) ∧ w'.cell? ⟨g, (m + 1) * 2 + p * 2, none⟩ = some (.int .i64 y2.f0) ∧ w'.cell? ⟨g, (m + 1) * 2 + p * 2 + 1, none⟩ = some (.int .i64 y2.f1)) (refine ⟨?_, ?_, ?_, ?_⟩ <;> assumption) (fail)
                have z9 : (kk : Int) < (xs.length : Int) := by omega
                have z10 : (0 : Int) ≤ (kk : Int) := by omega
                have hit : (Tryd.prog.info? 23).map (·.size) = some 2 := by kernel_rfl
                have f0'' : wr.frozen? ⟨g, kk * 2, none⟩ = false := f0'
                have f1'' : wr.frozen? ⟨g, kk * 2 + 1, none⟩ = false := f1
                have e0'' : wr.cell? ⟨g, kk * 2, none⟩ = some (.int .i64 o0) := e0
                have e1'' : wr.cell? ⟨g, kk * 2 + 1, none⟩ = some (.int .i64 o1) := e1
                have g1 : (wr.setCell ⟨g, kk * 2, none⟩ (.int .i64 x2.f0)).cell? ⟨g, kk * 2 + 1, none⟩ = some (.int .i64 o1) := by
                  rw [World.cell?_setCell_other _ _ _ _ (by intro q; injection q with q1 q2; omega)]; exact e1
                have g2 : (wr.setCell ⟨g, kk * 2, none⟩ (.int .i64 x2.f0)).frozen? ⟨g, kk * 2 + 1, none⟩ = false := by
                  rw [World.frozen?_setCell]; exact f1
                go_wp2_with fail
                have hcc : ∀ j u, ([.int .i64 o0, .int .i64 o1] : List Value)[j]? = some u → wr.cell? ⟨g, (kk : Int).toNat * 2 + j, none⟩ = some u := by
                  intro j u hu
                  rw [Int.toNat_natCast]
                  rcases j with _ | _ | j
                  · simp at hu; exact hu ▸ e0
                  · simp at hu; exact hu ▸ e1
                  · simp at hu
                obtain ⟨hr9, hg9⟩ := Kd.R_seg (d := k23) (x' := x2) (okp := fun _ => False) RR.out (kk : Int) z10 z9 (c := [.int .i64 o0, .int .i64 o1]) (seg := [.int .i64 x2.f0, .int .i64 x2.f1]) (j := 0) rfl hcc (Nat.le_refl 2) (k23_mkM _ _ _ x2) (fun _ q => q.elim)
                rw [Int.toNat_natCast] at hr9
                have B9 := below_cells hb [.int .i64 x2.f0, .int .i64 x2.f1] wr w (kk * 2) RB.out
                have I9 := II.out.keep (by simpa using hlt3) NEW2.out
                rw [X2.out, List.setIfInBounds_toArray] at I9
                go_roundw
                case rel => exact ⟨kk + 1, p + 1 + 1, ys.set kk x2, by go_num, by go_num, by omega, by omega, by rw [List.length_set, hys], I9, Kd.R_drew hr9, below_drew B9⟩
                case measure => simp [intOf]; omega
            · obtain rfl : k2 = xs.length - (m + 1) := by omega
              have r : k23.R 23 wr base ok (.slice (some ⟨g, 0, none⟩) ys.length c) ys := by rw [hys]; exact RR.out
              have hh := holds_of_R r (by omega)
              have hkn : kk < xs.length := by omega
              have hcells : ∀ j, j < (xs.length - kk) * 2 → (wr.cell? ⟨g, kk * 2 + j, none⟩).isSome = true ∧ wr.frozen? ⟨g, kk * 2 + j, none⟩ = false := fun j hj => by
                have q := hh (kk * 2 + j) (by rw [size_flatK]; simp; omega)
                rw [Nat.zero_add] at q
                exact ⟨by rw [q.1]; rfl, q.2⟩
              have hcl := fun ty => run_clear2 (P := Tryd.prog) wr 28 23 ty Tryd.underlying28 Tryd.zeroValue23 g (kk * 2) (xs.length - kk) (c - kk) (by omega) (fun j hj => (hcells j hj).1) (fun j hj => (hcells j hj).2)
              have hend : m + 1 + (xs.length - (m + 1)) = xs.length := by omega
              have I9 := II.out
              rw [hend] at I9
              have hT : Lib.compactUpTo xs.toArray xs.length = ys.take kk := by
                apply List.ext_getElem?
                intro j
                rw [List.getElem?_take]
                by_cases q : j < kk
                · rw [if_pos q, I9.low j q, List.getElem?_eq_getElem (by omega), getElem!_pos ys.toArray j (by simp; omega)]
                  simp
                · rw [if_neg q, List.getElem?_eq_none (by rw [I9.len]; omega)]
              have HT := Lib.hid hT
              have z9 : (kk : Int) ≤ (xs.length : Int) := by omega
              have z10 : (0 : Int) ≤ (kk : Int) := by omega
              have z11 : (kk : Int) ≤ (c : Int) := by omega
              clear r hh hcells hT I9
              go_wp2
              go_ret
              refine ⟨_, rfl, ?_, below_cells hb _ _ _ _ RB.out⟩
              rw [HT.out]
              exact R_beyonds _ _ _ (Kd.R_take RR.out (by omega)) (by rw [List.length_take]; omega)
        · have hd : (x.f0 == y.f0 && (x.f1 == y.f1)) = false := by
            rw [Bool.and_eq_false_iff]
            by_cases q : x.f0 = y.f0
            · exact Or.inr (by simp; intro p; exact hxy (ext_D q p))
            · exact Or.inl (by simpa using q)
          have NEW := Lib.hid (show Lib.keeps xs.toArray (m + 1) = true from Lib.keeps_pos (by rw [X.out, Nat.add_sub_cancel, Y.out]; exact hxy))
          clear hxy
          go_wp2_with fail
          go_region_held3 (fun w' => w'.cell? ⟨g, (m + 1) * 2, none⟩ = some (.int .i64 x.f0) ∧ w'.cell? ⟨g, (m + 1) * 2 + 1, none⟩ = some (.int .i64 x.f1) ∧ w'.cell? ⟨g, m * 2, none⟩ = some (.int .i64 y.f0) ∧ w'.cell? ⟨g, m * 2 + 1, none⟩ = some (.int .i64 y.f1)) (refine ⟨?_, ?_, ?_, ?_⟩ <;> assumption) (fail)
          go_wp2
          go_roundw
          case rel => exact ⟨m + 1 + 1, by omega, by omega, by go_num, KD.out, fun j hj => by
            rcases Nat.lt_or_ge j (m + 1) with q | q
            · exact KA.out j q
            · obtain rfl : j = m + 1 := by omega
              exact NEW.out⟩
          case measure => simp [intOf]; omega
      · obtain rfl : k = xs.length := by omega
        go_wp2
        go_ret
        exact ⟨_, rfl, by rw [SAME.out KA.out]; exact Kd.R_below HR.out KB.out, KB.out.mono hw⟩
end Go.Proofs.YtcmicaheakkgdaaDoor.Dl

/- slices.Clone and dot.Set. -/
namespace Go.Proofs.YtcmicaheakkgdaaDoor.Dl
open Go Go.RowKit Go.Proofs Go.Proofs.YtcmicaheakkgdaaDoorW.PrintWords Go.Proofs.YtcmicaheakkgdaaDoor.Kit Go.Proofs.YtcmicaheakkgdaaDoor.PAll
set_option linter.unusedSimpArgs false
set_option linter.unusedVariables false

/-- A row of its own is returned. -/
def RowP (xs : List S23) (w : World) (en : Ending) (w' : World) : Prop :=
  ∃ v, en = .returned v ∧ k23.R 23 w' w.heap.size (fun _ => True) v xs ∧ Go.RowKit.Below w.heap.size w w'
set_option maxHeartbeats 8000000 in
set_option maxRecDepth 100000 in
theorem clone_any (A : Option Addr) (c : Nat) (xs : List S23) (w : World) (hx : k23.C w A xs.length xs) (hl : xs.length * 16 ≤ 140737488355328) :
    Calls Tryd.prog 35 #[.slice A xs.length c] w (RowP xs w) := by
  cases A with
  | none =>
    have e0 : xs = [] := by
      cases xs with
      | nil => rfl
      | cons x l => obtain ⟨ad, e, _⟩ := hx.2.2 (by simp); cases e
    subst e0
    clear hx
    have q28 : ∀ (w : World) (a : Option Addr) (n c n' c' : Nat), (binOp .eql 28 (.slice a n c) (.slice none n' c')).run Tryd.prog w = .ok (.bool a.isNone) w := fun w a n c n' c' => Lib.run_eql_slice_nil w _ _ a n c n' c' Tryd.underlying28
    go_enter Tryd.func35, Tryd.ntmps35
    go_wp2
    go_ret
    exact ⟨_, rfl, Kd.R_nil _ _ _ _ _, Go.RowKit.Below.refl _ _⟩
  | some ad =>
    have HX := Lib.hid hx
    clear hx
    have q28 : ∀ (w : World) (a : Option Addr) (n c n' c' : Nat), (binOp .eql 28 (.slice a n c) (.slice none n' c')).run Tryd.prog w = .ok (.bool a.isNone) w := fun w a n c n' c' => Lib.run_eql_slice_nil w _ _ a n c n' c' Tryd.underlying28
    go_enter Tryd.func35, Tryd.ntmps35
    go_wp2_with (first
      | ((with_reducible refine gate_ (.buildSlice 28 0 #[]) rfl ?_); (refine Kd.R_lit k23 (w0 := w) w.heap.size 23 rfl (N := 5) rfl (xs := ([] : List S23)) (inner := []) (ok := fun _ => True) (okp := fun _ => False) ?hr ⟨rfl, fun j p h => by simp at h⟩ (fun _ h => h.elim) trivial (Go.RowKit.Below.refl _ _) (Nat.le_refl _) (by decide) ?_); (case hr => first | (go_simp; done) | (go_simp; rfl)); intro v1 w1 hv1 hb1 _ _; have V1 := Lib.hid hv1; have B1 := Lib.hid hb1; clear hv1 hb1)
      | ((with_reducible refine gate_builtin (b := .append) (xs := #[.tmp 5, .tmp 6]) rfl ?_); at_builtin; (refine Kd.R_append_rows k23 (w0 := w) w.heap.size rfl (.tmp 5) (.tmp 6) 28 23 (.agg #[(.int .i64 0), (.int .i64 0)]) 16 rfl Tryd.underlying28 info23 rfl (by decide) (by omega) v1 ([] : List S23) xs _ _ _ (fun _ => True) (fun _ => False) rfl rfl V1.out (Kd.C_below HX.out B1.out) (fun _ _ h => h) (fun _ h => h.elim) (fun _ _ => trivial) B1.out (below_size B1.out) ?aL ?_); (case aL => simp; omega); intro v2 w2 hv2 hb2 _ _; rw [List.nil_append] at hv2; have V2 := Lib.hid hv2; have B2 := Lib.hid hb2; clear hv2 hb2))
    go_ret
    exact ⟨_, rfl, V2.out, B2.out⟩
/-- dot.Set. -/
theorem set_any (A : Option Addr) (c : Nat) (xs : List S23) (w : World) (hx : k23.C w A xs.length xs) (hl : xs.length * 16 ≤ 140737488355328) :
    Calls Tryd.prog 15 #[.slice A xs.length c] w (RowP (setD xs) w) := by
  have CL := Lib.hid (clone_any A c xs w hx hl)
  clear hx
  go_enter Tryd.func15, Tryd.ntmps15
  go_wp2_with (first
    | (go_at_call 35; refine CL.out.mono ?_; rintro en w1 ⟨v, rfl, hv, hb⟩; have V1 := Lib.hid hv; have B1 := Lib.hid hb; clear hv hb)
    | (go_at_call 36; refine (sort_any v xs w.heap.size _ _ (below_size B1.out) (by omega) V1.out).mono ?_; rintro en w2 ⟨rfl, ys, hys, hm, hs, hv, hb⟩; have V2 := Lib.hid hv; have B2 := Lib.hid (B1.out.trans hb); have YS := Lib.hid hys; have YM := Lib.hid hm; have YO := Lib.hid hs; clear hv hb hys hm hs)
    | (go_at_call 37; refine (compact_any v ys w.heap.size _ _ (below_size B2.out) (by have := YS.out; omega) V2.out).mono ?_; rintro en w3 ⟨v3, rfl, hv, hb⟩; have V3 := Lib.hid hv; have B3 := Lib.hid (B2.out.trans hb); clear hv hb))
  go_ret
  have e : Lib.compactUpTo ys.toArray ys.length = setD xs := upTo_set ys.toArray xs (fun i j hij hj => YO.out i j hij (by simpa using hj)) (fun z => by rw [List.toList_toArray]; exact YM.out z)
  exact ⟨_, rfl, e ▸ V3.out, B3.out⟩
end Go.Proofs.YtcmicaheakkgdaaDoor.Dl

/- slices.BinarySearchFunc with dot.Compare. -/
namespace Go.Proofs.YtcmicaheakkgdaaDoor.Dl
open Go Go.RowKit Go.Proofs Go.Proofs.YtcmicaheakkgdaaDoorW.PrintWords Go.Proofs.YtcmicaheakkgdaaDoor.Kit Go.Proofs.YtcmicaheakkgdaaDoor.PAll
set_option linter.unusedSimpArgs false
set_option linter.unusedVariables false

theorem cmp_be (x y : S23) (w : World) : Calls Tryd.prog 12 #[.agg #[.int .i64 x.f0, .int .i64 x.f1], .agg #[.int .i64 y.f0, .int .i64 y.f1]] w fun e w' => e = .returned (.int .i64 (cmpD x y)) ∧ Go.RowKit.Below w.heap.size w w' :=
  dot_Compare.calls 3 x.f0 x.f1 y.f0 y.f1 _ w (cmp_val 0 _ _ _ _)
theorem keepC {w w' : World} {p : Addr} {v : Value} (h : w.cell? p = some v) (hb : Go.RowKit.Below w.heap.size w w') : w'.cell? p = some v := (hb.cell (World.block_lt_of_cell? w _ h)).trans h
theorem srt_getD {xs : List S23} (hs : Srt xs) {a b : Nat} (h : a < b) (hb : b < xs.length) : ltD (xs.getD a z23) (xs.getD b z23) := by
  have e : ∀ i (hi : i < xs.length), xs.getD i z23 = xs[i] := fun i hi => by rw [List.getD_eq_getElem?_getD, List.getElem?_eq_getElem hi]; rfl
  rw [e a (by omega), e b hb]
  exact List.pairwise_iff_getElem.1 hs a b (by omega) hb h
theorem neg_mono {xs : List S23} (hs : Srt xs) {d : S23} {a b : Nat} (h : a ≤ b) (hb : b < xs.length) (hn : cmpD (xs.getD b z23) d < 0) : cmpD (xs.getD a z23) d < 0 := by
  rcases Nat.lt_or_ge a b with q | q
  · exact (cmpD_neg _ _).2 (lt_trans (srt_getD hs q hb) ((cmpD_neg _ _).1 hn))
  · obtain rfl : a = b := by omega
    exact hn
theorem found {xs : List S23} (hs : Srt xs) {d : S23} {lo : Nat} (h1 : ∀ t, t < lo → cmpD (xs.getD t z23) d < 0) (h2 : ∀ t, lo ≤ t → t < xs.length → 0 ≤ cmpD (xs.getD t z23) d) :
    d ∈ xs ↔ lo < xs.length ∧ cmpD (xs.getD lo z23) d = 0 := by
  have e : ∀ i (hi : i < xs.length), xs.getD i z23 = xs[i] := fun i hi => by rw [List.getD_eq_getElem?_getD, List.getElem?_eq_getElem hi]; rfl
  constructor
  · intro hd
    obtain ⟨t, ht, hte⟩ := List.getElem_of_mem hd
    have h0 : cmpD (xs.getD t z23) d = 0 := by rw [e t ht, hte]; exact (cmpD_zero _ _).2 rfl
    rcases Nat.lt_trichotomy t lo with q | q | q
    · have := h1 t q; omega
    · exact ⟨q ▸ ht, q ▸ h0⟩
    · have a1 := srt_getD hs q ht
      rw [(cmpD_zero _ _).1 h0] at a1
      have a2 := (cmpD_neg _ _).2 a1
      have := h2 lo (Nat.le_refl _) (by omega)
      omega
  · rintro ⟨h, h0⟩
    rw [← (cmpD_zero _ _).1 h0, e lo h]
    exact List.getElem_mem h
def FoundP (b : Bool) (w : World) (en : Ending) (w' : World) : Prop :=
  ∃ i : Int, en = .returned (.tuple #[.int .i64 i, .bool b]) ∧ Go.RowKit.Below w.heap.size w w'
set_option maxHeartbeats 8000000 in
set_option maxRecDepth 100000 in
theorem bs_any (A : Option Addr) (c : Nat) (xs : List S23) (d : S23) (w : World) (hx : k23.C w A xs.length xs) (hl : xs.length < 4611686018427387904) (hs : Srt xs) (b : Bool) (hbm : b = true ↔ d ∈ xs) :
    Calls Tryd.prog 44 #[.slice A xs.length c, .agg #[.int .i64 d.f0, .int .i64 d.f1], .func (.func 12) #[] #[]] w (FoundP b w) := by
  have HX := Lib.hid hx
  have HS := Lib.hid hs
  have HM := Lib.hid hbm
  have CMP := Lib.hid (fun x w' => cmp_be x d w')
  obtain ⟨d0, d1⟩ := d
  clear hx hs hbm
  go_enter Tryd.func44, Tryd.ntmps44
  go_wp2
  go_loopw [9, 10] (fun i j wr => ∃ lo hi : Nat, i = .int .i64 lo ∧ j = .int .i64 hi ∧ lo ≤ hi ∧ hi ≤ xs.length ∧ Go.RowKit.Below w.heap.size w wr ∧ wr.heap[w.heap.size]? = some (.cells #[.int .i64 d0, .int .i64 d1] 23 (0, 0)) ∧ (∀ t, t < lo → cmpD (xs.getD t z23) ⟨d0, d1⟩ < 0) ∧ (∀ t, hi ≤ t → t < xs.length → 0 ≤ cmpD (xs.getD t z23) ⟨d0, d1⟩)) (fun i j _ => (intOf j).toNat - (intOf i).toNat)
  case atStart => exact ⟨0, xs.length, rfl, rfl, Nat.zero_le _, Nat.le_refl _, below_alloc (Go.RowKit.Below.refl _ _) _, blk_new w _, fun t ht => absurd ht (Nat.not_lt_zero _), fun t h1 h2 => by omega⟩
  case round =>
    obtain ⟨lo, hi, rfl, rfl, hlh, hin, hB, hbk, hlo, hhi⟩ := hrel
    have KB := Lib.hid hB
    have BK := Lib.hid hbk
    have LO := Lib.hid hlo
    have HI := Lib.hid hhi
    clear hB hbk hlo hhi
    by_cases hlt : lo < hi
    · have hm : (lo + hi) / 2 < xs.length := by omega
      obtain ⟨ad, eA, q0, q1⟩ := at_T23 (Kd.C_below HX.out (below_drew KB.out)) (((lo + hi) / 2 : Nat) : Int) (by omega) (by omega)
      subst eA
      have hrd : rd_T23 xs (((lo + hi) / 2 : Nat) : Int) = xs.getD ((lo + hi) / 2) z23 := by unfold rd_T23; rw [Int.toNat_natCast]
      rw [hrd, Int.toNat_natCast] at q0 q1
      generalize hxd : xs.getD ((lo + hi) / 2) z23 = x at q0 q1
      have X := Lib.hid hxd
      clear hrd hxd
      have p0 : wr.drew.cell? ⟨w.heap.size, 0, none⟩ = some (.int .i64 d0) := (blk_cell (blk_drew BK.out) 0).trans rfl
      have p1 : wr.drew.cell? ⟨w.heap.size, 1, none⟩ = some (.int .i64 d1) := (blk_cell (blk_drew BK.out) 1).trans rfl
      have e1 : (((lo : Int) + (hi : Int)) / 2).toNat = (lo + hi) / 2 := by omega
      have e2 : (0 : Int) ≤ ((lo : Int) + (hi : Int)) / 2 := by omega
      have e3 : ((lo : Int) + (hi : Int)) / 2 < (xs.length : Int) := by omega
      have c2 := CMP.out x
      obtain ⟨cv, hcv⟩ : ∃ cv, cmpD x ⟨d0, d1⟩ = cv := ⟨_, rfl⟩
      rw [hcv] at c2
      have C2 := Lib.hid c2
      have CV := Lib.hid hcv
      clear c2 hcv
      have KBD := Lib.hid (below_drew KB.out)
      have BKD := Lib.hid (blk_drew BK.out)
      by_cases hneg : cmpD x ⟨d0, d1⟩ < 0
      · have NEG := Lib.hid hneg
        have hdec : decide (cv < 0) = true := decide_eq_true (by rw [← CV.out]; exact hneg)
        clear hneg
        go_wp2_with fail
        go_region_held3 (fun w' => w'.cell? (ad.add (((lo + hi) / 2) * 2)) = some (.int .i64 x.f0) ∧ w'.cell? ⟨(ad.add (((lo + hi) / 2) * 2)).block, (ad.add (((lo + hi) / 2) * 2)).off + 1, none⟩ = some (.int .i64 x.f1) ∧ w'.cell? ⟨w.heap.size, 0, none⟩ = some (.int .i64 d0) ∧ w'.cell? ⟨w.heap.size, 1, none⟩ = some (.int .i64 d1)) (refine ⟨?_, ?_, ?_, ?_⟩ <;> assumption) (first | (go_at_call 12; (refine (C2.out _).mono ?_); rintro en w9 ⟨rfl, hb⟩; have q0 := keepC q0 hb; have q1 := keepC q1 hb; have p0 := keepC p0 hb; have p1 := keepC p1 hb; have BK := Lib.hid (blk_below BKD.out hb); have KB := Lib.hid (below_step KBD.out hb); clear hb))
        go_wp2
        go_roundw
        case rel => exact ⟨(lo + hi) / 2 + 1, hi, by go_num, rfl, by omega, hin, KB.out, BK.out, fun t ht => neg_mono HS.out (by omega) hm (by rw [X.out]; exact NEG.out), HI.out⟩
        case measure => simp [intOf]; omega
      · have NEG := Lib.hid (Int.not_lt.1 hneg)
        have hdec : decide (cv < 0) = false := decide_eq_false (by rw [← CV.out]; exact hneg)
        clear hneg
        go_wp2_with fail
        go_region_held3 (fun w' => w'.cell? (ad.add (((lo + hi) / 2) * 2)) = some (.int .i64 x.f0) ∧ w'.cell? ⟨(ad.add (((lo + hi) / 2) * 2)).block, (ad.add (((lo + hi) / 2) * 2)).off + 1, none⟩ = some (.int .i64 x.f1) ∧ w'.cell? ⟨w.heap.size, 0, none⟩ = some (.int .i64 d0) ∧ w'.cell? ⟨w.heap.size, 1, none⟩ = some (.int .i64 d1)) (refine ⟨?_, ?_, ?_, ?_⟩ <;> assumption) (first | (go_at_call 12; (refine (C2.out _).mono ?_); rintro en w9 ⟨rfl, hb⟩; have q0 := keepC q0 hb; have q1 := keepC q1 hb; have p0 := keepC p0 hb; have p1 := keepC p1 hb; have BK := Lib.hid (blk_below BKD.out hb); have KB := Lib.hid (below_step KBD.out hb); clear hb))
        go_wp2
        go_roundw
        case rel => exact ⟨lo, (lo + hi) / 2, rfl, by go_num, by omega, by omega, KB.out, BK.out, LO.out, fun t ht htn => Int.not_lt.1 fun q => absurd NEG.out (Int.not_le.2 (by rw [← X.out]; exact neg_mono HS.out ht htn q))⟩
        case measure => simp [intOf]; omega
    · obtain rfl : hi = lo := by omega
      have hf := found HS.out LO.out HI.out
      by_cases hlt2 : hi < xs.length
      · obtain ⟨ad, eA, q0, q1⟩ := at_T23 (Kd.C_below HX.out (below_drew KB.out)) (hi : Int) (by omega) (by omega)
        subst eA
        have hrd : rd_T23 xs (hi : Int) = xs.getD hi z23 := by unfold rd_T23; rw [Int.toNat_natCast]
        rw [hrd, Int.toNat_natCast] at q0 q1
        have p0 : wr.drew.cell? ⟨w.heap.size, 0, none⟩ = some (.int .i64 d0) := (blk_cell (blk_drew BK.out) 0).trans rfl
        have p1 : wr.drew.cell? ⟨w.heap.size, 1, none⟩ = some (.int .i64 d1) := (blk_cell (blk_drew BK.out) 1).trans rfl
        have e2 : (0 : Int) ≤ (hi : Int) := by omega
        have e3 : (hi : Int) < (xs.length : Int) := by omega
        have hb2 : decide (cmpD (xs.getD hi z23) ⟨d0, d1⟩ = 0) = b := by
          rw [Bool.eq_iff_iff, HM.out, hf]; simp [hlt2]
        generalize xs.getD hi z23 = x at q0 q1 hb2
        have c2 := CMP.out x
        generalize cmpD x ⟨d0, d1⟩ = cv at c2 hb2
        have C2 := Lib.hid c2
        clear c2
        have KBD := Lib.hid (below_drew KB.out)
        have BKD := Lib.hid (blk_drew BK.out)
        clear hrd hf
        have hb3 : (cv == 0) = b := by rw [← hb2]; rfl
        go_wp2_with fail
        go_region_held3 (fun w' => w'.cell? (ad.add (hi * 2)) = some (.int .i64 x.f0) ∧ w'.cell? ⟨(ad.add (hi * 2)).block, (ad.add (hi * 2)).off + 1, none⟩ = some (.int .i64 x.f1) ∧ w'.cell? ⟨w.heap.size, 0, none⟩ = some (.int .i64 d0) ∧ w'.cell? ⟨w.heap.size, 1, none⟩ = some (.int .i64 d1)) (refine ⟨?_, ?_, ?_, ?_⟩ <;> assumption) (first | (go_at_call 12; (refine (C2.out _).mono ?_); rintro en w9 ⟨rfl, hb⟩; have q0 := keepC q0 hb; have q1 := keepC q1 hb; have p0 := keepC p0 hb; have p1 := keepC p1 hb; have BK := Lib.hid (blk_below BKD.out hb); have KB := Lib.hid (below_step KBD.out hb); clear hb))
        go_wp2
        go_ret2
        exact ⟨_, rfl, KB.out⟩
      · have hb2 : b = false := by
          rw [← Bool.not_eq_true, HM.out, hf]; omega
        subst hb2
        clear hf
        have hd4 : decide ((hi : Int) < (xs.length : Int)) = false := decide_eq_false (by omega)
        have hd5 : ((hi : Int) < (xs.length : Int)) = False := eq_false (by omega)
        have p0 : wr.drew.cell? ⟨w.heap.size, 0, none⟩ = some (.int .i64 d0) := (blk_cell (blk_drew BK.out) 0).trans rfl
        go_wp2_with fail
        go_quiet (fail)
        go_wp2
        go_ret2
        exact ⟨_, rfl, pw_below_drewN KB.out _⟩
end Go.Proofs.YtcmicaheakkgdaaDoor.Dl

/- The reference's With. -/
namespace Go.Proofs.YtcmicaheakkgdaaDoor.Dl
open Go Go.RowKit Go.Proofs Go.Proofs.YtcmicaheakkgdaaDoorW.PrintWords Go.Proofs.YtcmicaheakkgdaaDoor.Kit Go.Proofs.YtcmicaheakkgdaaDoor.PAll
set_option linter.unusedSimpArgs false
set_option linter.unusedVariables false

/-- A row of the caller's own, that one or a new one, is returned. -/
def WithP (ys : List S23) (base : Nat) (w : World) (en : Ending) (w' : World) : Prop :=
  ∃ v', en = .returned v' ∧ k23.R 23 w' base (fun _ => True) v' ys ∧ Go.RowKit.Below base w w'
theorem has_be (A : Option Addr) (c : Nat) (xs : List S23) (d : S23) (w : World) (hx : k23.C w A xs.length xs) (hc : xs.length ≤ c) (hl : xs.length ≤ 1000000) :
    Calls Tryd.prog 21 #[.slice A xs.length c, .agg #[.int .i64 d.f0, .int .i64 d.f1]] w fun e w' => e = .returned (.bool (decide (d ∈ xs))) ∧ Go.RowKit.Below w.heap.size w w' :=
  redpencilref04_Has.calls (xs.length + 1) A c xs d.f0 d.f1 _ w hx hc (has_val xs d hl _ (Nat.lt_succ_self _))
theorem with_l0 (xs : List S23) (d : S23) (hl : xs.length ≤ 100000) (hm : d ∉ xs) : ∀ (n i : Nat), i + n = xs.length → (∀ t, t < i → ltD (xs.getD t z23) d) → ∀ k, n < k → redpencilref04_With.l0 k xs (i : Int) d.f0 d.f1 = some (insD d xs)
  | n, i, h, _, 0, hk => absurd hk (Nat.not_lt_zero _)
  | 0, i, h, hall, k + 1, _ => by
    have e := ins_split d xs i (by omega) hm hall (fun q => by omega)
    rw [redpencilref04_With.l0, if_neg (by omega), if_pos (by omega), if_pos (by omega), Option.bind_some, Int.toNat_natCast, if_pos (by simp; omega), Option.bind_some, Option.bind_some, if_pos (by simp; omega), Option.bind_some, Option.bind_some, if_pos (by simp; omega), e]
    simp
  | n + 1, i, h, hall, k + 1, hk => by
    have hi : i < xs.length := by omega
    rw [redpencilref04_With.l0, if_pos (by omega), if_pos (by omega), rdN, less_val, Option.bind_some]
    by_cases q : ltD (xs.getD i z23) d
    · rw [if_pos (decide_eq_true q), wi (by omega)]
      exact with_l0 xs d hl hm n (i + 1) (by omega) (fun t ht => by
        rcases Nat.lt_or_ge t i with p | p
        · exact hall t p
        · obtain rfl : t = i := by omega
          exact q) k (by omega)
    · have e := ins_split d xs i (by omega) hm hall (fun _ => q)
      rw [if_neg (by simp; exact q), if_pos (by omega), Option.bind_some, Int.toNat_natCast, if_pos (by simp; omega), Option.bind_some, Option.bind_some, if_pos (by simp; omega), Option.bind_some, Option.bind_some, if_pos (by simp; omega), e]
      simp
set_option maxHeartbeats 4000000 in
set_option maxRecDepth 100000 in
theorem with_any (v : Value) (xs : List S23) (d : S23) (base : Nat) (w : World) (hw : base ≤ w.heap.size) (h : k23.R 23 w base (fun _ => True) v xs) (hs : Srt xs) (hl : xs.length ≤ 100000) :
    Calls Tryd.prog 42 #[v, .agg #[.int .i64 d.f0, .int .i64 d.f1]] w (WithP (insD d xs) base w) := by
  obtain ⟨A, c, rfl, hc, hC⟩ := Kd.R_reads h
  by_cases hm : d ∈ xs
  · have HR := Lib.hid h
    have HAS := Lib.hid (fun W hW => has_be A c xs d W (Kd.C_below hC hW) hc (by omega))
    clear h hC
    have hins : insD d xs = xs := srt_eq (srt_ins hs) hs fun z => by
      rw [mem_ins]
      constructor
      · rintro (rfl | q)
        · exact hm
        · exact q
      · exact Or.inr
    rw [hins]
    have hb : decide (d ∈ xs) = true := decide_eq_true hm
    rw [hb] at HAS
    clear hb hm hins
    obtain ⟨d0, d1⟩ := d
    go_enter Tryd.func42, Tryd.ntmps42
    go_wp2_with (go_at_call 21; refine (HAS.out _ (below_alloc (Go.RowKit.Below.refl _ _) _)).mono ?_; rintro en w1 ⟨rfl, hb⟩; have K1 := Lib.hid (below_step (below_alloc (Go.RowKit.Below.refl _ _) _) hb); clear hb)
    go_ret
    exact ⟨_, rfl, Kd.R_below HR.out K1.out, K1.out.mono hw⟩
  · have hn : redpencilref04_Has.f (xs.length + 1) xs d.f0 d.f1 = some false := by
      rw [has_val xs d (by omega) _ (Nat.lt_succ_self _), decide_eq_false hm]
    have hv : redpencilref04_With.f (xs.length + 1) xs d.f0 d.f1 = some (insD d xs) := by
      unfold redpencilref04_With.f
      rw [hn, Option.bind_some, if_neg (by decide)]
      exact with_l0 xs d hl hm xs.length 0 (by omega) (fun t ht => absurd ht (Nat.not_lt_zero _)) _ (Nat.lt_succ_self _)
    refine (redpencilref04_With.calls (xs.length + 1) A c xs d.f0 d.f1 _ w hC hc hn hv).mono ?_
    rintro en w' ⟨v0, rfl, hr, hb⟩
    exact ⟨v0, rfl, Kd.R_lower hr hw, hb.mono hw⟩
end Go.Proofs.YtcmicaheakkgdaaDoor.Dl

/- slices.Grow of nil and slices.Concat of two, at rows of dots (XCg's walks, turned by a program). -/
namespace Go.Proofs.YtcmicaheakkgdaaDoor.Dl
open Go Go.RowKit Go.Proofs Go.Proofs.YtcmicaheakkgdaaDoorW.PrintWords Go.Proofs.YtcmicaheakkgdaaDoor.Kit Go.Proofs.YtcmicaheakkgdaaDoor.PAll
set_option linter.unusedSimpArgs false
set_option linter.unusedVariables false

def MadeD (xs : List S23) (w : World) (en : Ending) (w' : World) : Prop :=
  ∃ v, en = .returned v ∧ k23.R 23 w' w.heap.size (fun j => w.heap.size ≤ j) v xs ∧ Go.RowKit.Below w.heap.size w w'
set_option maxHeartbeats 2000000 in
theorem grow_nil (n : Nat) (hn : n ≤ 100000000) (w : World) : Calls Tryd.prog 52 #[.slice none 0 0, .int .i64 n] w (MadeD [] w) := by
  rcases Nat.eq_zero_or_pos n with rfl | hp
  · go_enter Tryd.func52, Tryd.ntmps52
    go_wp2
    go_ret
    exact ⟨_, rfl, Kd.R_nil _ _ _ _ _, Go.RowKit.Below.refl _ _⟩
  · have hd : decide ((n : Int) < 0) = false := decide_eq_false (by omega)
    have hd2 : decide ((0 : Int) < (n : Int)) = true := decide_eq_true (by omega)
    have hd3 : decide (0 < n) = true := decide_eq_true hp
    have hni : (n : Int) ≤ 100000000 := by omega
    have LN := Lib.hid (show (([] : List S23).length + (n : Int).toNat) * 16 ≤ 140737488355328 by simp; omega)
    have EN := Lib.hid (show (([] : List S23) ++ List.replicate (n : Int).toNat z23).length = n by simp)
    go_enter Tryd.func52, Tryd.ntmps52
    go_wp2_with ((with_reducible refine gate_builtin (b := .append) (xs := #[.tmp 20, .tmp 21]) rfl ?_); at_builtin; refine Go.RowKit.Hid.out ?_)
    unfold Go.RowKit.Hid
    refine Kd.R_append_zeros k23 (w0 := w) w.heap.size rfl (.tmp 20) (.tmp 21) 28 3 23 (.agg #[(.int .i64 0), (.int .i64 0)]) 16 rfl Tryd.underlying28 Tryd.underlying3 info23 rfl (by decide) (by omega) (.slice none 0 0) [] z23 (n : Int) (fun j => w.heap.size ≤ j) rfl rfl (k23_mkM _ _ _ z23) (fun k hk => hk) (Kd.R_nil _ _ _ _ _) (by omega) (Go.RowKit.Below.refl _ _) (Nat.le_refl _) LN.out ?_
    intro v7 w7 ho hb hg_ hat
    obtain ⟨A7, c7, rfl, hc7, _⟩ := Kd.R_reads ho
    have hc8 : (0 : Int) ≤ (c7 : Int) := by omega
    have HO := Lib.hid ho
    have KB := Lib.hid hb
    rw [EN.out]
    clear ho hb hg_ hat hc7
    go_wp2
    go_ret
    exact ⟨_, rfl, by simpa using Kd.R_take HO.out (m := 0) (Nat.zero_le _), KB.out⟩
set_option maxHeartbeats 4000000 in
theorem concat_two (g : Nat) (T : TypeId) (A0 : Option Addr) (c0 : Nat) (xs0 : List S23) (A1 : Option Addr) (c1 : Nat) (xs1 : List S23) (w : World) (hb : w.heap[g]? = some (.cells #[.slice A0 xs0.length c0, .slice A1 xs1.length c1] T (0, 0))) (h0 : k23.C w A0 xs0.length xs0) (h1 : k23.C w A1 xs1.length xs1) (hl : xs0.length + xs1.length ≤ 10000000) :
    Calls Tryd.prog 41 #[.slice (some ⟨g, 0, none⟩) 2 2] w (MadeD (xs0 ++ xs1) w) := by
  have HB := Lib.hid hb
  have H0 := Lib.hid h0
  have H1 := Lib.hid h1
  have HL := Lib.hid hl
  have GR := Lib.hid (grow_nil (xs0.length + xs1.length) (by omega))
  have l0 : (xs0.length : Int) ≤ 10000000 := by omega
  have l1 : (xs1.length : Int) ≤ 10000000 := by omega
  have l2 : (xs0.length : Int) + xs1.length ≤ 10000000 := by omega
  clear hb h0 h1 hl
  go_enter Tryd.func41, Tryd.ntmps41
  go_wp2
  go_loopw [3, 11] (fun s i wr => ∃ k : Nat, i = .int .i64 k ∧ Go.RowKit.Below w.heap.size w wr ∧ ((k = 0 ∧ s = .int .i64 0) ∨ (k = 1 ∧ s = .int .i64 xs0.length) ∨ (k = 2 ∧ s = .int .i64 ((xs0.length + xs1.length : Nat) : Int)))) (fun _ i _ => (2 : Int).toNat - (intOf i).toNat)
  case atStart => exact ⟨0, rfl, Go.RowKit.Below.refl _ _, .inl ⟨rfl, rfl⟩⟩
  case round =>
    obtain ⟨k, rfl, hB, hk⟩ := hrel
    have hbx := blk_below HB.out hB
    have p0 := (blk_cell hbx 0).trans rfl
    have p1 := (blk_cell hbx 1).trans rfl
    have KB := Lib.hid hB
    clear hbx hB
    rcases hk with ⟨rfl, rfl⟩ | ⟨rfl, rfl⟩ | ⟨rfl, rfl⟩
    · go_wp2
      go_roundw
      case rel => exact ⟨1, by go_num, KB.out, .inr (.inl ⟨rfl, by go_num⟩)⟩
      case measure => simp [intOf]
    · go_wp2
      go_roundw
      case rel => exact ⟨2, by go_num, KB.out, .inr (.inr ⟨rfl, by rw [Int.natCast_add]⟩)⟩
      case measure => simp [intOf]
    · clear p0 p1
      rw [Int.natCast_add] at GR ⊢
      go_upto_region 10 with (go_at_call 52; refine (GR.out _).mono ?_; rintro en w1 ⟨v1, rfl, hr, hb⟩; have HO := Lib.hid (Kd.R_lower (Kd.R_mono hr (fun j hj => Nat.le_trans KB.out.size hj)) KB.out.size); have KB := Lib.hid (below_step KB.out hb); clear hr hb)
      go_wp2
      go_loopw [6, 27] (fun u i wr => ∃ k : Nat, i = .int .i64 k ∧ Go.RowKit.Below w.heap.size w wr ∧ ((k = 0 ∧ k23.R 23 wr w.heap.size (fun j => w.heap.size ≤ j) u []) ∨ (k = 1 ∧ k23.R 23 wr w.heap.size (fun j => w.heap.size ≤ j) u xs0) ∨ (k = 2 ∧ k23.R 23 wr w.heap.size (fun j => w.heap.size ≤ j) u (xs0 ++ xs1)))) (fun _ i _ => (2 : Int).toNat - (intOf i).toNat)
      case atStart => exact ⟨0, rfl, KB.out, .inl ⟨rfl, HO.out⟩⟩
      case round =>
        clear KB HO
        obtain ⟨k, rfl, hB, hk⟩ := hrel
        have hbx := blk_below HB.out hB
        have p0 := (blk_cell hbx 0).trans rfl
        have p1 := (blk_cell hbx 1).trans rfl
        have KB := Lib.hid hB
        clear hbx hB
        rcases hk with ⟨rfl, hO⟩ | ⟨rfl, hO⟩ | ⟨rfl, hO⟩
        · have HO := Lib.hid hO
          clear hO
          go_wp2_with ((with_reducible refine gate_builtin (b := .append) (xs := #[.tmp 31, .tmp 32]) rfl ?_); at_builtin; refine Kd.R_append_rows k23 (w0 := w) w.heap.size rfl (.tmp 31) (.tmp 32) 28 23 (.agg #[(.int .i64 0), (.int .i64 0)]) 16 rfl Tryd.underlying28 info23 rfl (by decide) (by omega) u6 [] xs0 _ _ _ (fun j => w.heap.size ≤ j) (fun _ => False) rfl rfl HO.out (Kd.C_below H0.out KB.out) (fun _ _ h => h) (fun _ h => h.elim) (fun k hk => Nat.le_trans KB.out.size hk) KB.out KB.out.size (by have := HL.out; simp; omega) ?_; intro v7 w7 ho hb hg_ hat; rw [List.nil_append] at ho; have HO := Lib.hid ho; have KB := Lib.hid hb; clear ho hb hg_ hat)
          go_roundw
          case rel => exact ⟨1, by go_num, KB.out, .inr (.inl ⟨rfl, HO.out⟩)⟩
          case measure => simp [intOf]
        · have HO := Lib.hid hO
          clear hO
          go_wp2_with ((with_reducible refine gate_builtin (b := .append) (xs := #[.tmp 31, .tmp 32]) rfl ?_); at_builtin; refine Kd.R_append_rows k23 (w0 := w) w.heap.size rfl (.tmp 31) (.tmp 32) 28 23 (.agg #[(.int .i64 0), (.int .i64 0)]) 16 rfl Tryd.underlying28 info23 rfl (by decide) (by omega) u6 xs0 xs1 _ _ _ (fun j => w.heap.size ≤ j) (fun _ => False) rfl rfl HO.out (Kd.C_below H1.out KB.out) (fun _ _ h => h) (fun _ h => h.elim) (fun k hk => Nat.le_trans KB.out.size hk) KB.out KB.out.size (by have := HL.out; omega) ?_; intro v7 w7 ho hb hg_ hat; have HO := Lib.hid ho; have KB := Lib.hid hb; clear ho hb hg_ hat)
          go_roundw
          case rel => exact ⟨2, by go_num, KB.out, .inr (.inr ⟨rfl, HO.out⟩)⟩
          case measure => simp [intOf]
        · have HO := Lib.hid hO
          clear hO
          go_wp2
          go_ret
          exact ⟨_, rfl, HO.out, KB.out⟩
end Go.Proofs.YtcmicaheakkgdaaDoor.Dl

/- dot.choice.of, its two choices, dot.Union and dot.Minus. -/
namespace Go.Proofs.YtcmicaheakkgdaaDoor.Dl
open Go Go.RowKit Go.Proofs Go.Proofs.YtcmicaheakkgdaaDoorW.PrintWords Go.Proofs.YtcmicaheakkgdaaDoor.Kit Go.Proofs.YtcmicaheakkgdaaDoor.PAll
set_option linter.unusedSimpArgs false
set_option linter.unusedVariables false

theorem u1_any (d : S23) (w : World) : Calls Tryd.prog 39 #[.agg #[.int .i64 d.f0, .int .i64 d.f1]] w fun e w' => e = .returned (.bool true) ∧ Go.RowKit.Below w.heap.size w w' := by
  obtain ⟨d0, d1⟩ := d
  go_enter Tryd.func39, Tryd.ntmps39
  go_wp2
  go_ret
  exact ⟨rfl, by first | exact Go.RowKit.Below.refl _ _ | exact below_alloc (Go.RowKit.Below.refl _ _) _⟩
theorem take_filt (xs : List S23) (p : S23 → Bool) (k : Nat) (hk : k < xs.length) : (xs.take (k + 1)).filter p = (xs.take k).filter p ++ (if p (xs.getD k z23) then [xs.getD k z23] else []) := by
  have e : xs.getD k z23 = xs[k] := by rw [List.getD_eq_getElem?_getD, List.getElem?_eq_getElem hk]; rfl
  rw [e, List.take_succ_eq_append_getElem hk, List.filter_append]
  by_cases h : p xs[k] = true
  · rw [if_pos h]; simp [h]
  · rw [if_neg h]; simp [h]
theorem take_len (xs : List S23) (p : S23 → Bool) (k : Nat) : ((xs.take k).filter p).length ≤ xs.length := Nat.le_trans (List.length_filter_le _ _) (by rw [List.length_take]; exact Nat.min_le_right _ _)
set_option maxHeartbeats 8000000 in
set_option maxRecDepth 100000 in
theorem of_any (fn : Nat) (cb : Array Value) (p : S23 → Bool) (A : Option Addr) (c : Nat) (xs : List S23) (w : World) (hx : k23.C w A xs.length xs) (hl : xs.length * 16 ≤ 140737488355328)
    (eg : ∀ args w, (callFunc fn args).run Tryd.prog w = .ok (.enter fn args) w) (hf : ∀ (x : S23) (w' : World), Go.RowKit.Below w.heap.size w w' → Calls Tryd.prog fn (#[.agg #[.int .i64 x.f0, .int .i64 x.f1]] ++ cb) w' fun e w'' => e = .returned (.bool (p x)) ∧ Go.RowKit.Below w'.heap.size w' w'') :
    Calls Tryd.prog 40 #[.agg #[.func (.func fn) #[] cb], .slice A xs.length c] w (RowP (setD (xs.filter p)) w) := by
  have HX := Lib.hid hx
  have HF := Lib.hid hf
  clear hx hf
  go_enter Tryd.func40, Tryd.ntmps40
  go_wp2
  go_loopw [5, 10] (fun u i wr => ∃ k : Nat, k ≤ xs.length ∧ i = .int .i64 k ∧ k23.R 23 wr w.heap.size (fun j => w.heap.size < j) u ((xs.take k).filter p) ∧ Go.RowKit.Below w.heap.size w wr ∧ wr.heap[w.heap.size]? = some (.cells #[.func (.func fn) #[] cb] 49 (0, 0))) (fun _ i _ => xs.length - (intOf i).toNat)
  case atStart => exact ⟨0, Nat.zero_le _, rfl, Kd.R_nil _ _ _ _ _, below_alloc (Go.RowKit.Below.refl _ _) _, blk_new w _⟩
  case round =>
    obtain ⟨k, hk, rfl, hR, hB, hbk⟩ := hrel
    have RR := Lib.hid hR
    have KB := Lib.hid hB
    have BK := Lib.hid hbk
    clear hR hB hbk
    by_cases hlt : k < xs.length
    · obtain ⟨ad, eA, q0, q1⟩ := at_T23 (Kd.C_below HX.out KB.out) (k : Int) (by omega) (by omega)
      subst eA
      have hrd : rd_T23 xs (k : Int) = xs.getD k z23 := by unfold rd_T23; rw [Int.toNat_natCast]
      rw [hrd, Int.toNat_natCast] at q0 q1
      generalize hxd : xs.getD k z23 = x at q0 q1
      have X := Lib.hid hxd
      clear hrd hxd
      have p0 : (wr.alloc (.cells #[.int .i64 x.f0, .int .i64 x.f1] 23)).cell? ⟨w.heap.size, 0, none⟩ = some (.func (.func fn) #[] cb) := Lib.cell?_alloc_some _ ((blk_cell BK.out 0).trans rfl)
      have FX := Lib.hid (HF.out x)
      have TF := Lib.hid (take_filt xs p k hlt)
      have TL := Lib.hid (show (((xs.take k).filter p).length + 1) * 16 ≤ 140737488355328 by
        have h1 : ((xs.take k).filter p).length ≤ k := Nat.le_trans (List.length_filter_le _ _) (by rw [List.length_take]; exact Nat.min_le_left _ _)
        omega)
      have hwr : w.heap.size < wr.heap.size := blk_lt BK.out
      have ARM : ∀ W, Go.RowKit.Below w.heap.size w W → Calls Tryd.prog fn (#[.agg #[.int .i64 x.f0, .int .i64 x.f1]] ++ cb) W fun e w'' => e = .returned (.bool (p x)) ∧ Go.RowKit.Below W.heap.size W w'' := FX.out
      have AR := Lib.hid ARM
      clear ARM FX
      by_cases hp : p x = true
      · rw [hp] at AR
        have HP := Lib.hid hp
        clear hp
        go_wp2_with (first
          | (go_at_fn fn; refine (AR.out _ (below_alloc KB.out _)).mono ?_; rintro en w9 ⟨rfl, hb⟩; have BK9 := Lib.hid (blk_below (blk_below BK.out (below_alloc (Go.RowKit.Below.refl _ _) _)) hb); have D9 := blk_below (blk_new wr _) hb; have s0 := (blk_cell D9 0).trans rfl; have s1 := (blk_cell D9 1).trans rfl; have R9 := Lib.hid (Kd.R_below (Kd.R_alloc RR.out _) hb); have K9 := Lib.hid (below_step (below_alloc KB.out _) hb); clear hb D9)
          | (at_builtin; refine Kd.R_append k23 (w0 := w) (W := w9) w.heap.size rfl (.tmp 18) (.tmp 20) 28 23 (.agg #[.int .i64 0, .int .i64 0]) 16 rfl Tryd.underlying28 info23 rfl (by decide) (by decide) u5 ((xs.take k).filter p) x [.int .i64 x.f0, .int .i64 x.f1] (fun j => w.heap.size < j) (fun _ => False) (by rfl) (by rfl) (k23_mkM _ _ _ x) (fun _ h => h.elim) (fun j hj => Nat.lt_of_lt_of_le (blk_lt BK9.out) hj) R9.out K9.out K9.out.size TL.out ?_; intro v1 w1 hR2 hB2 hG2 _; have R2 := Lib.hid hR2; have B2 := Lib.hid hB2; have BK2 := Lib.hid (blk_grown BK9.out hG2 (fun q => absurd (R9.out.1 _ q.symm) (Nat.lt_irrefl _))); clear hR2 hB2 hG2))
        go_roundw
        case rel => exact ⟨k + 1, by omega, by go_num, by rw [TF.out, X.out, HP.out]; exact R2.out, B2.out, BK2.out⟩
        case measure => simp [intOf]; omega
      · have hp2 : p x = false := Bool.eq_false_iff.2 hp
        rw [hp2] at AR
        have HP := Lib.hid hp2
        clear hp hp2
        go_wp2_with (first
          | (go_at_fn fn; refine (AR.out _ (below_alloc KB.out _)).mono ?_; rintro en w9 ⟨rfl, hb⟩; have BK9 := Lib.hid (blk_below (blk_below BK.out (below_alloc (Go.RowKit.Below.refl _ _) _)) hb); have R9 := Lib.hid (Kd.R_below (Kd.R_alloc RR.out _) hb); have K9 := Lib.hid (below_step (below_alloc KB.out _) hb); clear hb))
        go_roundw
        case rel => exact ⟨k + 1, by omega, by go_num, by rw [TF.out, X.out, HP.out]; simpa using R9.out, K9.out, BK9.out⟩
        case measure => simp [intOf]; omega
    · obtain rfl : k = xs.length := by omega
      have R2 : k23.R 23 wr w.heap.size (fun j => w.heap.size < j) u5 (xs.filter p) := by have := RR.out; rwa [List.take_length] at this
      obtain ⟨A2, c2, rfl, hc2, hC2⟩ := Kd.R_reads R2
      have SA := Lib.hid (set_any A2 c2 (xs.filter p) wr hC2 (Nat.le_trans (Nat.mul_le_mul_right _ (List.length_filter_le _ _)) hl))
      clear R2 hC2
      go_wp2_with (go_at_call 15; refine SA.out.mono ?_; rintro en w9 ⟨v9, rfl, hv, hb⟩; have V9 := Lib.hid (Kd.R_lower hv KB.out.size); have K9 := Lib.hid (below_step KB.out hb); clear hv hb)
      go_ret
      exact ⟨_, rfl, V9.out, K9.out⟩
end Go.Proofs.YtcmicaheakkgdaaDoor.Dl

/- The reference's Union, Minus and Set. -/
namespace Go.Proofs.YtcmicaheakkgdaaDoor.Dl
open Go Go.RowKit Go.Proofs Go.Proofs.YtcmicaheakkgdaaDoorW.PrintWords Go.Proofs.YtcmicaheakkgdaaDoor.Kit Go.Proofs.YtcmicaheakkgdaaDoor.PAll
set_option linter.unusedSimpArgs false
set_option linter.unusedVariables false

theorem ins_len' (x : S23) : ∀ l : List S23, (insD x l).length ≤ l.length + 1
  | [] => Nat.le_refl _
  | y :: l => by
    unfold insD
    split
    · simp
    · split
      · have := ins_len' x l; simp; omega
      · simp
theorem set_len' : ∀ l : List S23, (setD l).length ≤ l.length
  | [] => Nat.le_refl _
  | x :: l => by
    have h1 := ins_len' x (setD l)
    have h2 := set_len' l
    show (insD x (setD l)).length ≤ l.length + 1
    omega
theorem take_set (xs : List S23) (k : Nat) (hk : k < xs.length) (ys : List S23) : insD (xs.getD k z23) (setD (ys ++ xs.take k)) = setD (ys ++ xs.take (k + 1)) := by
  rw [getDN xs k hk, ins_set, List.take_succ_eq_append_getElem hk, List.append_assoc]
set_option maxHeartbeats 4000000 in
set_option maxRecDepth 100000 in
theorem runion_any (A : Option Addr) (c : Nat) (xs : List S23) (A1 : Option Addr) (c1 : Nat) (ys : List S23) (w : World) (hx : k23.C w A xs.length xs) (hy : k23.C w A1 ys.length ys) (hl : xs.length + ys.length ≤ 100000) :
    Calls Tryd.prog 23 #[.slice A xs.length c, .slice A1 ys.length c1] w (WithP (unionD xs ys) w.heap.size w) := by
  have HX := Lib.hid hx
  have HY := Lib.hid hy
  clear hx hy
  go_enter Tryd.func23, Tryd.ntmps23
  go_wp2
  go_loopw [5, 6] (fun u i wr => ∃ k : Nat, k ≤ xs.length ∧ i = .int .i64 k ∧ k23.R 23 wr w.heap.size (fun _ => True) u (setD (xs.take k)) ∧ Go.RowKit.Below w.heap.size w wr) (fun _ i _ => xs.length - (intOf i).toNat)
  case atStart => exact ⟨0, Nat.zero_le _, rfl, Kd.R_nil _ _ _ _ _, Go.RowKit.Below.refl _ _⟩
  case round =>
    obtain ⟨k, hk, rfl, hR, hB⟩ := hrel
    have RR := Lib.hid hR
    have KB := Lib.hid hB
    clear hR hB
    by_cases hlt : k < xs.length
    · obtain ⟨ad, eA, q0, q1⟩ := at_T23 (Kd.C_below HX.out KB.out) (k : Int) (by omega) (by omega)
      subst eA
      rw [rdN, Int.toNat_natCast] at q0 q1
      have hts := take_set xs k hlt []
      rw [List.nil_append, List.nil_append] at hts
      have TS := Lib.hid hts
      have WI := Lib.hid (with_any u5 (setD (xs.take k)) (xs.getD k z23) w.heap.size wr KB.out.size RR.out (srt_set _) (Nat.le_trans (set_len' _) (by rw [List.length_take]; omega)))
      clear hts
      generalize xs.getD k z23 = x at q0 q1 TS WI
      go_wp2_with (go_at_call 42; refine WI.out.mono ?_; rintro en w9 ⟨v9, rfl, hv, hb⟩; have V9 := Lib.hid hv; have K9 := Lib.hid (KB.out.trans hb); clear hv hb)
      go_roundw
      case rel => exact ⟨k + 1, by omega, by go_num, by rw [← TS.out]; exact V9.out, K9.out⟩
      case measure => simp [intOf]; omega
    · obtain rfl : k = xs.length := by omega
      have R2 := RR.out
      rw [List.take_length] at R2
      have R2 := Lib.hid R2
      have KB1 := Lib.hid KB.out
      clear RR KB
      go_wp2
      go_loopw [5, 7] (fun u i wr => ∃ k : Nat, k ≤ ys.length ∧ i = .int .i64 k ∧ k23.R 23 wr w.heap.size (fun _ => True) u (setD (xs ++ ys.take k)) ∧ Go.RowKit.Below w.heap.size w wr) (fun _ i _ => ys.length - (intOf i).toNat)
      case atStart => exact ⟨0, Nat.zero_le _, rfl, by rw [List.take_zero, List.append_nil]; exact R2.out, KB1.out⟩
      case round =>
        clear R2 KB1
        obtain ⟨k, hk, rfl, hR, hB⟩ := hrel
        have RR := Lib.hid hR
        have KB := Lib.hid hB
        clear hR hB
        by_cases hlt : k < ys.length
        · obtain ⟨ad, eA, q0, q1⟩ := at_T23 (Kd.C_below HY.out KB.out) (k : Int) (by omega) (by omega)
          subst eA
          rw [rdN, Int.toNat_natCast] at q0 q1
          have TS := Lib.hid (take_set ys k hlt xs)
          have LL := Lib.hid (show (setD (xs ++ ys.take k)).length ≤ 100000 from Nat.le_trans (set_len' _) (by rw [List.length_append, List.length_take]; omega))
          have WI := Lib.hid (fun v W hw h => with_any v (setD (xs ++ ys.take k)) (ys.getD k z23) w.heap.size W hw h (srt_set _) LL.out)
          generalize ys.getD k z23 = x at q0 q1 TS WI
          go_wp2_with (go_at_call 42; refine (WI.out _ _ KB.out.size RR.out).mono ?_; rintro en w9 ⟨v9, rfl, hv, hb⟩; have V9 := Lib.hid hv; have K9 := Lib.hid (KB.out.trans hb); clear hv hb)
          go_roundw
          case rel => exact ⟨k + 1, by omega, by go_num, by rw [← TS.out]; exact V9.out, K9.out⟩
          case measure => simp [intOf]; omega
        · obtain rfl : k = ys.length := by omega
          have R3 := RR.out
          rw [List.take_length] at R3
          have R3 := Lib.hid R3
          clear RR
          go_wp2
          go_ret
          exact ⟨_, rfl, R3.out, KB.out⟩
set_option maxHeartbeats 4000000 in
set_option maxRecDepth 100000 in
theorem rset_any (A : Option Addr) (c : Nat) (xs : List S23) (w : World) (hx : k23.C w A xs.length xs) (hl : xs.length ≤ 100000) :
    Calls Tryd.prog 19 #[.slice A xs.length c] w (WithP (setD xs) w.heap.size w) := by
  have U := Lib.hid (runion_any A c xs none 0 [] w hx (Kd.C_nil _ _) (by simpa using hl))
  have e : unionD xs [] = setD xs := by unfold unionD; rw [List.append_nil]
  rw [e] at U
  clear hx e
  go_enter Tryd.func19, Tryd.ntmps19
  go_wp2_with (go_at_call 23; refine U.out.mono ?_; rintro en w9 ⟨v9, rfl, hv, hb⟩; have V9 := Lib.hid hv; have K9 := Lib.hid hb; clear hv hb)
  go_ret
  exact ⟨_, rfl, V9.out, K9.out⟩
set_option maxHeartbeats 4000000 in
set_option maxRecDepth 100000 in
theorem rminus_any (A : Option Addr) (c : Nat) (xs : List S23) (A1 : Option Addr) (c1 : Nat) (ys : List S23) (w : World) (hx : k23.C w A xs.length xs) (hy : k23.C w A1 ys.length ys) (hc1 : ys.length ≤ c1) (hl : xs.length + ys.length ≤ 100000) :
    Calls Tryd.prog 25 #[.slice A xs.length c, .slice A1 ys.length c1] w (WithP (minusD xs ys) w.heap.size w) := by
  have HX := Lib.hid hx
  have HAS := Lib.hid (fun d W hW => has_be A1 c1 ys d W (Kd.C_below hy hW) hc1 (by omega))
  clear hx hy
  go_enter Tryd.func25, Tryd.ntmps25
  go_wp2
  go_loopw [5, 6] (fun u i wr => ∃ k : Nat, k ≤ xs.length ∧ i = .int .i64 k ∧ k23.R 23 wr w.heap.size (fun _ => True) u (setD ((xs.take k).filter fun z => decide (z ∉ ys))) ∧ Go.RowKit.Below w.heap.size w wr) (fun _ i _ => xs.length - (intOf i).toNat)
  case atStart => exact ⟨0, Nat.zero_le _, rfl, Kd.R_nil _ _ _ _ _, Go.RowKit.Below.refl _ _⟩
  case round =>
    obtain ⟨k, hk, rfl, hR, hB⟩ := hrel
    have RR := Lib.hid hR
    have KB := Lib.hid hB
    clear hR hB
    by_cases hlt : k < xs.length
    · obtain ⟨ad, eA, q0, q1⟩ := at_T23 (Kd.C_below HX.out KB.out) (k : Int) (by omega) (by omega)
      subst eA
      rw [rdN, Int.toNat_natCast] at q0 q1
      have TF := Lib.hid (take_filt xs (fun z => decide (z ∉ ys)) k hlt)
      have LL := Lib.hid (show (setD ((xs.take k).filter fun z => decide (z ∉ ys))).length ≤ 100000 from Nat.le_trans (set_len' _) (Nat.le_trans (take_len _ _ _) (by omega)))
      have WI := Lib.hid (fun v W hw h => with_any v (setD ((xs.take k).filter fun z => decide (z ∉ ys))) (xs.getD k z23) w.heap.size W hw h (srt_set _) LL.out)
      have HA := Lib.hid (HAS.out (xs.getD k z23))
      generalize xs.getD k z23 = x at q0 q1 TF WI HA
      by_cases hm : x ∈ ys
      · have hb : decide (x ∈ ys) = true := decide_eq_true hm
        rw [hb] at HA
        have TG := Lib.hid (show (xs.take (k + 1)).filter (fun z => decide (z ∉ ys)) = (xs.take k).filter (fun z => decide (z ∉ ys)) by rw [TF.out, if_neg (by simp [hm]), List.append_nil])
        clear hb hm
        go_wp2_with (go_at_call 21; refine (HA.out _ KB.out).mono ?_; rintro en w9 ⟨rfl, hb⟩; have R9 := Lib.hid (Kd.R_below RR.out hb); have K9 := Lib.hid (below_step KB.out hb); clear hb)
        go_roundw
        case rel => exact ⟨k + 1, by omega, by go_num, by rw [TG.out]; exact R9.out, K9.out⟩
        case measure => simp [intOf]; omega
      · have hb : decide (x ∈ ys) = false := decide_eq_false hm
        rw [hb] at HA
        have TG := Lib.hid (show setD ((xs.take (k + 1)).filter (fun z => decide (z ∉ ys))) = insD x (setD ((xs.take k).filter (fun z => decide (z ∉ ys)))) by rw [TF.out, if_pos (by simp [hm]), ins_set])
        clear hb hm
        go_wp2_with (first
          | (go_at_call 21; refine (HA.out _ KB.out).mono ?_; rintro en w9 ⟨rfl, hb⟩; have q0 := keepC q0 hb; have q1 := keepC q1 hb; have R9 := Lib.hid (Kd.R_below RR.out hb); have K9 := Lib.hid (below_step KB.out hb); clear hb)
          | (go_at_call 42; refine (WI.out _ _ K9.out.size R9.out).mono ?_; rintro en w8 ⟨v8, rfl, hv, hb⟩; have V8 := Lib.hid hv; have K8 := Lib.hid (K9.out.trans hb); clear hv hb))
        go_roundw
        case rel => exact ⟨k + 1, by omega, by go_num, by rw [TG.out]; exact V8.out, K8.out⟩
        case measure => simp [intOf]; omega
    · obtain rfl : k = xs.length := by omega
      have R3 := RR.out
      rw [List.take_length] at R3
      have R3 := Lib.hid R3
      clear RR
      go_wp2
      go_ret
      exact ⟨_, rfl, R3.out, KB.out⟩
end Go.Proofs.YtcmicaheakkgdaaDoor.Dl

/- dot.Union and dot.Minus. -/
namespace Go.Proofs.YtcmicaheakkgdaaDoor.Dl
open Go Go.RowKit Go.Proofs Go.Proofs.YtcmicaheakkgdaaDoorW.PrintWords Go.Proofs.YtcmicaheakkgdaaDoor.Kit Go.Proofs.YtcmicaheakkgdaaDoor.PAll
set_option linter.unusedSimpArgs false
set_option linter.unusedVariables false

set_option maxHeartbeats 1000000 in
set_option maxRecDepth 100000 in
theorem m1_any (g : Nat) (A : Option Addr) (c : Nat) (ys : List S23) (d : S23) (w : World) (hc : w.cell? ⟨g, 0, none⟩ = some (.slice A ys.length c)) (hx : k23.C w A ys.length ys) (hl : ys.length < 4611686018427387904) (hs : Srt ys) :
    Calls Tryd.prog 43 #[.agg #[.int .i64 d.f0, .int .i64 d.f1], .pointer (some ⟨g, 0, none⟩)] w fun e w' => e = .returned (.bool (decide (d ∉ ys))) ∧ Go.RowKit.Below w.heap.size w w' := by
  have hb : (decide (d ∈ ys)) = true ↔ d ∈ ys := decide_eq_true_iff
  have BS := Lib.hid (fun W hW => bs_any A c ys d W (Kd.C_below hx hW) hl hs (decide (d ∈ ys)) hb)
  have hn : decide (d ∉ ys) = !decide (d ∈ ys) := by by_cases q : d ∈ ys <;> simp [q]
  rw [hn]
  have HC := Lib.hid hc
  generalize decide (d ∈ ys) = b at BS
  clear hx hs hb hn hc
  obtain ⟨d0, d1⟩ := d
  have p0 : (w.alloc (.cells #[.int .i64 d0, .int .i64 d1] 23)).cell? ⟨g, 0, none⟩ = some (.slice A ys.length c) := Lib.cell?_alloc_some _ HC.out
  go_enter Tryd.func43, Tryd.ntmps43
  go_wp2_with (go_at_call 44; refine (BS.out _ (below_alloc (Go.RowKit.Below.refl _ _) _)).mono ?_; rintro en w1 ⟨i, rfl, hb⟩; have K1 := Lib.hid (below_step (below_alloc (Go.RowKit.Below.refl _ _) _) hb); clear hb)
  go_ret
  exact ⟨rfl, K1.out⟩
theorem ins_len (x : S23) : ∀ l : List S23, (insD x l).length ≤ l.length + 1
  | [] => Nat.le_refl _
  | y :: l => by
    unfold insD
    split
    · simp
    · split
      · have := ins_len x l; simp; omega
      · simp
theorem set_len : ∀ l : List S23, (setD l).length ≤ l.length
  | [] => Nat.le_refl _
  | x :: l => by
    have h1 := ins_len x (setD l)
    have h2 := set_len l
    show (insD x (setD l)).length ≤ l.length + 1
    omega
theorem of_true (A2 : Option Addr) (c2 : Nat) (xs ys : List S23) (W : World) (hC : k23.C W A2 (xs ++ ys).length (xs ++ ys)) (hl : xs.length + ys.length ≤ 1000000) :
    Calls Tryd.prog 40 #[.agg #[.func (.func 39) #[] #[]], .slice A2 (xs ++ ys).length c2] W (RowP (unionD xs ys) W) := by
  have eg : ∀ args w, (callFunc 39 args).run Tryd.prog w = .ok (.enter 39 args) w := enters_of Tryd.func39 (by kernel_rfl) rfl
  have HU : ∀ (x : S23) (w' : World), Go.RowKit.Below W.heap.size W w' → Calls Tryd.prog 39 (#[.agg #[.int .i64 x.f0, .int .i64 x.f1]] ++ #[]) w' fun e w'' => e = .returned (.bool true) ∧ Go.RowKit.Below w'.heap.size w' w'' := fun x w' _ => by rw [Array.append_empty]; exact u1_any x w'
  have e : (xs ++ ys).filter (fun _ => true) = xs ++ ys := List.filter_eq_self.2 (fun _ _ => rfl)
  have q := of_any 39 #[] (fun _ => true) A2 c2 (xs ++ ys) W hC (by rw [List.length_append]; omega) eg HU
  rw [e] at q
  exact q
theorem of_minus (A : Option Addr) (c : Nat) (xs ys : List S23) (A2 : Option Addr) (c2 : Nat) (T : Nat) (W : World) (hx : k23.C (W.alloc (.cells #[.slice A2 (setD ys).length c2] T)) A xs.length xs) (hC : k23.C W A2 (setD ys).length (setD ys)) (hl : xs.length + ys.length ≤ 1000000) (hs : (setD ys).length < 4611686018427387904) :
    Calls Tryd.prog 40 #[.agg #[.func (.func 43) #[] #[.pointer (some ⟨W.heap.size, 0, none⟩)]], .slice A xs.length c] (W.alloc (.cells #[.slice A2 (setD ys).length c2] T)) (RowP (minusD xs ys) (W.alloc (.cells #[.slice A2 (setD ys).length c2] T))) := by
  have eg : ∀ args w, (callFunc 43 args).run Tryd.prog w = .ok (.enter 43 args) w := enters_of Tryd.func43 (by kernel_rfl) rfl
  have hc : (W.alloc (.cells #[.slice A2 (setD ys).length c2] T)).cell? ⟨W.heap.size, 0, none⟩ = some (.slice A2 (setD ys).length c2) := (blk_cell (blk_new W _) 0).trans rfl
  have hC2 := Kd.C_alloc hC (.cells #[.slice A2 (setD ys).length c2] T)
  have hf : xs.filter (fun z => decide (z ∉ setD ys)) = xs.filter (fun z => decide (z ∉ ys)) := List.filter_congr fun z _ => decide_eq_decide.2 (not_congr mem_set)
  generalize W.alloc (.cells #[.slice A2 (setD ys).length c2] T) = V at *
  have q := of_any 43 #[.pointer (some ⟨W.heap.size, 0, none⟩)] (fun z => decide (z ∉ setD ys)) A c xs V hx (by omega) eg (fun x w' hB => m1_any W.heap.size A2 c2 (setD ys) x w' (keepC hc hB) (Kd.C_below hC2 hB) hs (srt_set ys))
  rw [hf] at q
  exact q
set_option maxHeartbeats 1000000 in
set_option maxRecDepth 100000 in
theorem union_any (A : Option Addr) (c : Nat) (xs : List S23) (A1 : Option Addr) (c1 : Nat) (ys : List S23) (w : World) (hx : k23.C w A xs.length xs) (hy : k23.C w A1 ys.length ys) (hl : xs.length + ys.length ≤ 1000000) :
    Calls Tryd.prog 22 #[.slice A xs.length c, .slice A1 ys.length c1] w (RowP (unionD xs ys) w) := by
  have HX := Lib.hid hx
  have HY := Lib.hid hy
  clear hx hy
  have cc := fun T W hb h1 h2 => concat_two w.heap.size T A c xs A1 c1 ys W hb h1 h2 (by omega)
  have of := fun A2 c2 W hC => of_true A2 c2 xs ys W hC hl
  generalize unionD xs ys = us at of ⊢
  generalize xs ++ ys = zs at cc of
  have CC := Lib.hid cc
  have OF := Lib.hid of
  clear cc of
  go_enter Tryd.func22, Tryd.ntmps22
  go_wp2_with (first
    | (go_at_call 41; refine (CC.out _ _ (blk_new w _) (Kd.C_alloc HX.out _) (Kd.C_alloc HY.out _)).mono ?_; rintro en w1 ⟨v, rfl, hv, hb⟩; obtain ⟨A2, c2, rfl, hc2, hC2⟩ := Kd.R_reads hv; have V1 := Lib.hid hC2; have K1 := Lib.hid (below_step (below_alloc (Go.RowKit.Below.refl _ _) _) hb); clear hv hb hC2)
    | (go_at_call 40; refine (OF.out A2 c2 w1 V1.out).mono ?_; rintro en w3 ⟨v3, rfl, hv3, hb3⟩; have V3 := Lib.hid (Kd.R_lower hv3 K1.out.size); have K3 := Lib.hid (below_step K1.out hb3); clear hv3 hb3))
  go_ret
  exact ⟨_, rfl, V3.out, K3.out⟩
set_option maxHeartbeats 1000000 in
set_option maxRecDepth 100000 in
theorem minus_any (A : Option Addr) (c : Nat) (xs : List S23) (A1 : Option Addr) (c1 : Nat) (ys : List S23) (w : World) (hx : k23.C w A xs.length xs) (hy : k23.C w A1 ys.length ys) (hl : xs.length + ys.length ≤ 1000000) :
    Calls Tryd.prog 24 #[.slice A xs.length c, .slice A1 ys.length c1] w (RowP (minusD xs ys) w) := by
  have HX := Lib.hid hx
  have LS := Lib.hid (set_len ys)
  have SB := Lib.hid (fun W hW => set_any A1 c1 ys W (Kd.C_below hy hW) (by omega))
  have eg : ∀ args w, (callFunc 43 args).run Tryd.prog w = .ok (.enter 43 args) w := enters_of Tryd.func43 (by kernel_rfl) rfl
  clear hy hx
  go_enter Tryd.func24, Tryd.ntmps24
  go_wp2_with (first
    | (go_at_call 15; refine (SB.out _ (by first | exact Go.RowKit.Below.refl _ _ | exact below_alloc (Go.RowKit.Below.refl _ _) _)).mono ?_; rintro en w9 ⟨v9, rfl, hv, hb⟩; obtain ⟨A2, c2, rfl, hc2, hC2⟩ := Kd.R_reads hv; have V9 := Lib.hid hC2; have K9 := Lib.hid hb; clear hv hb hC2)
    | (go_at_call 40; refine (of_minus A c xs ys A2 c2 _ w9 (Kd.C_alloc (Kd.C_below HX.out K9.out) _) V9.out hl (by have := V9.out.2.1; have := V9.out.1; have := LS.out; omega)).mono ?_; rintro en w3 ⟨v3, rfl, hv3, hb3⟩; have K4 := below_alloc K9.out (.cells #[.slice A2 (setD ys).length c2] 28); have V3 := Lib.hid (Kd.R_lower hv3 K4.size); have K3 := Lib.hid (below_step K4 hb3); clear hv3 hb3 K4))
  go_ret
  exact ⟨_, rfl, V3.out, K3.out⟩
end Go.Proofs.YtcmicaheakkgdaaDoor.Dl
