/- Version vectors, plain law: VectorHolds answers true. -/
/- Layer 5: the call of VectorHolds at read arguments. -/
import Derived.Test.YtnbjkpfpcggopaaGreatDoorEh
import Derived.Test.YtnbjkpfpcggopaaGreatDoorPAllx8
import Derived.Test.YtnbjkpfpcggopaaGreatDoorEb4
namespace Go.Proofs.YtnbjkpfpcggopaaGreatDoor.Ev
open Go Go.RowKit Go.Proofs Go.Proofs.YtnbjkpfpcggopaaGreatDoorW.PrintWords Go.Proofs.YtnbjkpfpcggopaaGreatDoor.PAll Go.Proofs.YtnbjkpfpcggopaaGreatDoor.Dl Go.Proofs.YtnbjkpfpcggopaaGreatDoor.Dx
set_option linter.unusedSimpArgs false
set_option linter.unusedVariables false

theorem dt_sp {r c : Int} (h : okDot r c ∨ (r = 0 ∧ c = 0)) : ∀ x ∈ dtL r c, x ≠ 32 := by
  intro x hx q
  subst q
  rcases h with h | ⟨rfl, rfl⟩
  · rw [dtL_dot h, List.mem_append, List.mem_cons] at hx
    rcases hx with hx | hx | hx
    · exact absurd (dec_digit _ _ hx) (by decide)
    · exact absurd hx (by decide)
    · exact absurd (dec_digit _ _ hx) (by decide)
  · exact absurd hx (by decide)
theorem spl_tl : ∀ (l : List S25) (a : List UInt8), (∀ x ∈ a, x ≠ 32) → (∀ x ∈ l, okS x) → spl (a ++ tlL l) = a :: l.map (fun x => dtL x.f0 x.f1)
  | [], a, ha, _ => by
    show spl (a ++ []) = [a]
    rw [List.append_nil]
    exact spl_none a ha
  | y :: l, a, ha, h => by
    have e : tlL (y :: l) = 32 :: (dtL y.f0 y.f1 ++ tlL l) := rfl
    rw [e, spl_at a _ ha, spl_tl l _ (dt_sp (.inl (h y List.mem_cons_self))) (fun x hx => h x (List.mem_cons_of_mem _ hx))]
    rfl
theorem dots_back : ∀ (l : List S25), (∀ x ∈ l, okS x) → dotsB ((l.map (fun x => dtL x.f0 x.f1)).map bsOf) = l
  | [], _ => rfl
  | x :: l, h => by
    have ho := h x List.mem_cons_self
    have e1 : dotP (bsOf (dtL x.f0 x.f1)) = (x.f0, x.f1, 0) := dotP_yes ho
    show (⟨(dotP (bsOf (dtL x.f0 x.f1))).1, (dotP (bsOf (dtL x.f0 x.f1))).2.1⟩ : S25) :: dotsB ((l.map (fun x => dtL x.f0 x.f1)).map bsOf) = x :: l
    rw [e1, dots_back l (fun y hy => h y (List.mem_cons_of_mem _ hy))]
theorem back {l : List S25} (h : VOk l) : vecP ⟨(vtL l).toArray⟩ = (l, 0) := by
  cases l with
  | nil => rfl
  | cons x l =>
    have ho := h.2 x List.mem_cons_self
    have ed : (⟨(vtL (x :: l)).toArray⟩ : ByteArray).data.toList = dtL x.f0 x.f1 ++ tlL l := rfl
    have h46 : (46 : UInt8) ∈ dtL x.f0 x.f1 := by
      rw [dtL_dot ho]
      simp
    have hne : (⟨(vtL (x :: l)).toArray⟩ : ByteArray).data.toList ≠ [45] := fun q => by
      rw [ed] at q
      have : (46 : UInt8) ∈ [(45 : UInt8)] := by rw [← q]; exact List.mem_append.2 (.inl h46)
      exact absurd this (by decide)
    have eb : dotsB (splB ⟨(vtL (x :: l)).toArray⟩) = x :: l := by
      unfold splB
      rw [ed, spl_tl l _ (dt_sp (.inl ho)) (fun y hy => h.2 y (List.mem_cons_of_mem _ hy))]
      exact dots_back (x :: l) h.2
    unfold vecP
    rw [if_neg hne, eb, if_pos h]
theorem vt_len2 {l : List S25} (h : ∀ x ∈ l, okS x) (hl : l.length ≤ 40) : (⟨(vtL l).toArray⟩ : ByteArray).size ≤ 900 := by
  show (vtL l).toArray.size ≤ 900
  rw [List.size_toArray]
  have := vt_len h
  omega
theorem ho_j3 (k : Nat) (hk : 1001 ≤ k) (a : List S25) (ha : a.length ≤ 40) (h : VOk a) : redpencillaw05_VectorHolds.j3 k a false = some true := by
  obtain ⟨k, rfl⟩ : ∃ j, k = j + 1 := ⟨k - 1, by omega⟩
  have et : vector_Text.f a = some (⟨(vtL a).toArray⟩, 0) := by
    unfold vector_Text.f vecT
    rw [if_pos (by omega), if_pos h]
  have hz := vt_len2 h.2 ha
  rw [redpencillaw05_VectorHolds.j3, if_neg (by decide), et, Option.bind_some, if_pos rfl, vparses_f k ⟨(vtL a).toArray⟩ a 0 (by omega) (by omega), decide_eq_true (back h), Option.bind_some, if_pos rfl]
  exact then_known (by omega)
theorem ho_j2 (k : Nat) (hk : 1010 ≤ k) (a b : List S25) (ha : a.length ≤ 40) (hb : b.length ≤ 40) (h1 : VOk a) (h2 : VOk b) (p q : Int) : redpencillaw05_VectorHolds.j2 k a b (mergeV a b) false p q = some true := by
  obtain ⟨k, rfl⟩ : ∃ j, k = j + 1 := ⟨k - 1, by omega⟩
  have hz := len_merge a b
  have h12 := ok_merge h1 h2.2
  have em : mergeV a (mergeV a b) = mergeV a b := v_ext (ok_merge h1 h12.2) h12 fun r => by rw [get_merge' h1 h12, get_merge' h1 h2]; omega
  have eo : vector_Order.f a (mergeV a b) = some (if a = mergeV a b then 0 else -1, 0) := by
    unfold vector_Order.f ordT
    rw [if_pos (by omega), if_pos ⟨h1, h12⟩, if_pos em]
  have hm := has_merge h1 h2 ⟨p, q⟩
  have fin : ((redpencillaw05_VectorHolds.j3 k a (decide (hasV (mergeV a b) ⟨p, q⟩) != (decide (hasV a ⟨p, q⟩) || decide (hasV b ⟨p, q⟩))))) = some true := by
    have e : (decide (hasV (mergeV a b) ⟨p, q⟩) != (decide (hasV a ⟨p, q⟩) || decide (hasV b ⟨p, q⟩))) = false := by
      by_cases x : hasV a ⟨p, q⟩ <;> by_cases y : hasV b ⟨p, q⟩ <;> simp [hm, x, y]
    rw [e]
    exact ho_j3 k (by omega) a ha h1
  have rest : ((vector_Has.f (mergeV a b) p q).bind fun t => (vector_Has.f a p q).bind fun t2 => if t2 = true then redpencillaw05_VectorHolds.j3 k a (t != true) else (vector_Has.f b p q).bind fun t3 => redpencillaw05_VectorHolds.j3 k a (t != t3)) = some true := by
    rw [vhas_f _ (by omega), Option.bind_some, vhas_f a (by omega), Option.bind_some]
    by_cases x : hasV a ⟨p, q⟩
    · rw [decide_eq_true x, if_pos rfl]
      rw [decide_eq_true x, Bool.true_or] at fin
      exact fin
    · rw [decide_eq_false x, if_neg (by decide), vhas_f b (by omega), Option.bind_some]
      rw [decide_eq_false x, Bool.false_or] at fin
      exact fin
  rw [redpencillaw05_VectorHolds.j2, if_neg (by decide), eo, Option.bind_some, if_pos rfl]
  by_cases e : a = mergeV a b
  · rw [if_pos e]
    show (if (0 : Int) = 0 then _ else _) = _
    rw [if_pos rfl, same_val a _ (by omega) k (by omega), decide_eq_true e, Option.bind_some]
    show (if (((0 : Int) == 0) != true) = true then _ else _) = _
    rw [if_neg (by decide)]
    exact rest
  · rw [if_neg e]
    show (if (-1 : Int) = 0 then _ else _) = _
    rw [if_neg (by decide)]
    show (if (-1 : Int) = -1 then _ else _) = _
    rw [if_pos rfl, same_val a _ (by omega) k (by omega), decide_eq_false e, Option.bind_some]
    show (if (((-1 : Int) == 0) != false) = true then _ else _) = _
    rw [if_neg (by decide)]
    exact rest
theorem ho_j0f (k : Nat) (hk : 1020 ≤ k) (a b c : List S25) (ha : a.length ≤ 40) (hb : b.length ≤ 40) (hc : c.length ≤ 40) (h1 : VOk a) (h2 : VOk b) (h3 : VOk c) (p q : Int) : redpencillaw05_VectorHolds.j0 k a b c false p q = some true := by
  obtain ⟨k, rfl⟩ : ∃ j, k = j + 1 := ⟨k - 1, by omega⟩
  obtain ⟨k, rfl⟩ : ∃ j, k = j + 1 := ⟨k - 1, by omega⟩
  have z1 := len_merge a b
  have z2 := len_merge b c
  have h12 := ok_merge h1 h2.2
  have h23 := ok_merge h2 h3.2
  have m1 : vector_Merge.f a b = some (mergeV a b, 0) := by unfold vector_Merge.f mrgV; rw [if_pos (by omega), if_pos ⟨h1, h2⟩]
  have m2 : vector_Merge.f b c = some (mergeV b c, 0) := by unfold vector_Merge.f mrgV; rw [if_pos (by omega), if_pos ⟨h2, h3⟩]
  have m3 : vector_Merge.f (mergeV a b) c = some (mergeV (mergeV a b) c, 0) := by unfold vector_Merge.f mrgV; rw [if_pos (by omega), if_pos ⟨h12, h3⟩]
  have e1 : mrgV b a = (mergeV a b, 0) := by unfold mrgV; rw [if_pos ⟨h2, h1⟩, merge_comm h2 h1]
  have e2 : mrgV a a = (a, 0) := by unfold mrgV; rw [if_pos ⟨h1, h1⟩, merge_self h1]
  have e3 : mrgV a (mergeV b c) = (mergeV (mergeV a b) c, 0) := by unfold mrgV; rw [if_pos ⟨h1, h23⟩, merge_assoc h1 h2 h3]
  rw [redpencillaw05_VectorHolds.j0, if_neg (by decide), m1, Option.bind_some, m2, Option.bind_some, if_pos rfl, if_pos rfl, merged_f (k + 1) b a (mergeV a b) 0 (by omega) (by omega), decide_eq_true e1, Option.bind_some, if_pos rfl, merged_f (k + 1) a a a 0 (by omega) (by omega), decide_eq_true e2, Option.bind_some, if_pos rfl, valid_f (mergeV a b) (by omega), decide_eq_true h12, Option.bind_some]
  show redpencillaw05_VectorHolds.j1 (k + 1) a b c (mergeV a b) (mergeV b c) false p q = _
  rw [redpencillaw05_VectorHolds.j1, if_neg (by decide), m3, Option.bind_some, if_pos rfl, merged_f k a (mergeV b c) (mergeV (mergeV a b) c) 0 (by omega) (by omega), decide_eq_true e3, Option.bind_some]
  exact ho_j2 k (by omega) a b ha hb h1 h2 p q
theorem ho_j0t (k : Nat) (hk : 100 ≤ k) (a b c : List S25) (p q : Int) : redpencillaw05_VectorHolds.j0 k a b c true p q = some true := by
  obtain ⟨k, rfl⟩ : ∃ j, k = j + 1 := ⟨k - 1, by omega⟩
  rw [redpencillaw05_VectorHolds.j0, if_pos rfl]
  exact then_known (by omega)
theorem Holds_f (a b c : List S25) (p q : Int) : redpencillaw05_VectorHolds.f 2000 a b c p q = some true := by
  unfold redpencillaw05_VectorHolds.f
  by_cases x1 : (a.length : Int) > 40
  · rw [if_pos x1]; exact ho_j0t _ (by decide) a b c p q
  · rw [if_neg x1]
    by_cases x2 : (b.length : Int) > 40
    · rw [if_pos x2]; exact ho_j0t _ (by decide) a b c p q
    · rw [if_neg x2]
      by_cases x3 : (c.length : Int) > 40
      · rw [if_pos x3]; exact ho_j0t _ (by decide) a b c p q
      · rw [if_neg x3, valid_f a (by omega), Option.bind_some]
        by_cases h1 : VOk a
        · rw [decide_eq_true h1, if_pos rfl, valid_f b (by omega), Option.bind_some]
          by_cases h2 : VOk b
          · rw [decide_eq_true h2, if_pos rfl, valid_f c (by omega), Option.bind_some]
            by_cases h3 : VOk c
            · rw [decide_eq_true h3]; exact ho_j0f _ (by decide) a b c (by omega) (by omega) (by omega) h1 h2 h3 p q
            · rw [decide_eq_false h3]; exact ho_j0t _ (by decide) a b c p q
          · rw [decide_eq_false h2, if_neg (by decide)]; exact ho_j0t _ (by decide) a b c p q
        · rw [decide_eq_false h1, if_neg (by decide)]; exact ho_j0t _ (by decide) a b c p q
end Go.Proofs.YtnbjkpfpcggopaaGreatDoor.Ev

namespace Go.Proofs.YtnbjkpfpcggopaaGreatDoor.Ev
open Go Go.RowKit Go.Proofs Go.Proofs.YtnbjkpfpcggopaaGreatDoor.Kit Go.Proofs.YtnbjkpfpcggopaaGreatDoor.PAll Go.Proofs.YtnbjkpfpcggopaaGreatDoorW.PrintWords Go.Proofs.YtnbjkpfpcggopaaGreatDoor.Dl
set_option linter.unusedSimpArgs false
set_option linter.unusedVariables false

theorem holds_walk (A0 : Option Addr) (c0 : Nat) (l0 : List S25) (A1 : Option Addr) (c1 : Nat) (l1 : List S25) (A2 : Option Addr) (c2 : Nat) (l2 : List S25) (v3 : Value) (x3 : S25) (W : World) (hG : GOK W) (h0 : k25.C W A0 l0.length l0) (hc0 : l0.length ≤ c0) (h1 : k25.C W A1 l1.length l1) (hc1 : l1.length ≤ c1) (h2 : k25.C W A2 l2.length l2) (hc2 : l2.length ≤ c2) (h3 : k25.K W x3 v3.cells.toList) : Calls Tryz.prog 7 #[.slice A0 l0.length c0, .slice A1 l1.length c1, .slice A2 l2.length c2, v3] W (YesP W) := by
  rw [dot_cells h3]
  exact redpencillaw05_VectorHolds.calls 2000 A0 c0 l0 A1 c1 l1 A2 c2 l2 _ _ W hG h0 hc0 h1 hc1 h2 hc2 (Holds_f _ _ _ _ _)
end Go.Proofs.YtnbjkpfpcggopaaGreatDoor.Ev
