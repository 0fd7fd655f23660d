-- Printed by a program of this session (wip/tools/mkprint2.py) out of the translation; Lean checks it. -- narrowed
import Derived.Test.YtbjahfbagbghnaaDoorPAllx0
import Derived.Test.YtbjahfbagbghnaaDoorPAllx3
import Derived.Test.YtbjahfbagbghnaaDoorPAllx5
import Derived.Test.YtbjahfbagbghnaaDoorPAllx6
import Derived.Test.YtbjahfbagbghnaaDoorLs
namespace Go.Proofs.YtbjahfbagbghnaaDoor.PAll
open Go.RowKit Go.Proofs.YtbjahfbagbghnaaDoorW.PrintWords Go.Proofs.YtbjahfbagbghnaaDoorW.PrintLast Go.Proofs.YtbjahfbagbghnaaDoorW.PrintMore
attribute [local go_sem] max2_int min2_int max_two min_two max_three min_three max_four min_four   -- for this text's walks alone
set_option linter.unusedVariables false
set_option linter.unusedSimpArgs false

/-! ### redpencillaw41_known: function 9 -/
mutual
def redpencillaw41_known.j0 : Nat → ByteArray → Bool → Option (Bool)
 | 0, _, _ => none
 | k + 1, x1, x34 => if x34 = true then (some false) else ((redpencillaw41_at.f k x1 1 4 7 0).bind fun t234 => (if t234 = true then ((redpencillaw41_at.f k x1 1 5 0 3).bind fun t235 => (if t235 = true then ((redpencillaw41_wide.f k x1 7 4 7 0).bind fun t236 => (if t236 = true then ((redpencillaw41_moves.f k x1 1 1 3 6 0).bind fun t237 => (if t237 = true then ((redpencillaw41_moves.f k x1 6 (-5) 1 1 0).bind fun t238 => (if t238 = true then ((redpencillaw41_moves.f k x1 6 9 2 8 0).bind fun t239 => (if t239 = true then ((redpencillaw41_wide.f k x1 7 0 0 2).bind fun t240 => (redpencillaw41_known.j1 k x1 (!t240))) else (redpencillaw41_known.j1 k x1 true))) else (redpencillaw41_known.j1 k x1 true))) else (redpencillaw41_known.j1 k x1 true))) else (redpencillaw41_known.j1 k x1 true))) else (redpencillaw41_known.j1 k x1 true))) else (redpencillaw41_known.j1 k x1 true)))
def redpencillaw41_known.j1 : Nat → ByteArray → Bool → Option (Bool)
 | 0, _, _ => none
 | k + 1, x1, x67 => if x67 = true then (some false) else ((redpencillaw41_nexts.f k x1 0 4 0).bind fun t241 => (if t241 = true then ((redpencillaw41_nexts.f k x1 6 8 0).bind fun t242 => (if t242 = true then ((redpencillaw41_backs.f k x1 8 6 0).bind fun t243 => (if t243 = true then ((redpencillaw41_backs.f k x1 5 4 0).bind fun t244 => (if t244 = true then ((redpencillaw41_word.f k x1 2 0 2 0).bind fun t245 => (if t245 = true then ((redpencillaw41_word.f k x1 3 3 3 0).bind fun t246 => (if t246 = true then ((redpencillaw41_backs.f k x1 9 0 3).bind fun t247 => (some t247)) else (some false))) else (some false))) else (some false))) else (some false))) else (some false))) else (some false)))
end
def redpencillaw41_known.f (k : Nat)  : Option (Bool) := (redpencillaw41_counts.f k (⟨#[97, 98, 10, 9, 99, 32, 100, 10]⟩ : ByteArray) 3 0).bind fun t227 => (if t227 = true then ((redpencillaw41_line.f k (⟨#[97, 98, 10, 9, 99, 32, 100, 10]⟩ : ByteArray) 1 (⟨#[9, 99, 32, 100]⟩ : ByteArray) 0).bind fun t228 => (if t228 = true then ((redpencillaw41_line.f k (⟨#[97, 98, 10, 9, 99, 32, 100, 10]⟩ : ByteArray) 2 (⟨#[]⟩ : ByteArray) 0).bind fun t229 => (if t229 = true then ((redpencillaw41_line.f k (⟨#[97, 98, 10, 9, 99, 32, 100, 10]⟩ : ByteArray) 3 (⟨#[]⟩ : ByteArray) 3).bind fun t230 => (if t230 = true then ((redpencillaw41_places.f k (⟨#[97, 98, 10, 9, 99, 32, 100, 10]⟩ : ByteArray) 2 0 2 0).bind fun t231 => (if t231 = true then ((redpencillaw41_places.f k (⟨#[97, 98, 10, 9, 99, 32, 100, 10]⟩ : ByteArray) 7 1 4 0).bind fun t232 => (if t232 = true then ((redpencillaw41_places.f k (⟨#[97, 98, 10, 9, 99, 32, 100, 10]⟩ : ByteArray) 8 2 0 0).bind fun t233 => (redpencillaw41_known.j0 k (⟨#[97, 98, 10, 9, 99, 32, 100, 10]⟩ : ByteArray) (!t233))) else (redpencillaw41_known.j0 k (⟨#[97, 98, 10, 9, 99, 32, 100, 10]⟩ : ByteArray) true))) else (redpencillaw41_known.j0 k (⟨#[97, 98, 10, 9, 99, 32, 100, 10]⟩ : ByteArray) true))) else (redpencillaw41_known.j0 k (⟨#[97, 98, 10, 9, 99, 32, 100, 10]⟩ : ByteArray) true))) else (redpencillaw41_known.j0 k (⟨#[97, 98, 10, 9, 99, 32, 100, 10]⟩ : ByteArray) true))) else (redpencillaw41_known.j0 k (⟨#[97, 98, 10, 9, 99, 32, 100, 10]⟩ : ByteArray) true))) else (redpencillaw41_known.j0 k (⟨#[97, 98, 10, 9, 99, 32, 100, 10]⟩ : ByteArray) true))
theorem redpencillaw41_known.mono_l : ∀ k, (∀ y0 y1, LeO (redpencillaw41_known.j0 k y0 y1) (redpencillaw41_known.j0 (k + 1) y0 y1)) ∧ (∀ y0 y1, LeO (redpencillaw41_known.j1 k y0 y1) (redpencillaw41_known.j1 (k + 1) y0 y1))
 | 0 => ⟨fun _ _ r h => by simp [redpencillaw41_known.j0] at h, fun _ _ r h => by simp [redpencillaw41_known.j1] at h⟩
 | k + 1 => by
  obtain ⟨ih0, ih1⟩ := redpencillaw41_known.mono_l k
  refine ⟨?_, ?_⟩
  ·
   intro y0 y1
   unfold redpencillaw41_known.j0
   repeat' first
   | (with_reducible exact ih0 _ _)
   | (with_reducible exact ih1 _ _)
   | (with_reducible exact redpencillaw41_at.mono _ _ _ _ _ _)
   | (with_reducible exact redpencillaw41_backs.mono _ _ _ _ _)
   | (with_reducible exact redpencillaw41_counts.mono _ _ _ _)
   | (with_reducible exact redpencillaw41_line.mono _ _ _ _ _)
   | (with_reducible exact redpencillaw41_moves.mono _ _ _ _ _ _ _)
   | (with_reducible exact redpencillaw41_nexts.mono _ _ _ _ _)
   | (with_reducible exact redpencillaw41_places.mono _ _ _ _ _ _)
   | (with_reducible exact redpencillaw41_wide.mono _ _ _ _ _ _)
   | (with_reducible exact redpencillaw41_word.mono _ _ _ _ _ _)
   | (with_reducible exact LeO.refl _)
   | (with_reducible exact LeO.none _)
   | (with_reducible refine LeO.ite ?_ ?_)
   | (with_reducible refine LeO.bind ?_ (fun _ => ?_))
   | exact ih0 _ _
   | exact ih1 _ _
   | exact redpencillaw41_at.mono _ _ _ _ _ _
   | exact redpencillaw41_backs.mono _ _ _ _ _
   | exact redpencillaw41_counts.mono _ _ _ _
   | exact redpencillaw41_line.mono _ _ _ _ _
   | exact redpencillaw41_moves.mono _ _ _ _ _ _ _
   | exact redpencillaw41_nexts.mono _ _ _ _ _
   | exact redpencillaw41_places.mono _ _ _ _ _ _
   | exact redpencillaw41_wide.mono _ _ _ _ _ _
   | exact redpencillaw41_word.mono _ _ _ _ _ _
   | exact LeO.none _
   | refine LeO.ite ?_ ?_
   | refine LeO.bind ?_ (fun _ => ?_)
  ·
   intro y0 y1
   unfold redpencillaw41_known.j1
   repeat' first
   | (with_reducible exact ih0 _ _)
   | (with_reducible exact ih1 _ _)
   | (with_reducible exact redpencillaw41_at.mono _ _ _ _ _ _)
   | (with_reducible exact redpencillaw41_backs.mono _ _ _ _ _)
   | (with_reducible exact redpencillaw41_counts.mono _ _ _ _)
   | (with_reducible exact redpencillaw41_line.mono _ _ _ _ _)
   | (with_reducible exact redpencillaw41_moves.mono _ _ _ _ _ _ _)
   | (with_reducible exact redpencillaw41_nexts.mono _ _ _ _ _)
   | (with_reducible exact redpencillaw41_places.mono _ _ _ _ _ _)
   | (with_reducible exact redpencillaw41_wide.mono _ _ _ _ _ _)
   | (with_reducible exact redpencillaw41_word.mono _ _ _ _ _ _)
   | (with_reducible exact LeO.refl _)
   | (with_reducible exact LeO.none _)
   | (with_reducible refine LeO.ite ?_ ?_)
   | (with_reducible refine LeO.bind ?_ (fun _ => ?_))
   | exact ih0 _ _
   | exact ih1 _ _
   | exact redpencillaw41_at.mono _ _ _ _ _ _
   | exact redpencillaw41_backs.mono _ _ _ _ _
   | exact redpencillaw41_counts.mono _ _ _ _
   | exact redpencillaw41_line.mono _ _ _ _ _
   | exact redpencillaw41_moves.mono _ _ _ _ _ _ _
   | exact redpencillaw41_nexts.mono _ _ _ _ _
   | exact redpencillaw41_places.mono _ _ _ _ _ _
   | exact redpencillaw41_wide.mono _ _ _ _ _ _
   | exact redpencillaw41_word.mono _ _ _ _ _ _
   | exact LeO.none _
   | refine LeO.ite ?_ ?_
   | refine LeO.bind ?_ (fun _ => ?_)
theorem redpencillaw41_known.mono : ∀ k, LeO (redpencillaw41_known.f k ) (redpencillaw41_known.f (k + 1) ) := by
 intro  k
 obtain ⟨ih0, ih1⟩ := redpencillaw41_known.mono_l k
 unfold redpencillaw41_known.f
 repeat' first
   | (with_reducible exact ih0 _ _)
   | (with_reducible exact ih1 _ _)
   | (with_reducible exact redpencillaw41_at.mono _ _ _ _ _ _)
   | (with_reducible exact redpencillaw41_backs.mono _ _ _ _ _)
   | (with_reducible exact redpencillaw41_counts.mono _ _ _ _)
   | (with_reducible exact redpencillaw41_line.mono _ _ _ _ _)
   | (with_reducible exact redpencillaw41_moves.mono _ _ _ _ _ _ _)
   | (with_reducible exact redpencillaw41_nexts.mono _ _ _ _ _)
   | (with_reducible exact redpencillaw41_places.mono _ _ _ _ _ _)
   | (with_reducible exact redpencillaw41_wide.mono _ _ _ _ _ _)
   | (with_reducible exact redpencillaw41_word.mono _ _ _ _ _ _)
   | (with_reducible exact LeO.refl _)
   | (with_reducible exact LeO.none _)
   | (with_reducible refine LeO.ite ?_ ?_)
   | (with_reducible refine LeO.bind ?_ (fun _ => ?_))
   | exact ih0 _ _
   | exact ih1 _ _
   | exact redpencillaw41_at.mono _ _ _ _ _ _
   | exact redpencillaw41_backs.mono _ _ _ _ _
   | exact redpencillaw41_counts.mono _ _ _ _
   | exact redpencillaw41_line.mono _ _ _ _ _
   | exact redpencillaw41_moves.mono _ _ _ _ _ _ _
   | exact redpencillaw41_nexts.mono _ _ _ _ _
   | exact redpencillaw41_places.mono _ _ _ _ _ _
   | exact redpencillaw41_wide.mono _ _ _ _ _ _
   | exact redpencillaw41_word.mono _ _ _ _ _ _
   | exact LeO.none _
   | refine LeO.ite ?_ ?_
   | refine LeO.bind ?_ (fun _ => ?_)
set_option maxHeartbeats 8000000 in
set_option maxRecDepth 100000 in
theorem redpencillaw41_known.calls (k : Nat)  (r : Bool) (w : World) (hG : GOK w) (h : redpencillaw41_known.f k  = some r) :
  Calls Tryd.prog 9 #[] w fun e w' => e = .returned (.bool r) ∧ Below w.heap.size w w' := by
 have HB := Aside0.mk (Below.refl w.heap.size w)
 have HG := Aside0.mk hG
 clear hG
 have H : ((redpencillaw41_counts.f k (⟨#[97, 98, 10, 9, 99, 32, 100, 10]⟩ : ByteArray) 3 0).bind fun t227 => (if t227 = true then ((redpencillaw41_line.f k (⟨#[97, 98, 10, 9, 99, 32, 100, 10]⟩ : ByteArray) 1 (⟨#[9, 99, 32, 100]⟩ : ByteArray) 0).bind fun t228 => (if t228 = true then ((redpencillaw41_line.f k (⟨#[97, 98, 10, 9, 99, 32, 100, 10]⟩ : ByteArray) 2 (⟨#[]⟩ : ByteArray) 0).bind fun t229 => (if t229 = true then ((redpencillaw41_line.f k (⟨#[97, 98, 10, 9, 99, 32, 100, 10]⟩ : ByteArray) 3 (⟨#[]⟩ : ByteArray) 3).bind fun t230 => (if t230 = true then ((redpencillaw41_places.f k (⟨#[97, 98, 10, 9, 99, 32, 100, 10]⟩ : ByteArray) 2 0 2 0).bind fun t231 => (if t231 = true then ((redpencillaw41_places.f k (⟨#[97, 98, 10, 9, 99, 32, 100, 10]⟩ : ByteArray) 7 1 4 0).bind fun t232 => (if t232 = true then ((redpencillaw41_places.f k (⟨#[97, 98, 10, 9, 99, 32, 100, 10]⟩ : ByteArray) 8 2 0 0).bind fun t233 => (redpencillaw41_known.j0 k (⟨#[97, 98, 10, 9, 99, 32, 100, 10]⟩ : ByteArray) (!t233))) else (redpencillaw41_known.j0 k (⟨#[97, 98, 10, 9, 99, 32, 100, 10]⟩ : ByteArray) true))) else (redpencillaw41_known.j0 k (⟨#[97, 98, 10, 9, 99, 32, 100, 10]⟩ : ByteArray) true))) else (redpencillaw41_known.j0 k (⟨#[97, 98, 10, 9, 99, 32, 100, 10]⟩ : ByteArray) true))) else (redpencillaw41_known.j0 k (⟨#[97, 98, 10, 9, 99, 32, 100, 10]⟩ : ByteArray) true))) else (redpencillaw41_known.j0 k (⟨#[97, 98, 10, 9, 99, 32, 100, 10]⟩ : ByteArray) true))) else (redpencillaw41_known.j0 k (⟨#[97, 98, 10, 9, 99, 32, 100, 10]⟩ : ByteArray) true))) = some r := h
 clear h
 have HC1 := Aside0.mk H
 clear H
 go_enter Tryd.func9, Tryd.ntmps9
 go_upto_region 2 with (fail)
 go_cut [34] (fun v34 wc => ∃ (kq : Nat) (x34_0 : Bool), v34 = .bool x34_0 ∧ Aside0 (redpencillaw41_known.j0 kq (⟨#[97, 98, 10, 9, 99, 32, 100, 10]⟩ : ByteArray) x34_0 = some r) ∧ Aside0 (kq ≤ k) ∧ Aside0 (Below w.heap.size w wc))
 case first =>
  have H := HC1.out
  clear HC1
  replace H := Option.bind_eq_some_iff.mp H
  obtain ⟨t227, A20, H⟩ := H
  replace H : (if t227 = true then ((redpencillaw41_line.f k (⟨#[97, 98, 10, 9, 99, 32, 100, 10]⟩ : ByteArray) 1 (⟨#[9, 99, 32, 100]⟩ : ByteArray) 0).bind fun t228 => (if t228 = true then ((redpencillaw41_line.f k (⟨#[97, 98, 10, 9, 99, 32, 100, 10]⟩ : ByteArray) 2 (⟨#[]⟩ : ByteArray) 0).bind fun t229 => (if t229 = true then ((redpencillaw41_line.f k (⟨#[97, 98, 10, 9, 99, 32, 100, 10]⟩ : ByteArray) 3 (⟨#[]⟩ : ByteArray) 3).bind fun t230 => (if t230 = true then ((redpencillaw41_places.f k (⟨#[97, 98, 10, 9, 99, 32, 100, 10]⟩ : ByteArray) 2 0 2 0).bind fun t231 => (if t231 = true then ((redpencillaw41_places.f k (⟨#[97, 98, 10, 9, 99, 32, 100, 10]⟩ : ByteArray) 7 1 4 0).bind fun t232 => (if t232 = true then ((redpencillaw41_places.f k (⟨#[97, 98, 10, 9, 99, 32, 100, 10]⟩ : ByteArray) 8 2 0 0).bind fun t233 => (redpencillaw41_known.j0 k (⟨#[97, 98, 10, 9, 99, 32, 100, 10]⟩ : ByteArray) (!t233))) else (redpencillaw41_known.j0 k (⟨#[97, 98, 10, 9, 99, 32, 100, 10]⟩ : ByteArray) true))) else (redpencillaw41_known.j0 k (⟨#[97, 98, 10, 9, 99, 32, 100, 10]⟩ : ByteArray) true))) else (redpencillaw41_known.j0 k (⟨#[97, 98, 10, 9, 99, 32, 100, 10]⟩ : ByteArray) true))) else (redpencillaw41_known.j0 k (⟨#[97, 98, 10, 9, 99, 32, 100, 10]⟩ : ByteArray) true))) else (redpencillaw41_known.j0 k (⟨#[97, 98, 10, 9, 99, 32, 100, 10]⟩ : ByteArray) true))) else (redpencillaw41_known.j0 k (⟨#[97, 98, 10, 9, 99, 32, 100, 10]⟩ : ByteArray) true)) = some r := H
  have A2 := Aside0.mk A20
  clear A20
  by_cases c3 : t227 = true
  ·
   subst c3
   have H1 : ((redpencillaw41_line.f k (⟨#[97, 98, 10, 9, 99, 32, 100, 10]⟩ : ByteArray) 1 (⟨#[9, 99, 32, 100]⟩ : ByteArray) 0).bind fun t228 => (if t228 = true then ((redpencillaw41_line.f k (⟨#[97, 98, 10, 9, 99, 32, 100, 10]⟩ : ByteArray) 2 (⟨#[]⟩ : ByteArray) 0).bind fun t229 => (if t229 = true then ((redpencillaw41_line.f k (⟨#[97, 98, 10, 9, 99, 32, 100, 10]⟩ : ByteArray) 3 (⟨#[]⟩ : ByteArray) 3).bind fun t230 => (if t230 = true then ((redpencillaw41_places.f k (⟨#[97, 98, 10, 9, 99, 32, 100, 10]⟩ : ByteArray) 2 0 2 0).bind fun t231 => (if t231 = true then ((redpencillaw41_places.f k (⟨#[97, 98, 10, 9, 99, 32, 100, 10]⟩ : ByteArray) 7 1 4 0).bind fun t232 => (if t232 = true then ((redpencillaw41_places.f k (⟨#[97, 98, 10, 9, 99, 32, 100, 10]⟩ : ByteArray) 8 2 0 0).bind fun t233 => (redpencillaw41_known.j0 k (⟨#[97, 98, 10, 9, 99, 32, 100, 10]⟩ : ByteArray) (!t233))) else (redpencillaw41_known.j0 k (⟨#[97, 98, 10, 9, 99, 32, 100, 10]⟩ : ByteArray) true))) else (redpencillaw41_known.j0 k (⟨#[97, 98, 10, 9, 99, 32, 100, 10]⟩ : ByteArray) true))) else (redpencillaw41_known.j0 k (⟨#[97, 98, 10, 9, 99, 32, 100, 10]⟩ : ByteArray) true))) else (redpencillaw41_known.j0 k (⟨#[97, 98, 10, 9, 99, 32, 100, 10]⟩ : ByteArray) true))) else (redpencillaw41_known.j0 k (⟨#[97, 98, 10, 9, 99, 32, 100, 10]⟩ : ByteArray) true))) = some r := by rw [if_pos rfl] at H; exact H
   clear H
   have H := H1
   clear H1
   replace H := Option.bind_eq_some_iff.mp H
   obtain ⟨t228, A40, H⟩ := H
   replace H : (if t228 = true then ((redpencillaw41_line.f k (⟨#[97, 98, 10, 9, 99, 32, 100, 10]⟩ : ByteArray) 2 (⟨#[]⟩ : ByteArray) 0).bind fun t229 => (if t229 = true then ((redpencillaw41_line.f k (⟨#[97, 98, 10, 9, 99, 32, 100, 10]⟩ : ByteArray) 3 (⟨#[]⟩ : ByteArray) 3).bind fun t230 => (if t230 = true then ((redpencillaw41_places.f k (⟨#[97, 98, 10, 9, 99, 32, 100, 10]⟩ : ByteArray) 2 0 2 0).bind fun t231 => (if t231 = true then ((redpencillaw41_places.f k (⟨#[97, 98, 10, 9, 99, 32, 100, 10]⟩ : ByteArray) 7 1 4 0).bind fun t232 => (if t232 = true then ((redpencillaw41_places.f k (⟨#[97, 98, 10, 9, 99, 32, 100, 10]⟩ : ByteArray) 8 2 0 0).bind fun t233 => (redpencillaw41_known.j0 k (⟨#[97, 98, 10, 9, 99, 32, 100, 10]⟩ : ByteArray) (!t233))) else (redpencillaw41_known.j0 k (⟨#[97, 98, 10, 9, 99, 32, 100, 10]⟩ : ByteArray) true))) else (redpencillaw41_known.j0 k (⟨#[97, 98, 10, 9, 99, 32, 100, 10]⟩ : ByteArray) true))) else (redpencillaw41_known.j0 k (⟨#[97, 98, 10, 9, 99, 32, 100, 10]⟩ : ByteArray) true))) else (redpencillaw41_known.j0 k (⟨#[97, 98, 10, 9, 99, 32, 100, 10]⟩ : ByteArray) true))) else (redpencillaw41_known.j0 k (⟨#[97, 98, 10, 9, 99, 32, 100, 10]⟩ : ByteArray) true)) = some r := H
   have A4 := Aside0.mk A40
   clear A40
   by_cases c5 : t228 = true
   ·
    subst c5
    have H1 : ((redpencillaw41_line.f k (⟨#[97, 98, 10, 9, 99, 32, 100, 10]⟩ : ByteArray) 2 (⟨#[]⟩ : ByteArray) 0).bind fun t229 => (if t229 = true then ((redpencillaw41_line.f k (⟨#[97, 98, 10, 9, 99, 32, 100, 10]⟩ : ByteArray) 3 (⟨#[]⟩ : ByteArray) 3).bind fun t230 => (if t230 = true then ((redpencillaw41_places.f k (⟨#[97, 98, 10, 9, 99, 32, 100, 10]⟩ : ByteArray) 2 0 2 0).bind fun t231 => (if t231 = true then ((redpencillaw41_places.f k (⟨#[97, 98, 10, 9, 99, 32, 100, 10]⟩ : ByteArray) 7 1 4 0).bind fun t232 => (if t232 = true then ((redpencillaw41_places.f k (⟨#[97, 98, 10, 9, 99, 32, 100, 10]⟩ : ByteArray) 8 2 0 0).bind fun t233 => (redpencillaw41_known.j0 k (⟨#[97, 98, 10, 9, 99, 32, 100, 10]⟩ : ByteArray) (!t233))) else (redpencillaw41_known.j0 k (⟨#[97, 98, 10, 9, 99, 32, 100, 10]⟩ : ByteArray) true))) else (redpencillaw41_known.j0 k (⟨#[97, 98, 10, 9, 99, 32, 100, 10]⟩ : ByteArray) true))) else (redpencillaw41_known.j0 k (⟨#[97, 98, 10, 9, 99, 32, 100, 10]⟩ : ByteArray) true))) else (redpencillaw41_known.j0 k (⟨#[97, 98, 10, 9, 99, 32, 100, 10]⟩ : ByteArray) true))) = some r := by rw [if_pos rfl] at H; exact H
    clear H
    have H := H1
    clear H1
    replace H := Option.bind_eq_some_iff.mp H
    obtain ⟨t229, A60, H⟩ := H
    replace H : (if t229 = true then ((redpencillaw41_line.f k (⟨#[97, 98, 10, 9, 99, 32, 100, 10]⟩ : ByteArray) 3 (⟨#[]⟩ : ByteArray) 3).bind fun t230 => (if t230 = true then ((redpencillaw41_places.f k (⟨#[97, 98, 10, 9, 99, 32, 100, 10]⟩ : ByteArray) 2 0 2 0).bind fun t231 => (if t231 = true then ((redpencillaw41_places.f k (⟨#[97, 98, 10, 9, 99, 32, 100, 10]⟩ : ByteArray) 7 1 4 0).bind fun t232 => (if t232 = true then ((redpencillaw41_places.f k (⟨#[97, 98, 10, 9, 99, 32, 100, 10]⟩ : ByteArray) 8 2 0 0).bind fun t233 => (redpencillaw41_known.j0 k (⟨#[97, 98, 10, 9, 99, 32, 100, 10]⟩ : ByteArray) (!t233))) else (redpencillaw41_known.j0 k (⟨#[97, 98, 10, 9, 99, 32, 100, 10]⟩ : ByteArray) true))) else (redpencillaw41_known.j0 k (⟨#[97, 98, 10, 9, 99, 32, 100, 10]⟩ : ByteArray) true))) else (redpencillaw41_known.j0 k (⟨#[97, 98, 10, 9, 99, 32, 100, 10]⟩ : ByteArray) true))) else (redpencillaw41_known.j0 k (⟨#[97, 98, 10, 9, 99, 32, 100, 10]⟩ : ByteArray) true)) = some r := H
    have A6 := Aside0.mk A60
    clear A60
    by_cases c7 : t229 = true
    ·
     subst c7
     have H1 : ((redpencillaw41_line.f k (⟨#[97, 98, 10, 9, 99, 32, 100, 10]⟩ : ByteArray) 3 (⟨#[]⟩ : ByteArray) 3).bind fun t230 => (if t230 = true then ((redpencillaw41_places.f k (⟨#[97, 98, 10, 9, 99, 32, 100, 10]⟩ : ByteArray) 2 0 2 0).bind fun t231 => (if t231 = true then ((redpencillaw41_places.f k (⟨#[97, 98, 10, 9, 99, 32, 100, 10]⟩ : ByteArray) 7 1 4 0).bind fun t232 => (if t232 = true then ((redpencillaw41_places.f k (⟨#[97, 98, 10, 9, 99, 32, 100, 10]⟩ : ByteArray) 8 2 0 0).bind fun t233 => (redpencillaw41_known.j0 k (⟨#[97, 98, 10, 9, 99, 32, 100, 10]⟩ : ByteArray) (!t233))) else (redpencillaw41_known.j0 k (⟨#[97, 98, 10, 9, 99, 32, 100, 10]⟩ : ByteArray) true))) else (redpencillaw41_known.j0 k (⟨#[97, 98, 10, 9, 99, 32, 100, 10]⟩ : ByteArray) true))) else (redpencillaw41_known.j0 k (⟨#[97, 98, 10, 9, 99, 32, 100, 10]⟩ : ByteArray) true))) = some r := by rw [if_pos rfl] at H; exact H
     clear H
     have H := H1
     clear H1
     replace H := Option.bind_eq_some_iff.mp H
     obtain ⟨t230, A80, H⟩ := H
     replace H : (if t230 = true then ((redpencillaw41_places.f k (⟨#[97, 98, 10, 9, 99, 32, 100, 10]⟩ : ByteArray) 2 0 2 0).bind fun t231 => (if t231 = true then ((redpencillaw41_places.f k (⟨#[97, 98, 10, 9, 99, 32, 100, 10]⟩ : ByteArray) 7 1 4 0).bind fun t232 => (if t232 = true then ((redpencillaw41_places.f k (⟨#[97, 98, 10, 9, 99, 32, 100, 10]⟩ : ByteArray) 8 2 0 0).bind fun t233 => (redpencillaw41_known.j0 k (⟨#[97, 98, 10, 9, 99, 32, 100, 10]⟩ : ByteArray) (!t233))) else (redpencillaw41_known.j0 k (⟨#[97, 98, 10, 9, 99, 32, 100, 10]⟩ : ByteArray) true))) else (redpencillaw41_known.j0 k (⟨#[97, 98, 10, 9, 99, 32, 100, 10]⟩ : ByteArray) true))) else (redpencillaw41_known.j0 k (⟨#[97, 98, 10, 9, 99, 32, 100, 10]⟩ : ByteArray) true)) = some r := H
     have A8 := Aside0.mk A80
     clear A80
     by_cases c9 : t230 = true
     ·
      subst c9
      have H1 : ((redpencillaw41_places.f k (⟨#[97, 98, 10, 9, 99, 32, 100, 10]⟩ : ByteArray) 2 0 2 0).bind fun t231 => (if t231 = true then ((redpencillaw41_places.f k (⟨#[97, 98, 10, 9, 99, 32, 100, 10]⟩ : ByteArray) 7 1 4 0).bind fun t232 => (if t232 = true then ((redpencillaw41_places.f k (⟨#[97, 98, 10, 9, 99, 32, 100, 10]⟩ : ByteArray) 8 2 0 0).bind fun t233 => (redpencillaw41_known.j0 k (⟨#[97, 98, 10, 9, 99, 32, 100, 10]⟩ : ByteArray) (!t233))) else (redpencillaw41_known.j0 k (⟨#[97, 98, 10, 9, 99, 32, 100, 10]⟩ : ByteArray) true))) else (redpencillaw41_known.j0 k (⟨#[97, 98, 10, 9, 99, 32, 100, 10]⟩ : ByteArray) true))) = some r := by rw [if_pos rfl] at H; exact H
      clear H
      have H := H1
      clear H1
      replace H := Option.bind_eq_some_iff.mp H
      obtain ⟨t231, A100, H⟩ := H
      replace H : (if t231 = true then ((redpencillaw41_places.f k (⟨#[97, 98, 10, 9, 99, 32, 100, 10]⟩ : ByteArray) 7 1 4 0).bind fun t232 => (if t232 = true then ((redpencillaw41_places.f k (⟨#[97, 98, 10, 9, 99, 32, 100, 10]⟩ : ByteArray) 8 2 0 0).bind fun t233 => (redpencillaw41_known.j0 k (⟨#[97, 98, 10, 9, 99, 32, 100, 10]⟩ : ByteArray) (!t233))) else (redpencillaw41_known.j0 k (⟨#[97, 98, 10, 9, 99, 32, 100, 10]⟩ : ByteArray) true))) else (redpencillaw41_known.j0 k (⟨#[97, 98, 10, 9, 99, 32, 100, 10]⟩ : ByteArray) true)) = some r := H
      have A10 := Aside0.mk A100
      clear A100
      by_cases c11 : t231 = true
      ·
       subst c11
       have H1 : ((redpencillaw41_places.f k (⟨#[97, 98, 10, 9, 99, 32, 100, 10]⟩ : ByteArray) 7 1 4 0).bind fun t232 => (if t232 = true then ((redpencillaw41_places.f k (⟨#[97, 98, 10, 9, 99, 32, 100, 10]⟩ : ByteArray) 8 2 0 0).bind fun t233 => (redpencillaw41_known.j0 k (⟨#[97, 98, 10, 9, 99, 32, 100, 10]⟩ : ByteArray) (!t233))) else (redpencillaw41_known.j0 k (⟨#[97, 98, 10, 9, 99, 32, 100, 10]⟩ : ByteArray) true))) = some r := by rw [if_pos rfl] at H; exact H
       clear H
       have H := H1
       clear H1
       replace H := Option.bind_eq_some_iff.mp H
       obtain ⟨t232, A120, H⟩ := H
       replace H : (if t232 = true then ((redpencillaw41_places.f k (⟨#[97, 98, 10, 9, 99, 32, 100, 10]⟩ : ByteArray) 8 2 0 0).bind fun t233 => (redpencillaw41_known.j0 k (⟨#[97, 98, 10, 9, 99, 32, 100, 10]⟩ : ByteArray) (!t233))) else (redpencillaw41_known.j0 k (⟨#[97, 98, 10, 9, 99, 32, 100, 10]⟩ : ByteArray) true)) = some r := H
       have A12 := Aside0.mk A120
       clear A120
       by_cases c13 : t232 = true
       ·
        subst c13
        have H1 : ((redpencillaw41_places.f k (⟨#[97, 98, 10, 9, 99, 32, 100, 10]⟩ : ByteArray) 8 2 0 0).bind fun t233 => (redpencillaw41_known.j0 k (⟨#[97, 98, 10, 9, 99, 32, 100, 10]⟩ : ByteArray) (!t233))) = some r := by rw [if_pos rfl] at H; exact H
        clear H
        have H := H1
        clear H1
        replace H := Option.bind_eq_some_iff.mp H
        obtain ⟨t233, A140, H⟩ := H
        replace H : (redpencillaw41_known.j0 k (⟨#[97, 98, 10, 9, 99, 32, 100, 10]⟩ : ByteArray) (!t233)) = some r := H
        have A14 := Aside0.mk A140
        clear A140
        have H' := Aside0.mk H
        clear H
        go_wp2_with (first | ((with_reducible refine gate_callee (f := 11) rfl ?_); refine goesL_ (some 3) rfl rfl Tryd.func11 (by kernel_rfl) rfl #[.string (⟨#[97, 98, 10, 9, 99, 32, 100, 10]⟩ : ByteArray), .int .i64 3, .int .i64 0] rfl (by (try simp only [List.map_toArray, List.map_cons, List.map_nil]); first | done | rfl | (simp only [List.length_drop, List.length_take]; rfl)) ?_; (with_reducible refine (redpencillaw41_counts.calls k (⟨#[97, 98, 10, 9, 99, 32, 100, 10]⟩ : ByteArray) 3 0 true _ ?side1 A2.out).mono ?_); (case side1 => exact GOK_below HG.out (by repeat (first | (with_reducible first | exact HB.out | apply below_alloc | apply pw_below_drewN | apply below_drew1) | exact HB.out))); rintro e w15 ⟨rfl, hb⟩; refine ⟨_, rfl, ?_⟩; have n0_ := Aside0.mk (below_step (by repeat (first | (with_reducible first | exact HB.out | apply below_alloc | apply pw_below_drewN | apply below_drew1) | exact HB.out)) hb); clear HB; have HB := n0_; clear n0_; (try clear hb); (try clear hb2); (try clear hk); (try clear hi)) | (go_at_call 12; (with_reducible refine (redpencillaw41_line.calls k (⟨#[97, 98, 10, 9, 99, 32, 100, 10]⟩ : ByteArray) 1 (⟨#[9, 99, 32, 100]⟩ : ByteArray) 0 true _ ?side1 A4.out).mono ?_); (case side1 => exact GOK_below HG.out (by repeat (first | (with_reducible first | exact HB.out | apply below_alloc | apply pw_below_drewN | apply below_drew1) | exact HB.out))); rintro e w16 ⟨rfl, hb⟩; have n0_ := Aside0.mk (below_step (by repeat (first | (with_reducible first | exact HB.out | apply below_alloc | apply pw_below_drewN | apply below_drew1) | exact HB.out)) hb); clear HB; have HB := n0_; clear n0_; (try clear hb); (try clear hb2); (try clear hk); (try clear hi)) | (go_at_call 12; (with_reducible refine (redpencillaw41_line.calls k (⟨#[97, 98, 10, 9, 99, 32, 100, 10]⟩ : ByteArray) 2 (⟨#[]⟩ : ByteArray) 0 true _ ?side1 A6.out).mono ?_); (case side1 => exact GOK_below HG.out (by repeat (first | (with_reducible first | exact HB.out | apply below_alloc | apply pw_below_drewN | apply below_drew1) | exact HB.out))); rintro e w17 ⟨rfl, hb⟩; have n0_ := Aside0.mk (below_step (by repeat (first | (with_reducible first | exact HB.out | apply below_alloc | apply pw_below_drewN | apply below_drew1) | exact HB.out)) hb); clear HB; have HB := n0_; clear n0_; (try clear hb); (try clear hb2); (try clear hk); (try clear hi)) | (go_at_call 12; (with_reducible refine (redpencillaw41_line.calls k (⟨#[97, 98, 10, 9, 99, 32, 100, 10]⟩ : ByteArray) 3 (⟨#[]⟩ : ByteArray) 3 true _ ?side1 A8.out).mono ?_); (case side1 => exact GOK_below HG.out (by repeat (first | (with_reducible first | exact HB.out | apply below_alloc | apply pw_below_drewN | apply below_drew1) | exact HB.out))); rintro e w18 ⟨rfl, hb⟩; have n0_ := Aside0.mk (below_step (by repeat (first | (with_reducible first | exact HB.out | apply below_alloc | apply pw_below_drewN | apply below_drew1) | exact HB.out)) hb); clear HB; have HB := n0_; clear n0_; (try clear hb); (try clear hb2); (try clear hk); (try clear hi)) | (go_at_call 14; (with_reducible refine (redpencillaw41_places.calls k (⟨#[97, 98, 10, 9, 99, 32, 100, 10]⟩ : ByteArray) 2 0 2 0 true _ ?side1 A10.out).mono ?_); (case side1 => exact GOK_below HG.out (by repeat (first | (with_reducible first | exact HB.out | apply below_alloc | apply pw_below_drewN | apply below_drew1) | exact HB.out))); rintro e w19 ⟨rfl, hb⟩; have n0_ := Aside0.mk (below_step (by repeat (first | (with_reducible first | exact HB.out | apply below_alloc | apply pw_below_drewN | apply below_drew1) | exact HB.out)) hb); clear HB; have HB := n0_; clear n0_; (try clear hb); (try clear hb2); (try clear hk); (try clear hi)) | (go_at_call 14; (with_reducible refine (redpencillaw41_places.calls k (⟨#[97, 98, 10, 9, 99, 32, 100, 10]⟩ : ByteArray) 7 1 4 0 true _ ?side1 A12.out).mono ?_); (case side1 => exact GOK_below HG.out (by repeat (first | (with_reducible first | exact HB.out | apply below_alloc | apply pw_below_drewN | apply below_drew1) | exact HB.out))); rintro e w20 ⟨rfl, hb⟩; have n0_ := Aside0.mk (below_step (by repeat (first | (with_reducible first | exact HB.out | apply below_alloc | apply pw_below_drewN | apply below_drew1) | exact HB.out)) hb); clear HB; have HB := n0_; clear n0_; (try clear hb); (try clear hb2); (try clear hk); (try clear hi)) | (go_at_call 14; (with_reducible refine (redpencillaw41_places.calls k (⟨#[97, 98, 10, 9, 99, 32, 100, 10]⟩ : ByteArray) 8 2 0 0 t233 _ ?side1 A14.out).mono ?_); (case side1 => exact GOK_below HG.out (by repeat (first | (with_reducible first | exact HB.out | apply below_alloc | apply pw_below_drewN | apply below_drew1) | exact HB.out))); rintro e w21 ⟨rfl, hb⟩; have n0_ := Aside0.mk (below_step (by repeat (first | (with_reducible first | exact HB.out | apply below_alloc | apply pw_below_drewN | apply below_drew1) | exact HB.out)) hb); clear HB; have HB := n0_; clear n0_; (try clear hb); (try clear hb2); (try clear hk); (try clear hi)))
        go_meet
        case rel => exact ⟨_, (!t233), (by first | rfl | (simp; done) | (simp [*]; done)), H', ⟨by first | omega | exact Nat.le_refl _⟩, ⟨by repeat (first | (with_reducible first | exact HB.out | apply below_alloc | apply pw_below_drewN | apply below_drew1) | exact HB.out)⟩⟩
       ·
        replace c13 := Bool.eq_false_iff.mpr c13
        subst c13
        have H1 : (redpencillaw41_known.j0 k (⟨#[97, 98, 10, 9, 99, 32, 100, 10]⟩ : ByteArray) true) = some r := by rw [if_neg (show ¬ (false = true) by decide)] at H; exact H
        clear H
        have H := H1
        clear H1
        have H' := Aside0.mk H
        clear H
        go_wp2_with (first | ((with_reducible refine gate_callee (f := 11) rfl ?_); refine goesL_ (some 3) rfl rfl Tryd.func11 (by kernel_rfl) rfl #[.string (⟨#[97, 98, 10, 9, 99, 32, 100, 10]⟩ : ByteArray), .int .i64 3, .int .i64 0] rfl (by (try simp only [List.map_toArray, List.map_cons, List.map_nil]); first | done | rfl | (simp only [List.length_drop, List.length_take]; rfl)) ?_; (with_reducible refine (redpencillaw41_counts.calls k (⟨#[97, 98, 10, 9, 99, 32, 100, 10]⟩ : ByteArray) 3 0 true _ ?side1 A2.out).mono ?_); (case side1 => exact GOK_below HG.out (by repeat (first | (with_reducible first | exact HB.out | apply below_alloc | apply pw_below_drewN | apply below_drew1) | exact HB.out))); rintro e w22 ⟨rfl, hb⟩; refine ⟨_, rfl, ?_⟩; have n0_ := Aside0.mk (below_step (by repeat (first | (with_reducible first | exact HB.out | apply below_alloc | apply pw_below_drewN | apply below_drew1) | exact HB.out)) hb); clear HB; have HB := n0_; clear n0_; (try clear hb); (try clear hb2); (try clear hk); (try clear hi)) | (go_at_call 12; (with_reducible refine (redpencillaw41_line.calls k (⟨#[97, 98, 10, 9, 99, 32, 100, 10]⟩ : ByteArray) 1 (⟨#[9, 99, 32, 100]⟩ : ByteArray) 0 true _ ?side1 A4.out).mono ?_); (case side1 => exact GOK_below HG.out (by repeat (first | (with_reducible first | exact HB.out | apply below_alloc | apply pw_below_drewN | apply below_drew1) | exact HB.out))); rintro e w23 ⟨rfl, hb⟩; have n0_ := Aside0.mk (below_step (by repeat (first | (with_reducible first | exact HB.out | apply below_alloc | apply pw_below_drewN | apply below_drew1) | exact HB.out)) hb); clear HB; have HB := n0_; clear n0_; (try clear hb); (try clear hb2); (try clear hk); (try clear hi)) | (go_at_call 12; (with_reducible refine (redpencillaw41_line.calls k (⟨#[97, 98, 10, 9, 99, 32, 100, 10]⟩ : ByteArray) 2 (⟨#[]⟩ : ByteArray) 0 true _ ?side1 A6.out).mono ?_); (case side1 => exact GOK_below HG.out (by repeat (first | (with_reducible first | exact HB.out | apply below_alloc | apply pw_below_drewN | apply below_drew1) | exact HB.out))); rintro e w24 ⟨rfl, hb⟩; have n0_ := Aside0.mk (below_step (by repeat (first | (with_reducible first | exact HB.out | apply below_alloc | apply pw_below_drewN | apply below_drew1) | exact HB.out)) hb); clear HB; have HB := n0_; clear n0_; (try clear hb); (try clear hb2); (try clear hk); (try clear hi)) | (go_at_call 12; (with_reducible refine (redpencillaw41_line.calls k (⟨#[97, 98, 10, 9, 99, 32, 100, 10]⟩ : ByteArray) 3 (⟨#[]⟩ : ByteArray) 3 true _ ?side1 A8.out).mono ?_); (case side1 => exact GOK_below HG.out (by repeat (first | (with_reducible first | exact HB.out | apply below_alloc | apply pw_below_drewN | apply below_drew1) | exact HB.out))); rintro e w25 ⟨rfl, hb⟩; have n0_ := Aside0.mk (below_step (by repeat (first | (with_reducible first | exact HB.out | apply below_alloc | apply pw_below_drewN | apply below_drew1) | exact HB.out)) hb); clear HB; have HB := n0_; clear n0_; (try clear hb); (try clear hb2); (try clear hk); (try clear hi)) | (go_at_call 14; (with_reducible refine (redpencillaw41_places.calls k (⟨#[97, 98, 10, 9, 99, 32, 100, 10]⟩ : ByteArray) 2 0 2 0 true _ ?side1 A10.out).mono ?_); (case side1 => exact GOK_below HG.out (by repeat (first | (with_reducible first | exact HB.out | apply below_alloc | apply pw_below_drewN | apply below_drew1) | exact HB.out))); rintro e w26 ⟨rfl, hb⟩; have n0_ := Aside0.mk (below_step (by repeat (first | (with_reducible first | exact HB.out | apply below_alloc | apply pw_below_drewN | apply below_drew1) | exact HB.out)) hb); clear HB; have HB := n0_; clear n0_; (try clear hb); (try clear hb2); (try clear hk); (try clear hi)) | (go_at_call 14; (with_reducible refine (redpencillaw41_places.calls k (⟨#[97, 98, 10, 9, 99, 32, 100, 10]⟩ : ByteArray) 7 1 4 0 false _ ?side1 A12.out).mono ?_); (case side1 => exact GOK_below HG.out (by repeat (first | (with_reducible first | exact HB.out | apply below_alloc | apply pw_below_drewN | apply below_drew1) | exact HB.out))); rintro e w27 ⟨rfl, hb⟩; have n0_ := Aside0.mk (below_step (by repeat (first | (with_reducible first | exact HB.out | apply below_alloc | apply pw_below_drewN | apply below_drew1) | exact HB.out)) hb); clear HB; have HB := n0_; clear n0_; (try clear hb); (try clear hb2); (try clear hk); (try clear hi)))
        go_meet
        case rel => exact ⟨_, (true), (by first | rfl | (simp; done) | (simp [*]; done)), H', ⟨by first | omega | exact Nat.le_refl _⟩, ⟨by repeat (first | (with_reducible first | exact HB.out | apply below_alloc | apply pw_below_drewN | apply below_drew1) | exact HB.out)⟩⟩
      ·
       replace c11 := Bool.eq_false_iff.mpr c11
       subst c11
       have H1 : (redpencillaw41_known.j0 k (⟨#[97, 98, 10, 9, 99, 32, 100, 10]⟩ : ByteArray) true) = some r := by rw [if_neg (show ¬ (false = true) by decide)] at H; exact H
       clear H
       have H := H1
       clear H1
       have H' := Aside0.mk H
       clear H
       go_wp2_with (first | ((with_reducible refine gate_callee (f := 11) rfl ?_); refine goesL_ (some 3) rfl rfl Tryd.func11 (by kernel_rfl) rfl #[.string (⟨#[97, 98, 10, 9, 99, 32, 100, 10]⟩ : ByteArray), .int .i64 3, .int .i64 0] rfl (by (try simp only [List.map_toArray, List.map_cons, List.map_nil]); first | done | rfl | (simp only [List.length_drop, List.length_take]; rfl)) ?_; (with_reducible refine (redpencillaw41_counts.calls k (⟨#[97, 98, 10, 9, 99, 32, 100, 10]⟩ : ByteArray) 3 0 true _ ?side1 A2.out).mono ?_); (case side1 => exact GOK_below HG.out (by repeat (first | (with_reducible first | exact HB.out | apply below_alloc | apply pw_below_drewN | apply below_drew1) | exact HB.out))); rintro e w28 ⟨rfl, hb⟩; refine ⟨_, rfl, ?_⟩; have n0_ := Aside0.mk (below_step (by repeat (first | (with_reducible first | exact HB.out | apply below_alloc | apply pw_below_drewN | apply below_drew1) | exact HB.out)) hb); clear HB; have HB := n0_; clear n0_; (try clear hb); (try clear hb2); (try clear hk); (try clear hi)) | (go_at_call 12; (with_reducible refine (redpencillaw41_line.calls k (⟨#[97, 98, 10, 9, 99, 32, 100, 10]⟩ : ByteArray) 1 (⟨#[9, 99, 32, 100]⟩ : ByteArray) 0 true _ ?side1 A4.out).mono ?_); (case side1 => exact GOK_below HG.out (by repeat (first | (with_reducible first | exact HB.out | apply below_alloc | apply pw_below_drewN | apply below_drew1) | exact HB.out))); rintro e w29 ⟨rfl, hb⟩; have n0_ := Aside0.mk (below_step (by repeat (first | (with_reducible first | exact HB.out | apply below_alloc | apply pw_below_drewN | apply below_drew1) | exact HB.out)) hb); clear HB; have HB := n0_; clear n0_; (try clear hb); (try clear hb2); (try clear hk); (try clear hi)) | (go_at_call 12; (with_reducible refine (redpencillaw41_line.calls k (⟨#[97, 98, 10, 9, 99, 32, 100, 10]⟩ : ByteArray) 2 (⟨#[]⟩ : ByteArray) 0 true _ ?side1 A6.out).mono ?_); (case side1 => exact GOK_below HG.out (by repeat (first | (with_reducible first | exact HB.out | apply below_alloc | apply pw_below_drewN | apply below_drew1) | exact HB.out))); rintro e w30 ⟨rfl, hb⟩; have n0_ := Aside0.mk (below_step (by repeat (first | (with_reducible first | exact HB.out | apply below_alloc | apply pw_below_drewN | apply below_drew1) | exact HB.out)) hb); clear HB; have HB := n0_; clear n0_; (try clear hb); (try clear hb2); (try clear hk); (try clear hi)) | (go_at_call 12; (with_reducible refine (redpencillaw41_line.calls k (⟨#[97, 98, 10, 9, 99, 32, 100, 10]⟩ : ByteArray) 3 (⟨#[]⟩ : ByteArray) 3 true _ ?side1 A8.out).mono ?_); (case side1 => exact GOK_below HG.out (by repeat (first | (with_reducible first | exact HB.out | apply below_alloc | apply pw_below_drewN | apply below_drew1) | exact HB.out))); rintro e w31 ⟨rfl, hb⟩; have n0_ := Aside0.mk (below_step (by repeat (first | (with_reducible first | exact HB.out | apply below_alloc | apply pw_below_drewN | apply below_drew1) | exact HB.out)) hb); clear HB; have HB := n0_; clear n0_; (try clear hb); (try clear hb2); (try clear hk); (try clear hi)) | (go_at_call 14; (with_reducible refine (redpencillaw41_places.calls k (⟨#[97, 98, 10, 9, 99, 32, 100, 10]⟩ : ByteArray) 2 0 2 0 false _ ?side1 A10.out).mono ?_); (case side1 => exact GOK_below HG.out (by repeat (first | (with_reducible first | exact HB.out | apply below_alloc | apply pw_below_drewN | apply below_drew1) | exact HB.out))); rintro e w32 ⟨rfl, hb⟩; have n0_ := Aside0.mk (below_step (by repeat (first | (with_reducible first | exact HB.out | apply below_alloc | apply pw_below_drewN | apply below_drew1) | exact HB.out)) hb); clear HB; have HB := n0_; clear n0_; (try clear hb); (try clear hb2); (try clear hk); (try clear hi)))
       go_meet
       case rel => exact ⟨_, (true), (by first | rfl | (simp; done) | (simp [*]; done)), H', ⟨by first | omega | exact Nat.le_refl _⟩, ⟨by repeat (first | (with_reducible first | exact HB.out | apply below_alloc | apply pw_below_drewN | apply below_drew1) | exact HB.out)⟩⟩
     ·
      replace c9 := Bool.eq_false_iff.mpr c9
      subst c9
      have H1 : (redpencillaw41_known.j0 k (⟨#[97, 98, 10, 9, 99, 32, 100, 10]⟩ : ByteArray) true) = some r := by rw [if_neg (show ¬ (false = true) by decide)] at H; exact H
      clear H
      have H := H1
      clear H1
      have H' := Aside0.mk H
      clear H
      go_wp2_with (first | ((with_reducible refine gate_callee (f := 11) rfl ?_); refine goesL_ (some 3) rfl rfl Tryd.func11 (by kernel_rfl) rfl #[.string (⟨#[97, 98, 10, 9, 99, 32, 100, 10]⟩ : ByteArray), .int .i64 3, .int .i64 0] rfl (by (try simp only [List.map_toArray, List.map_cons, List.map_nil]); first | done | rfl | (simp only [List.length_drop, List.length_take]; rfl)) ?_; (with_reducible refine (redpencillaw41_counts.calls k (⟨#[97, 98, 10, 9, 99, 32, 100, 10]⟩ : ByteArray) 3 0 true _ ?side1 A2.out).mono ?_); (case side1 => exact GOK_below HG.out (by repeat (first | (with_reducible first | exact HB.out | apply below_alloc | apply pw_below_drewN | apply below_drew1) | exact HB.out))); rintro e w33 ⟨rfl, hb⟩; refine ⟨_, rfl, ?_⟩; have n0_ := Aside0.mk (below_step (by repeat (first | (with_reducible first | exact HB.out | apply below_alloc | apply pw_below_drewN | apply below_drew1) | exact HB.out)) hb); clear HB; have HB := n0_; clear n0_; (try clear hb); (try clear hb2); (try clear hk); (try clear hi)) | (go_at_call 12; (with_reducible refine (redpencillaw41_line.calls k (⟨#[97, 98, 10, 9, 99, 32, 100, 10]⟩ : ByteArray) 1 (⟨#[9, 99, 32, 100]⟩ : ByteArray) 0 true _ ?side1 A4.out).mono ?_); (case side1 => exact GOK_below HG.out (by repeat (first | (with_reducible first | exact HB.out | apply below_alloc | apply pw_below_drewN | apply below_drew1) | exact HB.out))); rintro e w34 ⟨rfl, hb⟩; have n0_ := Aside0.mk (below_step (by repeat (first | (with_reducible first | exact HB.out | apply below_alloc | apply pw_below_drewN | apply below_drew1) | exact HB.out)) hb); clear HB; have HB := n0_; clear n0_; (try clear hb); (try clear hb2); (try clear hk); (try clear hi)) | (go_at_call 12; (with_reducible refine (redpencillaw41_line.calls k (⟨#[97, 98, 10, 9, 99, 32, 100, 10]⟩ : ByteArray) 2 (⟨#[]⟩ : ByteArray) 0 true _ ?side1 A6.out).mono ?_); (case side1 => exact GOK_below HG.out (by repeat (first | (with_reducible first | exact HB.out | apply below_alloc | apply pw_below_drewN | apply below_drew1) | exact HB.out))); rintro e w35 ⟨rfl, hb⟩; have n0_ := Aside0.mk (below_step (by repeat (first | (with_reducible first | exact HB.out | apply below_alloc | apply pw_below_drewN | apply below_drew1) | exact HB.out)) hb); clear HB; have HB := n0_; clear n0_; (try clear hb); (try clear hb2); (try clear hk); (try clear hi)) | (go_at_call 12; (with_reducible refine (redpencillaw41_line.calls k (⟨#[97, 98, 10, 9, 99, 32, 100, 10]⟩ : ByteArray) 3 (⟨#[]⟩ : ByteArray) 3 false _ ?side1 A8.out).mono ?_); (case side1 => exact GOK_below HG.out (by repeat (first | (with_reducible first | exact HB.out | apply below_alloc | apply pw_below_drewN | apply below_drew1) | exact HB.out))); rintro e w36 ⟨rfl, hb⟩; have n0_ := Aside0.mk (below_step (by repeat (first | (with_reducible first | exact HB.out | apply below_alloc | apply pw_below_drewN | apply below_drew1) | exact HB.out)) hb); clear HB; have HB := n0_; clear n0_; (try clear hb); (try clear hb2); (try clear hk); (try clear hi)))
      go_meet
      case rel => exact ⟨_, (true), (by first | rfl | (simp; done) | (simp [*]; done)), H', ⟨by first | omega | exact Nat.le_refl _⟩, ⟨by repeat (first | (with_reducible first | exact HB.out | apply below_alloc | apply pw_below_drewN | apply below_drew1) | exact HB.out)⟩⟩
    ·
     replace c7 := Bool.eq_false_iff.mpr c7
     subst c7
     have H1 : (redpencillaw41_known.j0 k (⟨#[97, 98, 10, 9, 99, 32, 100, 10]⟩ : ByteArray) true) = some r := by rw [if_neg (show ¬ (false = true) by decide)] at H; exact H
     clear H
     have H := H1
     clear H1
     have H' := Aside0.mk H
     clear H
     go_wp2_with (first | ((with_reducible refine gate_callee (f := 11) rfl ?_); refine goesL_ (some 3) rfl rfl Tryd.func11 (by kernel_rfl) rfl #[.string (⟨#[97, 98, 10, 9, 99, 32, 100, 10]⟩ : ByteArray), .int .i64 3, .int .i64 0] rfl (by (try simp only [List.map_toArray, List.map_cons, List.map_nil]); first | done | rfl | (simp only [List.length_drop, List.length_take]; rfl)) ?_; (with_reducible refine (redpencillaw41_counts.calls k (⟨#[97, 98, 10, 9, 99, 32, 100, 10]⟩ : ByteArray) 3 0 true _ ?side1 A2.out).mono ?_); (case side1 => exact GOK_below HG.out (by repeat (first | (with_reducible first | exact HB.out | apply below_alloc | apply pw_below_drewN | apply below_drew1) | exact HB.out))); rintro e w37 ⟨rfl, hb⟩; refine ⟨_, rfl, ?_⟩; have n0_ := Aside0.mk (below_step (by repeat (first | (with_reducible first | exact HB.out | apply below_alloc | apply pw_below_drewN | apply below_drew1) | exact HB.out)) hb); clear HB; have HB := n0_; clear n0_; (try clear hb); (try clear hb2); (try clear hk); (try clear hi)) | (go_at_call 12; (with_reducible refine (redpencillaw41_line.calls k (⟨#[97, 98, 10, 9, 99, 32, 100, 10]⟩ : ByteArray) 1 (⟨#[9, 99, 32, 100]⟩ : ByteArray) 0 true _ ?side1 A4.out).mono ?_); (case side1 => exact GOK_below HG.out (by repeat (first | (with_reducible first | exact HB.out | apply below_alloc | apply pw_below_drewN | apply below_drew1) | exact HB.out))); rintro e w38 ⟨rfl, hb⟩; have n0_ := Aside0.mk (below_step (by repeat (first | (with_reducible first | exact HB.out | apply below_alloc | apply pw_below_drewN | apply below_drew1) | exact HB.out)) hb); clear HB; have HB := n0_; clear n0_; (try clear hb); (try clear hb2); (try clear hk); (try clear hi)) | (go_at_call 12; (with_reducible refine (redpencillaw41_line.calls k (⟨#[97, 98, 10, 9, 99, 32, 100, 10]⟩ : ByteArray) 2 (⟨#[]⟩ : ByteArray) 0 false _ ?side1 A6.out).mono ?_); (case side1 => exact GOK_below HG.out (by repeat (first | (with_reducible first | exact HB.out | apply below_alloc | apply pw_below_drewN | apply below_drew1) | exact HB.out))); rintro e w39 ⟨rfl, hb⟩; have n0_ := Aside0.mk (below_step (by repeat (first | (with_reducible first | exact HB.out | apply below_alloc | apply pw_below_drewN | apply below_drew1) | exact HB.out)) hb); clear HB; have HB := n0_; clear n0_; (try clear hb); (try clear hb2); (try clear hk); (try clear hi)))
     go_meet
     case rel => exact ⟨_, (true), (by first | rfl | (simp; done) | (simp [*]; done)), H', ⟨by first | omega | exact Nat.le_refl _⟩, ⟨by repeat (first | (with_reducible first | exact HB.out | apply below_alloc | apply pw_below_drewN | apply below_drew1) | exact HB.out)⟩⟩
   ·
    replace c5 := Bool.eq_false_iff.mpr c5
    subst c5
    have H1 : (redpencillaw41_known.j0 k (⟨#[97, 98, 10, 9, 99, 32, 100, 10]⟩ : ByteArray) true) = some r := by rw [if_neg (show ¬ (false = true) by decide)] at H; exact H
    clear H
    have H := H1
    clear H1
    have H' := Aside0.mk H
    clear H
    go_wp2_with (first | ((with_reducible refine gate_callee (f := 11) rfl ?_); refine goesL_ (some 3) rfl rfl Tryd.func11 (by kernel_rfl) rfl #[.string (⟨#[97, 98, 10, 9, 99, 32, 100, 10]⟩ : ByteArray), .int .i64 3, .int .i64 0] rfl (by (try simp only [List.map_toArray, List.map_cons, List.map_nil]); first | done | rfl | (simp only [List.length_drop, List.length_take]; rfl)) ?_; (with_reducible refine (redpencillaw41_counts.calls k (⟨#[97, 98, 10, 9, 99, 32, 100, 10]⟩ : ByteArray) 3 0 true _ ?side1 A2.out).mono ?_); (case side1 => exact GOK_below HG.out (by repeat (first | (with_reducible first | exact HB.out | apply below_alloc | apply pw_below_drewN | apply below_drew1) | exact HB.out))); rintro e w40 ⟨rfl, hb⟩; refine ⟨_, rfl, ?_⟩; have n0_ := Aside0.mk (below_step (by repeat (first | (with_reducible first | exact HB.out | apply below_alloc | apply pw_below_drewN | apply below_drew1) | exact HB.out)) hb); clear HB; have HB := n0_; clear n0_; (try clear hb); (try clear hb2); (try clear hk); (try clear hi)) | (go_at_call 12; (with_reducible refine (redpencillaw41_line.calls k (⟨#[97, 98, 10, 9, 99, 32, 100, 10]⟩ : ByteArray) 1 (⟨#[9, 99, 32, 100]⟩ : ByteArray) 0 false _ ?side1 A4.out).mono ?_); (case side1 => exact GOK_below HG.out (by repeat (first | (with_reducible first | exact HB.out | apply below_alloc | apply pw_below_drewN | apply below_drew1) | exact HB.out))); rintro e w41 ⟨rfl, hb⟩; have n0_ := Aside0.mk (below_step (by repeat (first | (with_reducible first | exact HB.out | apply below_alloc | apply pw_below_drewN | apply below_drew1) | exact HB.out)) hb); clear HB; have HB := n0_; clear n0_; (try clear hb); (try clear hb2); (try clear hk); (try clear hi)))
    go_meet
    case rel => exact ⟨_, (true), (by first | rfl | (simp; done) | (simp [*]; done)), H', ⟨by first | omega | exact Nat.le_refl _⟩, ⟨by repeat (first | (with_reducible first | exact HB.out | apply below_alloc | apply pw_below_drewN | apply below_drew1) | exact HB.out)⟩⟩
  ·
   replace c3 := Bool.eq_false_iff.mpr c3
   subst c3
   have H1 : (redpencillaw41_known.j0 k (⟨#[97, 98, 10, 9, 99, 32, 100, 10]⟩ : ByteArray) true) = some r := by rw [if_neg (show ¬ (false = true) by decide)] at H; exact H
   clear H
   have H := H1
   clear H1
   have H' := Aside0.mk H
   clear H
   go_wp2_with (first | ((with_reducible refine gate_callee (f := 11) rfl ?_); refine goesL_ (some 3) rfl rfl Tryd.func11 (by kernel_rfl) rfl #[.string (⟨#[97, 98, 10, 9, 99, 32, 100, 10]⟩ : ByteArray), .int .i64 3, .int .i64 0] rfl (by (try simp only [List.map_toArray, List.map_cons, List.map_nil]); first | done | rfl | (simp only [List.length_drop, List.length_take]; rfl)) ?_; (with_reducible refine (redpencillaw41_counts.calls k (⟨#[97, 98, 10, 9, 99, 32, 100, 10]⟩ : ByteArray) 3 0 false _ ?side1 A2.out).mono ?_); (case side1 => exact GOK_below HG.out (by repeat (first | (with_reducible first | exact HB.out | apply below_alloc | apply pw_below_drewN | apply below_drew1) | exact HB.out))); rintro e w42 ⟨rfl, hb⟩; refine ⟨_, rfl, ?_⟩; have n0_ := Aside0.mk (below_step (by repeat (first | (with_reducible first | exact HB.out | apply below_alloc | apply pw_below_drewN | apply below_drew1) | exact HB.out)) hb); clear HB; have HB := n0_; clear n0_; (try clear hb); (try clear hb2); (try clear hk); (try clear hi)))
   go_meet
   case rel => exact ⟨_, (true), (by first | rfl | (simp; done) | (simp [*]; done)), H', ⟨by first | omega | exact Nat.le_refl _⟩, ⟨by repeat (first | (with_reducible first | exact HB.out | apply below_alloc | apply pw_below_drewN | apply below_drew1) | exact HB.out)⟩⟩
 case rest =>
  clear HC1
  try clear c1
  try clear p2
  try clear c3
  try clear c5
  try clear c7
  try clear c9
  try clear c11
  try clear c13
  obtain ⟨kq, x34_0, rfl, HA, HJ0, HB⟩ := hcut
  cases kq with
  | zero => exact absurd HA.out (by simp [redpencillaw41_known.j0])
  | succ kj0 =>
   have H := HA.out
   clear HA
   simp only [redpencillaw41_known.j0] at H
   by_cases c43 : x34_0 = true
   ·
    subst c43
    have H1 : (some false) = some r := by rw [if_pos rfl] at H; exact H
    clear H
    have H := H1
    clear H1
    obtain rfl := Option.some.inj H
    go_wp2
    go_ret
    exact ⟨by first | rfl | (simp [errW_none, errW_some] <;> rfl) | (simp [*, errW_none, errW_some] <;> rfl), by repeat (first | (with_reducible first | exact HB.out | apply below_alloc | apply pw_below_drewN | apply below_drew1) | exact HB.out)⟩
   ·
    replace c43 := Bool.eq_false_iff.mpr c43
    subst c43
    have H1 : ((redpencillaw41_at.f kj0 (⟨#[97, 98, 10, 9, 99, 32, 100, 10]⟩ : ByteArray) 1 4 7 0).bind fun t234 => (if t234 = true then ((redpencillaw41_at.f kj0 (⟨#[97, 98, 10, 9, 99, 32, 100, 10]⟩ : ByteArray) 1 5 0 3).bind fun t235 => (if t235 = true then ((redpencillaw41_wide.f kj0 (⟨#[97, 98, 10, 9, 99, 32, 100, 10]⟩ : ByteArray) 7 4 7 0).bind fun t236 => (if t236 = true then ((redpencillaw41_moves.f kj0 (⟨#[97, 98, 10, 9, 99, 32, 100, 10]⟩ : ByteArray) 1 1 3 6 0).bind fun t237 => (if t237 = true then ((redpencillaw41_moves.f kj0 (⟨#[97, 98, 10, 9, 99, 32, 100, 10]⟩ : ByteArray) 6 (-5) 1 1 0).bind fun t238 => (if t238 = true then ((redpencillaw41_moves.f kj0 (⟨#[97, 98, 10, 9, 99, 32, 100, 10]⟩ : ByteArray) 6 9 2 8 0).bind fun t239 => (if t239 = true then ((redpencillaw41_wide.f kj0 (⟨#[97, 98, 10, 9, 99, 32, 100, 10]⟩ : ByteArray) 7 0 0 2).bind fun t240 => (redpencillaw41_known.j1 kj0 (⟨#[97, 98, 10, 9, 99, 32, 100, 10]⟩ : ByteArray) (!t240))) else (redpencillaw41_known.j1 kj0 (⟨#[97, 98, 10, 9, 99, 32, 100, 10]⟩ : ByteArray) true))) else (redpencillaw41_known.j1 kj0 (⟨#[97, 98, 10, 9, 99, 32, 100, 10]⟩ : ByteArray) true))) else (redpencillaw41_known.j1 kj0 (⟨#[97, 98, 10, 9, 99, 32, 100, 10]⟩ : ByteArray) true))) else (redpencillaw41_known.j1 kj0 (⟨#[97, 98, 10, 9, 99, 32, 100, 10]⟩ : ByteArray) true))) else (redpencillaw41_known.j1 kj0 (⟨#[97, 98, 10, 9, 99, 32, 100, 10]⟩ : ByteArray) true))) else (redpencillaw41_known.j1 kj0 (⟨#[97, 98, 10, 9, 99, 32, 100, 10]⟩ : ByteArray) true))) = some r := by rw [if_neg (show ¬ (false = true) by decide)] at H; exact H
    clear H
    have H := H1
    clear H1
    have HC44 := Aside0.mk H
    clear H
    go_upto_region 4 with (fail)
    go_cut [67] (fun v67 wc => ∃ (kq : Nat) (x67_43 : Bool), v67 = .bool x67_43 ∧ Aside0 (redpencillaw41_known.j1 kq (⟨#[97, 98, 10, 9, 99, 32, 100, 10]⟩ : ByteArray) x67_43 = some r) ∧ Aside0 (kq ≤ kj0) ∧ Aside0 (Below w.heap.size w wc))
    case first =>
     have H := HC44.out
     clear HC44
     replace H := Option.bind_eq_some_iff.mp H
     obtain ⟨t234, A450, H⟩ := H
     replace H : (if t234 = true then ((redpencillaw41_at.f kj0 (⟨#[97, 98, 10, 9, 99, 32, 100, 10]⟩ : ByteArray) 1 5 0 3).bind fun t235 => (if t235 = true then ((redpencillaw41_wide.f kj0 (⟨#[97, 98, 10, 9, 99, 32, 100, 10]⟩ : ByteArray) 7 4 7 0).bind fun t236 => (if t236 = true then ((redpencillaw41_moves.f kj0 (⟨#[97, 98, 10, 9, 99, 32, 100, 10]⟩ : ByteArray) 1 1 3 6 0).bind fun t237 => (if t237 = true then ((redpencillaw41_moves.f kj0 (⟨#[97, 98, 10, 9, 99, 32, 100, 10]⟩ : ByteArray) 6 (-5) 1 1 0).bind fun t238 => (if t238 = true then ((redpencillaw41_moves.f kj0 (⟨#[97, 98, 10, 9, 99, 32, 100, 10]⟩ : ByteArray) 6 9 2 8 0).bind fun t239 => (if t239 = true then ((redpencillaw41_wide.f kj0 (⟨#[97, 98, 10, 9, 99, 32, 100, 10]⟩ : ByteArray) 7 0 0 2).bind fun t240 => (redpencillaw41_known.j1 kj0 (⟨#[97, 98, 10, 9, 99, 32, 100, 10]⟩ : ByteArray) (!t240))) else (redpencillaw41_known.j1 kj0 (⟨#[97, 98, 10, 9, 99, 32, 100, 10]⟩ : ByteArray) true))) else (redpencillaw41_known.j1 kj0 (⟨#[97, 98, 10, 9, 99, 32, 100, 10]⟩ : ByteArray) true))) else (redpencillaw41_known.j1 kj0 (⟨#[97, 98, 10, 9, 99, 32, 100, 10]⟩ : ByteArray) true))) else (redpencillaw41_known.j1 kj0 (⟨#[97, 98, 10, 9, 99, 32, 100, 10]⟩ : ByteArray) true))) else (redpencillaw41_known.j1 kj0 (⟨#[97, 98, 10, 9, 99, 32, 100, 10]⟩ : ByteArray) true))) else (redpencillaw41_known.j1 kj0 (⟨#[97, 98, 10, 9, 99, 32, 100, 10]⟩ : ByteArray) true)) = some r := H
     have A45 := Aside0.mk A450
     clear A450
     by_cases c46 : t234 = true
     ·
      subst c46
      have H1 : ((redpencillaw41_at.f kj0 (⟨#[97, 98, 10, 9, 99, 32, 100, 10]⟩ : ByteArray) 1 5 0 3).bind fun t235 => (if t235 = true then ((redpencillaw41_wide.f kj0 (⟨#[97, 98, 10, 9, 99, 32, 100, 10]⟩ : ByteArray) 7 4 7 0).bind fun t236 => (if t236 = true then ((redpencillaw41_moves.f kj0 (⟨#[97, 98, 10, 9, 99, 32, 100, 10]⟩ : ByteArray) 1 1 3 6 0).bind fun t237 => (if t237 = true then ((redpencillaw41_moves.f kj0 (⟨#[97, 98, 10, 9, 99, 32, 100, 10]⟩ : ByteArray) 6 (-5) 1 1 0).bind fun t238 => (if t238 = true then ((redpencillaw41_moves.f kj0 (⟨#[97, 98, 10, 9, 99, 32, 100, 10]⟩ : ByteArray) 6 9 2 8 0).bind fun t239 => (if t239 = true then ((redpencillaw41_wide.f kj0 (⟨#[97, 98, 10, 9, 99, 32, 100, 10]⟩ : ByteArray) 7 0 0 2).bind fun t240 => (redpencillaw41_known.j1 kj0 (⟨#[97, 98, 10, 9, 99, 32, 100, 10]⟩ : ByteArray) (!t240))) else (redpencillaw41_known.j1 kj0 (⟨#[97, 98, 10, 9, 99, 32, 100, 10]⟩ : ByteArray) true))) else (redpencillaw41_known.j1 kj0 (⟨#[97, 98, 10, 9, 99, 32, 100, 10]⟩ : ByteArray) true))) else (redpencillaw41_known.j1 kj0 (⟨#[97, 98, 10, 9, 99, 32, 100, 10]⟩ : ByteArray) true))) else (redpencillaw41_known.j1 kj0 (⟨#[97, 98, 10, 9, 99, 32, 100, 10]⟩ : ByteArray) true))) else (redpencillaw41_known.j1 kj0 (⟨#[97, 98, 10, 9, 99, 32, 100, 10]⟩ : ByteArray) true))) = some r := by rw [if_pos rfl] at H; exact H
      clear H
      have H := H1
      clear H1
      replace H := Option.bind_eq_some_iff.mp H
      obtain ⟨t235, A470, H⟩ := H
      replace H : (if t235 = true then ((redpencillaw41_wide.f kj0 (⟨#[97, 98, 10, 9, 99, 32, 100, 10]⟩ : ByteArray) 7 4 7 0).bind fun t236 => (if t236 = true then ((redpencillaw41_moves.f kj0 (⟨#[97, 98, 10, 9, 99, 32, 100, 10]⟩ : ByteArray) 1 1 3 6 0).bind fun t237 => (if t237 = true then ((redpencillaw41_moves.f kj0 (⟨#[97, 98, 10, 9, 99, 32, 100, 10]⟩ : ByteArray) 6 (-5) 1 1 0).bind fun t238 => (if t238 = true then ((redpencillaw41_moves.f kj0 (⟨#[97, 98, 10, 9, 99, 32, 100, 10]⟩ : ByteArray) 6 9 2 8 0).bind fun t239 => (if t239 = true then ((redpencillaw41_wide.f kj0 (⟨#[97, 98, 10, 9, 99, 32, 100, 10]⟩ : ByteArray) 7 0 0 2).bind fun t240 => (redpencillaw41_known.j1 kj0 (⟨#[97, 98, 10, 9, 99, 32, 100, 10]⟩ : ByteArray) (!t240))) else (redpencillaw41_known.j1 kj0 (⟨#[97, 98, 10, 9, 99, 32, 100, 10]⟩ : ByteArray) true))) else (redpencillaw41_known.j1 kj0 (⟨#[97, 98, 10, 9, 99, 32, 100, 10]⟩ : ByteArray) true))) else (redpencillaw41_known.j1 kj0 (⟨#[97, 98, 10, 9, 99, 32, 100, 10]⟩ : ByteArray) true))) else (redpencillaw41_known.j1 kj0 (⟨#[97, 98, 10, 9, 99, 32, 100, 10]⟩ : ByteArray) true))) else (redpencillaw41_known.j1 kj0 (⟨#[97, 98, 10, 9, 99, 32, 100, 10]⟩ : ByteArray) true)) = some r := H
      have A47 := Aside0.mk A470
      clear A470
      by_cases c48 : t235 = true
      ·
       subst c48
       have H1 : ((redpencillaw41_wide.f kj0 (⟨#[97, 98, 10, 9, 99, 32, 100, 10]⟩ : ByteArray) 7 4 7 0).bind fun t236 => (if t236 = true then ((redpencillaw41_moves.f kj0 (⟨#[97, 98, 10, 9, 99, 32, 100, 10]⟩ : ByteArray) 1 1 3 6 0).bind fun t237 => (if t237 = true then ((redpencillaw41_moves.f kj0 (⟨#[97, 98, 10, 9, 99, 32, 100, 10]⟩ : ByteArray) 6 (-5) 1 1 0).bind fun t238 => (if t238 = true then ((redpencillaw41_moves.f kj0 (⟨#[97, 98, 10, 9, 99, 32, 100, 10]⟩ : ByteArray) 6 9 2 8 0).bind fun t239 => (if t239 = true then ((redpencillaw41_wide.f kj0 (⟨#[97, 98, 10, 9, 99, 32, 100, 10]⟩ : ByteArray) 7 0 0 2).bind fun t240 => (redpencillaw41_known.j1 kj0 (⟨#[97, 98, 10, 9, 99, 32, 100, 10]⟩ : ByteArray) (!t240))) else (redpencillaw41_known.j1 kj0 (⟨#[97, 98, 10, 9, 99, 32, 100, 10]⟩ : ByteArray) true))) else (redpencillaw41_known.j1 kj0 (⟨#[97, 98, 10, 9, 99, 32, 100, 10]⟩ : ByteArray) true))) else (redpencillaw41_known.j1 kj0 (⟨#[97, 98, 10, 9, 99, 32, 100, 10]⟩ : ByteArray) true))) else (redpencillaw41_known.j1 kj0 (⟨#[97, 98, 10, 9, 99, 32, 100, 10]⟩ : ByteArray) true))) = some r := by rw [if_pos rfl] at H; exact H
       clear H
       have H := H1
       clear H1
       replace H := Option.bind_eq_some_iff.mp H
       obtain ⟨t236, A490, H⟩ := H
       replace H : (if t236 = true then ((redpencillaw41_moves.f kj0 (⟨#[97, 98, 10, 9, 99, 32, 100, 10]⟩ : ByteArray) 1 1 3 6 0).bind fun t237 => (if t237 = true then ((redpencillaw41_moves.f kj0 (⟨#[97, 98, 10, 9, 99, 32, 100, 10]⟩ : ByteArray) 6 (-5) 1 1 0).bind fun t238 => (if t238 = true then ((redpencillaw41_moves.f kj0 (⟨#[97, 98, 10, 9, 99, 32, 100, 10]⟩ : ByteArray) 6 9 2 8 0).bind fun t239 => (if t239 = true then ((redpencillaw41_wide.f kj0 (⟨#[97, 98, 10, 9, 99, 32, 100, 10]⟩ : ByteArray) 7 0 0 2).bind fun t240 => (redpencillaw41_known.j1 kj0 (⟨#[97, 98, 10, 9, 99, 32, 100, 10]⟩ : ByteArray) (!t240))) else (redpencillaw41_known.j1 kj0 (⟨#[97, 98, 10, 9, 99, 32, 100, 10]⟩ : ByteArray) true))) else (redpencillaw41_known.j1 kj0 (⟨#[97, 98, 10, 9, 99, 32, 100, 10]⟩ : ByteArray) true))) else (redpencillaw41_known.j1 kj0 (⟨#[97, 98, 10, 9, 99, 32, 100, 10]⟩ : ByteArray) true))) else (redpencillaw41_known.j1 kj0 (⟨#[97, 98, 10, 9, 99, 32, 100, 10]⟩ : ByteArray) true)) = some r := H
       have A49 := Aside0.mk A490
       clear A490
       by_cases c50 : t236 = true
       ·
        subst c50
        have H1 : ((redpencillaw41_moves.f kj0 (⟨#[97, 98, 10, 9, 99, 32, 100, 10]⟩ : ByteArray) 1 1 3 6 0).bind fun t237 => (if t237 = true then ((redpencillaw41_moves.f kj0 (⟨#[97, 98, 10, 9, 99, 32, 100, 10]⟩ : ByteArray) 6 (-5) 1 1 0).bind fun t238 => (if t238 = true then ((redpencillaw41_moves.f kj0 (⟨#[97, 98, 10, 9, 99, 32, 100, 10]⟩ : ByteArray) 6 9 2 8 0).bind fun t239 => (if t239 = true then ((redpencillaw41_wide.f kj0 (⟨#[97, 98, 10, 9, 99, 32, 100, 10]⟩ : ByteArray) 7 0 0 2).bind fun t240 => (redpencillaw41_known.j1 kj0 (⟨#[97, 98, 10, 9, 99, 32, 100, 10]⟩ : ByteArray) (!t240))) else (redpencillaw41_known.j1 kj0 (⟨#[97, 98, 10, 9, 99, 32, 100, 10]⟩ : ByteArray) true))) else (redpencillaw41_known.j1 kj0 (⟨#[97, 98, 10, 9, 99, 32, 100, 10]⟩ : ByteArray) true))) else (redpencillaw41_known.j1 kj0 (⟨#[97, 98, 10, 9, 99, 32, 100, 10]⟩ : ByteArray) true))) = some r := by rw [if_pos rfl] at H; exact H
        clear H
        have H := H1
        clear H1
        replace H := Option.bind_eq_some_iff.mp H
        obtain ⟨t237, A510, H⟩ := H
        replace H : (if t237 = true then ((redpencillaw41_moves.f kj0 (⟨#[97, 98, 10, 9, 99, 32, 100, 10]⟩ : ByteArray) 6 (-5) 1 1 0).bind fun t238 => (if t238 = true then ((redpencillaw41_moves.f kj0 (⟨#[97, 98, 10, 9, 99, 32, 100, 10]⟩ : ByteArray) 6 9 2 8 0).bind fun t239 => (if t239 = true then ((redpencillaw41_wide.f kj0 (⟨#[97, 98, 10, 9, 99, 32, 100, 10]⟩ : ByteArray) 7 0 0 2).bind fun t240 => (redpencillaw41_known.j1 kj0 (⟨#[97, 98, 10, 9, 99, 32, 100, 10]⟩ : ByteArray) (!t240))) else (redpencillaw41_known.j1 kj0 (⟨#[97, 98, 10, 9, 99, 32, 100, 10]⟩ : ByteArray) true))) else (redpencillaw41_known.j1 kj0 (⟨#[97, 98, 10, 9, 99, 32, 100, 10]⟩ : ByteArray) true))) else (redpencillaw41_known.j1 kj0 (⟨#[97, 98, 10, 9, 99, 32, 100, 10]⟩ : ByteArray) true)) = some r := H
        have A51 := Aside0.mk A510
        clear A510
        by_cases c52 : t237 = true
        ·
         subst c52
         have H1 : ((redpencillaw41_moves.f kj0 (⟨#[97, 98, 10, 9, 99, 32, 100, 10]⟩ : ByteArray) 6 (-5) 1 1 0).bind fun t238 => (if t238 = true then ((redpencillaw41_moves.f kj0 (⟨#[97, 98, 10, 9, 99, 32, 100, 10]⟩ : ByteArray) 6 9 2 8 0).bind fun t239 => (if t239 = true then ((redpencillaw41_wide.f kj0 (⟨#[97, 98, 10, 9, 99, 32, 100, 10]⟩ : ByteArray) 7 0 0 2).bind fun t240 => (redpencillaw41_known.j1 kj0 (⟨#[97, 98, 10, 9, 99, 32, 100, 10]⟩ : ByteArray) (!t240))) else (redpencillaw41_known.j1 kj0 (⟨#[97, 98, 10, 9, 99, 32, 100, 10]⟩ : ByteArray) true))) else (redpencillaw41_known.j1 kj0 (⟨#[97, 98, 10, 9, 99, 32, 100, 10]⟩ : ByteArray) true))) = some r := by rw [if_pos rfl] at H; exact H
         clear H
         have H := H1
         clear H1
         replace H := Option.bind_eq_some_iff.mp H
         obtain ⟨t238, A530, H⟩ := H
         replace H : (if t238 = true then ((redpencillaw41_moves.f kj0 (⟨#[97, 98, 10, 9, 99, 32, 100, 10]⟩ : ByteArray) 6 9 2 8 0).bind fun t239 => (if t239 = true then ((redpencillaw41_wide.f kj0 (⟨#[97, 98, 10, 9, 99, 32, 100, 10]⟩ : ByteArray) 7 0 0 2).bind fun t240 => (redpencillaw41_known.j1 kj0 (⟨#[97, 98, 10, 9, 99, 32, 100, 10]⟩ : ByteArray) (!t240))) else (redpencillaw41_known.j1 kj0 (⟨#[97, 98, 10, 9, 99, 32, 100, 10]⟩ : ByteArray) true))) else (redpencillaw41_known.j1 kj0 (⟨#[97, 98, 10, 9, 99, 32, 100, 10]⟩ : ByteArray) true)) = some r := H
         have A53 := Aside0.mk A530
         clear A530
         by_cases c54 : t238 = true
         ·
          subst c54
          have H1 : ((redpencillaw41_moves.f kj0 (⟨#[97, 98, 10, 9, 99, 32, 100, 10]⟩ : ByteArray) 6 9 2 8 0).bind fun t239 => (if t239 = true then ((redpencillaw41_wide.f kj0 (⟨#[97, 98, 10, 9, 99, 32, 100, 10]⟩ : ByteArray) 7 0 0 2).bind fun t240 => (redpencillaw41_known.j1 kj0 (⟨#[97, 98, 10, 9, 99, 32, 100, 10]⟩ : ByteArray) (!t240))) else (redpencillaw41_known.j1 kj0 (⟨#[97, 98, 10, 9, 99, 32, 100, 10]⟩ : ByteArray) true))) = some r := by rw [if_pos rfl] at H; exact H
          clear H
          have H := H1
          clear H1
          replace H := Option.bind_eq_some_iff.mp H
          obtain ⟨t239, A550, H⟩ := H
          replace H : (if t239 = true then ((redpencillaw41_wide.f kj0 (⟨#[97, 98, 10, 9, 99, 32, 100, 10]⟩ : ByteArray) 7 0 0 2).bind fun t240 => (redpencillaw41_known.j1 kj0 (⟨#[97, 98, 10, 9, 99, 32, 100, 10]⟩ : ByteArray) (!t240))) else (redpencillaw41_known.j1 kj0 (⟨#[97, 98, 10, 9, 99, 32, 100, 10]⟩ : ByteArray) true)) = some r := H
          have A55 := Aside0.mk A550
          clear A550
          by_cases c56 : t239 = true
          ·
           subst c56
           have H1 : ((redpencillaw41_wide.f kj0 (⟨#[97, 98, 10, 9, 99, 32, 100, 10]⟩ : ByteArray) 7 0 0 2).bind fun t240 => (redpencillaw41_known.j1 kj0 (⟨#[97, 98, 10, 9, 99, 32, 100, 10]⟩ : ByteArray) (!t240))) = some r := by rw [if_pos rfl] at H; exact H
           clear H
           have H := H1
           clear H1
           replace H := Option.bind_eq_some_iff.mp H
           obtain ⟨t240, A570, H⟩ := H
           replace H : (redpencillaw41_known.j1 kj0 (⟨#[97, 98, 10, 9, 99, 32, 100, 10]⟩ : ByteArray) (!t240)) = some r := H
           have A57 := Aside0.mk A570
           clear A570
           have H' := Aside0.mk H
           clear H
           go_wp2_with (first | ((with_reducible refine gate_callee (f := 15) rfl ?_); refine goesL_ (some 36) rfl rfl Tryd.func15 (by kernel_rfl) rfl #[.string (⟨#[97, 98, 10, 9, 99, 32, 100, 10]⟩ : ByteArray), .int .i64 1, .int .i64 4, .int .i64 7, .int .i64 0] rfl (by (try simp only [List.map_toArray, List.map_cons, List.map_nil]); first | done | rfl | (simp only [List.length_drop, List.length_take]; rfl)) ?_; (with_reducible refine (redpencillaw41_at.calls kj0 (⟨#[97, 98, 10, 9, 99, 32, 100, 10]⟩ : ByteArray) 1 4 7 0 true _ ?side1 A45.out).mono ?_); (case side1 => exact GOK_below HG.out (by repeat (first | (with_reducible first | exact HB.out | apply below_alloc | apply pw_below_drewN | apply below_drew1) | exact HB.out))); rintro e w58 ⟨rfl, hb⟩; refine ⟨_, rfl, ?_⟩; have n0_ := Aside0.mk (below_step (by repeat (first | (with_reducible first | exact HB.out | apply below_alloc | apply pw_below_drewN | apply below_drew1) | exact HB.out)) hb); clear HB; have HB := n0_; clear n0_; (try clear hb); (try clear hb2); (try clear hk); (try clear hi)) | (go_at_call 15; (with_reducible refine (redpencillaw41_at.calls kj0 (⟨#[97, 98, 10, 9, 99, 32, 100, 10]⟩ : ByteArray) 1 5 0 3 true _ ?side1 A47.out).mono ?_); (case side1 => exact GOK_below HG.out (by repeat (first | (with_reducible first | exact HB.out | apply below_alloc | apply pw_below_drewN | apply below_drew1) | exact HB.out))); rintro e w59 ⟨rfl, hb⟩; have n0_ := Aside0.mk (below_step (by repeat (first | (with_reducible first | exact HB.out | apply below_alloc | apply pw_below_drewN | apply below_drew1) | exact HB.out)) hb); clear HB; have HB := n0_; clear n0_; (try clear hb); (try clear hb2); (try clear hk); (try clear hi)) | (go_at_call 16; (with_reducible refine (redpencillaw41_wide.calls kj0 (⟨#[97, 98, 10, 9, 99, 32, 100, 10]⟩ : ByteArray) 7 4 7 0 true _ ?side1 A49.out).mono ?_); (case side1 => exact GOK_below HG.out (by repeat (first | (with_reducible first | exact HB.out | apply below_alloc | apply pw_below_drewN | apply below_drew1) | exact HB.out))); rintro e w60 ⟨rfl, hb⟩; have n0_ := Aside0.mk (below_step (by repeat (first | (with_reducible first | exact HB.out | apply below_alloc | apply pw_below_drewN | apply below_drew1) | exact HB.out)) hb); clear HB; have HB := n0_; clear n0_; (try clear hb); (try clear hb2); (try clear hk); (try clear hi)) | (go_at_call 19; (with_reducible refine (redpencillaw41_moves.calls kj0 (⟨#[97, 98, 10, 9, 99, 32, 100, 10]⟩ : ByteArray) 1 1 3 6 0 true _ ?side1 A51.out).mono ?_); (case side1 => exact GOK_below HG.out (by repeat (first | (with_reducible first | exact HB.out | apply below_alloc | apply pw_below_drewN | apply below_drew1) | exact HB.out))); rintro e w61 ⟨rfl, hb⟩; have n0_ := Aside0.mk (below_step (by repeat (first | (with_reducible first | exact HB.out | apply below_alloc | apply pw_below_drewN | apply below_drew1) | exact HB.out)) hb); clear HB; have HB := n0_; clear n0_; (try clear hb); (try clear hb2); (try clear hk); (try clear hi)) | (go_at_call 19; (with_reducible refine (redpencillaw41_moves.calls kj0 (⟨#[97, 98, 10, 9, 99, 32, 100, 10]⟩ : ByteArray) 6 (-5) 1 1 0 true _ ?side1 A53.out).mono ?_); (case side1 => exact GOK_below HG.out (by repeat (first | (with_reducible first | exact HB.out | apply below_alloc | apply pw_below_drewN | apply below_drew1) | exact HB.out))); rintro e w62 ⟨rfl, hb⟩; have n0_ := Aside0.mk (below_step (by repeat (first | (with_reducible first | exact HB.out | apply below_alloc | apply pw_below_drewN | apply below_drew1) | exact HB.out)) hb); clear HB; have HB := n0_; clear n0_; (try clear hb); (try clear hb2); (try clear hk); (try clear hi)) | (go_at_call 19; (with_reducible refine (redpencillaw41_moves.calls kj0 (⟨#[97, 98, 10, 9, 99, 32, 100, 10]⟩ : ByteArray) 6 9 2 8 0 true _ ?side1 A55.out).mono ?_); (case side1 => exact GOK_below HG.out (by repeat (first | (with_reducible first | exact HB.out | apply below_alloc | apply pw_below_drewN | apply below_drew1) | exact HB.out))); rintro e w63 ⟨rfl, hb⟩; have n0_ := Aside0.mk (below_step (by repeat (first | (with_reducible first | exact HB.out | apply below_alloc | apply pw_below_drewN | apply below_drew1) | exact HB.out)) hb); clear HB; have HB := n0_; clear n0_; (try clear hb); (try clear hb2); (try clear hk); (try clear hi)) | (go_at_call 16; (with_reducible refine (redpencillaw41_wide.calls kj0 (⟨#[97, 98, 10, 9, 99, 32, 100, 10]⟩ : ByteArray) 7 0 0 2 t240 _ ?side1 A57.out).mono ?_); (case side1 => exact GOK_below HG.out (by repeat (first | (with_reducible first | exact HB.out | apply below_alloc | apply pw_below_drewN | apply below_drew1) | exact HB.out))); rintro e w64 ⟨rfl, hb⟩; have n0_ := Aside0.mk (below_step (by repeat (first | (with_reducible first | exact HB.out | apply below_alloc | apply pw_below_drewN | apply below_drew1) | exact HB.out)) hb); clear HB; have HB := n0_; clear n0_; (try clear hb); (try clear hb2); (try clear hk); (try clear hi)))
           go_meet
           case rel => exact ⟨_, (!t240), (by first | rfl | (simp; done) | (simp [*]; done)), H', ⟨by have := HJ0.out; first | omega | exact Nat.le_refl _⟩, ⟨by repeat (first | (with_reducible first | exact HB.out | apply below_alloc | apply pw_below_drewN | apply below_drew1) | exact HB.out)⟩⟩
          ·
           replace c56 := Bool.eq_false_iff.mpr c56
           subst c56
           have H1 : (redpencillaw41_known.j1 kj0 (⟨#[97, 98, 10, 9, 99, 32, 100, 10]⟩ : ByteArray) true) = some r := by rw [if_neg (show ¬ (false = true) by decide)] at H; exact H
           clear H
           have H := H1
           clear H1
           have H' := Aside0.mk H
           clear H
           go_wp2_with (first | ((with_reducible refine gate_callee (f := 15) rfl ?_); refine goesL_ (some 36) rfl rfl Tryd.func15 (by kernel_rfl) rfl #[.string (⟨#[97, 98, 10, 9, 99, 32, 100, 10]⟩ : ByteArray), .int .i64 1, .int .i64 4, .int .i64 7, .int .i64 0] rfl (by (try simp only [List.map_toArray, List.map_cons, List.map_nil]); first | done | rfl | (simp only [List.length_drop, List.length_take]; rfl)) ?_; (with_reducible refine (redpencillaw41_at.calls kj0 (⟨#[97, 98, 10, 9, 99, 32, 100, 10]⟩ : ByteArray) 1 4 7 0 true _ ?side1 A45.out).mono ?_); (case side1 => exact GOK_below HG.out (by repeat (first | (with_reducible first | exact HB.out | apply below_alloc | apply pw_below_drewN | apply below_drew1) | exact HB.out))); rintro e w65 ⟨rfl, hb⟩; refine ⟨_, rfl, ?_⟩; have n0_ := Aside0.mk (below_step (by repeat (first | (with_reducible first | exact HB.out | apply below_alloc | apply pw_below_drewN | apply below_drew1) | exact HB.out)) hb); clear HB; have HB := n0_; clear n0_; (try clear hb); (try clear hb2); (try clear hk); (try clear hi)) | (go_at_call 15; (with_reducible refine (redpencillaw41_at.calls kj0 (⟨#[97, 98, 10, 9, 99, 32, 100, 10]⟩ : ByteArray) 1 5 0 3 true _ ?side1 A47.out).mono ?_); (case side1 => exact GOK_below HG.out (by repeat (first | (with_reducible first | exact HB.out | apply below_alloc | apply pw_below_drewN | apply below_drew1) | exact HB.out))); rintro e w66 ⟨rfl, hb⟩; have n0_ := Aside0.mk (below_step (by repeat (first | (with_reducible first | exact HB.out | apply below_alloc | apply pw_below_drewN | apply below_drew1) | exact HB.out)) hb); clear HB; have HB := n0_; clear n0_; (try clear hb); (try clear hb2); (try clear hk); (try clear hi)) | (go_at_call 16; (with_reducible refine (redpencillaw41_wide.calls kj0 (⟨#[97, 98, 10, 9, 99, 32, 100, 10]⟩ : ByteArray) 7 4 7 0 true _ ?side1 A49.out).mono ?_); (case side1 => exact GOK_below HG.out (by repeat (first | (with_reducible first | exact HB.out | apply below_alloc | apply pw_below_drewN | apply below_drew1) | exact HB.out))); rintro e w67 ⟨rfl, hb⟩; have n0_ := Aside0.mk (below_step (by repeat (first | (with_reducible first | exact HB.out | apply below_alloc | apply pw_below_drewN | apply below_drew1) | exact HB.out)) hb); clear HB; have HB := n0_; clear n0_; (try clear hb); (try clear hb2); (try clear hk); (try clear hi)) | (go_at_call 19; (with_reducible refine (redpencillaw41_moves.calls kj0 (⟨#[97, 98, 10, 9, 99, 32, 100, 10]⟩ : ByteArray) 1 1 3 6 0 true _ ?side1 A51.out).mono ?_); (case side1 => exact GOK_below HG.out (by repeat (first | (with_reducible first | exact HB.out | apply below_alloc | apply pw_below_drewN | apply below_drew1) | exact HB.out))); rintro e w68 ⟨rfl, hb⟩; have n0_ := Aside0.mk (below_step (by repeat (first | (with_reducible first | exact HB.out | apply below_alloc | apply pw_below_drewN | apply below_drew1) | exact HB.out)) hb); clear HB; have HB := n0_; clear n0_; (try clear hb); (try clear hb2); (try clear hk); (try clear hi)) | (go_at_call 19; (with_reducible refine (redpencillaw41_moves.calls kj0 (⟨#[97, 98, 10, 9, 99, 32, 100, 10]⟩ : ByteArray) 6 (-5) 1 1 0 true _ ?side1 A53.out).mono ?_); (case side1 => exact GOK_below HG.out (by repeat (first | (with_reducible first | exact HB.out | apply below_alloc | apply pw_below_drewN | apply below_drew1) | exact HB.out))); rintro e w69 ⟨rfl, hb⟩; have n0_ := Aside0.mk (below_step (by repeat (first | (with_reducible first | exact HB.out | apply below_alloc | apply pw_below_drewN | apply below_drew1) | exact HB.out)) hb); clear HB; have HB := n0_; clear n0_; (try clear hb); (try clear hb2); (try clear hk); (try clear hi)) | (go_at_call 19; (with_reducible refine (redpencillaw41_moves.calls kj0 (⟨#[97, 98, 10, 9, 99, 32, 100, 10]⟩ : ByteArray) 6 9 2 8 0 false _ ?side1 A55.out).mono ?_); (case side1 => exact GOK_below HG.out (by repeat (first | (with_reducible first | exact HB.out | apply below_alloc | apply pw_below_drewN | apply below_drew1) | exact HB.out))); rintro e w70 ⟨rfl, hb⟩; have n0_ := Aside0.mk (below_step (by repeat (first | (with_reducible first | exact HB.out | apply below_alloc | apply pw_below_drewN | apply below_drew1) | exact HB.out)) hb); clear HB; have HB := n0_; clear n0_; (try clear hb); (try clear hb2); (try clear hk); (try clear hi)))
           go_meet
           case rel => exact ⟨_, (true), (by first | rfl | (simp; done) | (simp [*]; done)), H', ⟨by have := HJ0.out; first | omega | exact Nat.le_refl _⟩, ⟨by repeat (first | (with_reducible first | exact HB.out | apply below_alloc | apply pw_below_drewN | apply below_drew1) | exact HB.out)⟩⟩
         ·
          replace c54 := Bool.eq_false_iff.mpr c54
          subst c54
          have H1 : (redpencillaw41_known.j1 kj0 (⟨#[97, 98, 10, 9, 99, 32, 100, 10]⟩ : ByteArray) true) = some r := by rw [if_neg (show ¬ (false = true) by decide)] at H; exact H
          clear H
          have H := H1
          clear H1
          have H' := Aside0.mk H
          clear H
          go_wp2_with (first | ((with_reducible refine gate_callee (f := 15) rfl ?_); refine goesL_ (some 36) rfl rfl Tryd.func15 (by kernel_rfl) rfl #[.string (⟨#[97, 98, 10, 9, 99, 32, 100, 10]⟩ : ByteArray), .int .i64 1, .int .i64 4, .int .i64 7, .int .i64 0] rfl (by (try simp only [List.map_toArray, List.map_cons, List.map_nil]); first | done | rfl | (simp only [List.length_drop, List.length_take]; rfl)) ?_; (with_reducible refine (redpencillaw41_at.calls kj0 (⟨#[97, 98, 10, 9, 99, 32, 100, 10]⟩ : ByteArray) 1 4 7 0 true _ ?side1 A45.out).mono ?_); (case side1 => exact GOK_below HG.out (by repeat (first | (with_reducible first | exact HB.out | apply below_alloc | apply pw_below_drewN | apply below_drew1) | exact HB.out))); rintro e w71 ⟨rfl, hb⟩; refine ⟨_, rfl, ?_⟩; have n0_ := Aside0.mk (below_step (by repeat (first | (with_reducible first | exact HB.out | apply below_alloc | apply pw_below_drewN | apply below_drew1) | exact HB.out)) hb); clear HB; have HB := n0_; clear n0_; (try clear hb); (try clear hb2); (try clear hk); (try clear hi)) | (go_at_call 15; (with_reducible refine (redpencillaw41_at.calls kj0 (⟨#[97, 98, 10, 9, 99, 32, 100, 10]⟩ : ByteArray) 1 5 0 3 true _ ?side1 A47.out).mono ?_); (case side1 => exact GOK_below HG.out (by repeat (first | (with_reducible first | exact HB.out | apply below_alloc | apply pw_below_drewN | apply below_drew1) | exact HB.out))); rintro e w72 ⟨rfl, hb⟩; have n0_ := Aside0.mk (below_step (by repeat (first | (with_reducible first | exact HB.out | apply below_alloc | apply pw_below_drewN | apply below_drew1) | exact HB.out)) hb); clear HB; have HB := n0_; clear n0_; (try clear hb); (try clear hb2); (try clear hk); (try clear hi)) | (go_at_call 16; (with_reducible refine (redpencillaw41_wide.calls kj0 (⟨#[97, 98, 10, 9, 99, 32, 100, 10]⟩ : ByteArray) 7 4 7 0 true _ ?side1 A49.out).mono ?_); (case side1 => exact GOK_below HG.out (by repeat (first | (with_reducible first | exact HB.out | apply below_alloc | apply pw_below_drewN | apply below_drew1) | exact HB.out))); rintro e w73 ⟨rfl, hb⟩; have n0_ := Aside0.mk (below_step (by repeat (first | (with_reducible first | exact HB.out | apply below_alloc | apply pw_below_drewN | apply below_drew1) | exact HB.out)) hb); clear HB; have HB := n0_; clear n0_; (try clear hb); (try clear hb2); (try clear hk); (try clear hi)) | (go_at_call 19; (with_reducible refine (redpencillaw41_moves.calls kj0 (⟨#[97, 98, 10, 9, 99, 32, 100, 10]⟩ : ByteArray) 1 1 3 6 0 true _ ?side1 A51.out).mono ?_); (case side1 => exact GOK_below HG.out (by repeat (first | (with_reducible first | exact HB.out | apply below_alloc | apply pw_below_drewN | apply below_drew1) | exact HB.out))); rintro e w74 ⟨rfl, hb⟩; have n0_ := Aside0.mk (below_step (by repeat (first | (with_reducible first | exact HB.out | apply below_alloc | apply pw_below_drewN | apply below_drew1) | exact HB.out)) hb); clear HB; have HB := n0_; clear n0_; (try clear hb); (try clear hb2); (try clear hk); (try clear hi)) | (go_at_call 19; (with_reducible refine (redpencillaw41_moves.calls kj0 (⟨#[97, 98, 10, 9, 99, 32, 100, 10]⟩ : ByteArray) 6 (-5) 1 1 0 false _ ?side1 A53.out).mono ?_); (case side1 => exact GOK_below HG.out (by repeat (first | (with_reducible first | exact HB.out | apply below_alloc | apply pw_below_drewN | apply below_drew1) | exact HB.out))); rintro e w75 ⟨rfl, hb⟩; have n0_ := Aside0.mk (below_step (by repeat (first | (with_reducible first | exact HB.out | apply below_alloc | apply pw_below_drewN | apply below_drew1) | exact HB.out)) hb); clear HB; have HB := n0_; clear n0_; (try clear hb); (try clear hb2); (try clear hk); (try clear hi)))
          go_meet
          case rel => exact ⟨_, (true), (by first | rfl | (simp; done) | (simp [*]; done)), H', ⟨by have := HJ0.out; first | omega | exact Nat.le_refl _⟩, ⟨by repeat (first | (with_reducible first | exact HB.out | apply below_alloc | apply pw_below_drewN | apply below_drew1) | exact HB.out)⟩⟩
        ·
         replace c52 := Bool.eq_false_iff.mpr c52
         subst c52
         have H1 : (redpencillaw41_known.j1 kj0 (⟨#[97, 98, 10, 9, 99, 32, 100, 10]⟩ : ByteArray) true) = some r := by rw [if_neg (show ¬ (false = true) by decide)] at H; exact H
         clear H
         have H := H1
         clear H1
         have H' := Aside0.mk H
         clear H
         go_wp2_with (first | ((with_reducible refine gate_callee (f := 15) rfl ?_); refine goesL_ (some 36) rfl rfl Tryd.func15 (by kernel_rfl) rfl #[.string (⟨#[97, 98, 10, 9, 99, 32, 100, 10]⟩ : ByteArray), .int .i64 1, .int .i64 4, .int .i64 7, .int .i64 0] rfl (by (try simp only [List.map_toArray, List.map_cons, List.map_nil]); first | done | rfl | (simp only [List.length_drop, List.length_take]; rfl)) ?_; (with_reducible refine (redpencillaw41_at.calls kj0 (⟨#[97, 98, 10, 9, 99, 32, 100, 10]⟩ : ByteArray) 1 4 7 0 true _ ?side1 A45.out).mono ?_); (case side1 => exact GOK_below HG.out (by repeat (first | (with_reducible first | exact HB.out | apply below_alloc | apply pw_below_drewN | apply below_drew1) | exact HB.out))); rintro e w76 ⟨rfl, hb⟩; refine ⟨_, rfl, ?_⟩; have n0_ := Aside0.mk (below_step (by repeat (first | (with_reducible first | exact HB.out | apply below_alloc | apply pw_below_drewN | apply below_drew1) | exact HB.out)) hb); clear HB; have HB := n0_; clear n0_; (try clear hb); (try clear hb2); (try clear hk); (try clear hi)) | (go_at_call 15; (with_reducible refine (redpencillaw41_at.calls kj0 (⟨#[97, 98, 10, 9, 99, 32, 100, 10]⟩ : ByteArray) 1 5 0 3 true _ ?side1 A47.out).mono ?_); (case side1 => exact GOK_below HG.out (by repeat (first | (with_reducible first | exact HB.out | apply below_alloc | apply pw_below_drewN | apply below_drew1) | exact HB.out))); rintro e w77 ⟨rfl, hb⟩; have n0_ := Aside0.mk (below_step (by repeat (first | (with_reducible first | exact HB.out | apply below_alloc | apply pw_below_drewN | apply below_drew1) | exact HB.out)) hb); clear HB; have HB := n0_; clear n0_; (try clear hb); (try clear hb2); (try clear hk); (try clear hi)) | (go_at_call 16; (with_reducible refine (redpencillaw41_wide.calls kj0 (⟨#[97, 98, 10, 9, 99, 32, 100, 10]⟩ : ByteArray) 7 4 7 0 true _ ?side1 A49.out).mono ?_); (case side1 => exact GOK_below HG.out (by repeat (first | (with_reducible first | exact HB.out | apply below_alloc | apply pw_below_drewN | apply below_drew1) | exact HB.out))); rintro e w78 ⟨rfl, hb⟩; have n0_ := Aside0.mk (below_step (by repeat (first | (with_reducible first | exact HB.out | apply below_alloc | apply pw_below_drewN | apply below_drew1) | exact HB.out)) hb); clear HB; have HB := n0_; clear n0_; (try clear hb); (try clear hb2); (try clear hk); (try clear hi)) | (go_at_call 19; (with_reducible refine (redpencillaw41_moves.calls kj0 (⟨#[97, 98, 10, 9, 99, 32, 100, 10]⟩ : ByteArray) 1 1 3 6 0 false _ ?side1 A51.out).mono ?_); (case side1 => exact GOK_below HG.out (by repeat (first | (with_reducible first | exact HB.out | apply below_alloc | apply pw_below_drewN | apply below_drew1) | exact HB.out))); rintro e w79 ⟨rfl, hb⟩; have n0_ := Aside0.mk (below_step (by repeat (first | (with_reducible first | exact HB.out | apply below_alloc | apply pw_below_drewN | apply below_drew1) | exact HB.out)) hb); clear HB; have HB := n0_; clear n0_; (try clear hb); (try clear hb2); (try clear hk); (try clear hi)))
         go_meet
         case rel => exact ⟨_, (true), (by first | rfl | (simp; done) | (simp [*]; done)), H', ⟨by have := HJ0.out; first | omega | exact Nat.le_refl _⟩, ⟨by repeat (first | (with_reducible first | exact HB.out | apply below_alloc | apply pw_below_drewN | apply below_drew1) | exact HB.out)⟩⟩
       ·
        replace c50 := Bool.eq_false_iff.mpr c50
        subst c50
        have H1 : (redpencillaw41_known.j1 kj0 (⟨#[97, 98, 10, 9, 99, 32, 100, 10]⟩ : ByteArray) true) = some r := by rw [if_neg (show ¬ (false = true) by decide)] at H; exact H
        clear H
        have H := H1
        clear H1
        have H' := Aside0.mk H
        clear H
        go_wp2_with (first | ((with_reducible refine gate_callee (f := 15) rfl ?_); refine goesL_ (some 36) rfl rfl Tryd.func15 (by kernel_rfl) rfl #[.string (⟨#[97, 98, 10, 9, 99, 32, 100, 10]⟩ : ByteArray), .int .i64 1, .int .i64 4, .int .i64 7, .int .i64 0] rfl (by (try simp only [List.map_toArray, List.map_cons, List.map_nil]); first | done | rfl | (simp only [List.length_drop, List.length_take]; rfl)) ?_; (with_reducible refine (redpencillaw41_at.calls kj0 (⟨#[97, 98, 10, 9, 99, 32, 100, 10]⟩ : ByteArray) 1 4 7 0 true _ ?side1 A45.out).mono ?_); (case side1 => exact GOK_below HG.out (by repeat (first | (with_reducible first | exact HB.out | apply below_alloc | apply pw_below_drewN | apply below_drew1) | exact HB.out))); rintro e w80 ⟨rfl, hb⟩; refine ⟨_, rfl, ?_⟩; have n0_ := Aside0.mk (below_step (by repeat (first | (with_reducible first | exact HB.out | apply below_alloc | apply pw_below_drewN | apply below_drew1) | exact HB.out)) hb); clear HB; have HB := n0_; clear n0_; (try clear hb); (try clear hb2); (try clear hk); (try clear hi)) | (go_at_call 15; (with_reducible refine (redpencillaw41_at.calls kj0 (⟨#[97, 98, 10, 9, 99, 32, 100, 10]⟩ : ByteArray) 1 5 0 3 true _ ?side1 A47.out).mono ?_); (case side1 => exact GOK_below HG.out (by repeat (first | (with_reducible first | exact HB.out | apply below_alloc | apply pw_below_drewN | apply below_drew1) | exact HB.out))); rintro e w81 ⟨rfl, hb⟩; have n0_ := Aside0.mk (below_step (by repeat (first | (with_reducible first | exact HB.out | apply below_alloc | apply pw_below_drewN | apply below_drew1) | exact HB.out)) hb); clear HB; have HB := n0_; clear n0_; (try clear hb); (try clear hb2); (try clear hk); (try clear hi)) | (go_at_call 16; (with_reducible refine (redpencillaw41_wide.calls kj0 (⟨#[97, 98, 10, 9, 99, 32, 100, 10]⟩ : ByteArray) 7 4 7 0 false _ ?side1 A49.out).mono ?_); (case side1 => exact GOK_below HG.out (by repeat (first | (with_reducible first | exact HB.out | apply below_alloc | apply pw_below_drewN | apply below_drew1) | exact HB.out))); rintro e w82 ⟨rfl, hb⟩; have n0_ := Aside0.mk (below_step (by repeat (first | (with_reducible first | exact HB.out | apply below_alloc | apply pw_below_drewN | apply below_drew1) | exact HB.out)) hb); clear HB; have HB := n0_; clear n0_; (try clear hb); (try clear hb2); (try clear hk); (try clear hi)))
        go_meet
        case rel => exact ⟨_, (true), (by first | rfl | (simp; done) | (simp [*]; done)), H', ⟨by have := HJ0.out; first | omega | exact Nat.le_refl _⟩, ⟨by repeat (first | (with_reducible first | exact HB.out | apply below_alloc | apply pw_below_drewN | apply below_drew1) | exact HB.out)⟩⟩
      ·
       replace c48 := Bool.eq_false_iff.mpr c48
       subst c48
       have H1 : (redpencillaw41_known.j1 kj0 (⟨#[97, 98, 10, 9, 99, 32, 100, 10]⟩ : ByteArray) true) = some r := by rw [if_neg (show ¬ (false = true) by decide)] at H; exact H
       clear H
       have H := H1
       clear H1
       have H' := Aside0.mk H
       clear H
       go_wp2_with (first | ((with_reducible refine gate_callee (f := 15) rfl ?_); refine goesL_ (some 36) rfl rfl Tryd.func15 (by kernel_rfl) rfl #[.string (⟨#[97, 98, 10, 9, 99, 32, 100, 10]⟩ : ByteArray), .int .i64 1, .int .i64 4, .int .i64 7, .int .i64 0] rfl (by (try simp only [List.map_toArray, List.map_cons, List.map_nil]); first | done | rfl | (simp only [List.length_drop, List.length_take]; rfl)) ?_; (with_reducible refine (redpencillaw41_at.calls kj0 (⟨#[97, 98, 10, 9, 99, 32, 100, 10]⟩ : ByteArray) 1 4 7 0 true _ ?side1 A45.out).mono ?_); (case side1 => exact GOK_below HG.out (by repeat (first | (with_reducible first | exact HB.out | apply below_alloc | apply pw_below_drewN | apply below_drew1) | exact HB.out))); rintro e w83 ⟨rfl, hb⟩; refine ⟨_, rfl, ?_⟩; have n0_ := Aside0.mk (below_step (by repeat (first | (with_reducible first | exact HB.out | apply below_alloc | apply pw_below_drewN | apply below_drew1) | exact HB.out)) hb); clear HB; have HB := n0_; clear n0_; (try clear hb); (try clear hb2); (try clear hk); (try clear hi)) | (go_at_call 15; (with_reducible refine (redpencillaw41_at.calls kj0 (⟨#[97, 98, 10, 9, 99, 32, 100, 10]⟩ : ByteArray) 1 5 0 3 false _ ?side1 A47.out).mono ?_); (case side1 => exact GOK_below HG.out (by repeat (first | (with_reducible first | exact HB.out | apply below_alloc | apply pw_below_drewN | apply below_drew1) | exact HB.out))); rintro e w84 ⟨rfl, hb⟩; have n0_ := Aside0.mk (below_step (by repeat (first | (with_reducible first | exact HB.out | apply below_alloc | apply pw_below_drewN | apply below_drew1) | exact HB.out)) hb); clear HB; have HB := n0_; clear n0_; (try clear hb); (try clear hb2); (try clear hk); (try clear hi)))
       go_meet
       case rel => exact ⟨_, (true), (by first | rfl | (simp; done) | (simp [*]; done)), H', ⟨by have := HJ0.out; first | omega | exact Nat.le_refl _⟩, ⟨by repeat (first | (with_reducible first | exact HB.out | apply below_alloc | apply pw_below_drewN | apply below_drew1) | exact HB.out)⟩⟩
     ·
      replace c46 := Bool.eq_false_iff.mpr c46
      subst c46
      have H1 : (redpencillaw41_known.j1 kj0 (⟨#[97, 98, 10, 9, 99, 32, 100, 10]⟩ : ByteArray) true) = some r := by rw [if_neg (show ¬ (false = true) by decide)] at H; exact H
      clear H
      have H := H1
      clear H1
      have H' := Aside0.mk H
      clear H
      go_wp2_with (first | ((with_reducible refine gate_callee (f := 15) rfl ?_); refine goesL_ (some 36) rfl rfl Tryd.func15 (by kernel_rfl) rfl #[.string (⟨#[97, 98, 10, 9, 99, 32, 100, 10]⟩ : ByteArray), .int .i64 1, .int .i64 4, .int .i64 7, .int .i64 0] rfl (by (try simp only [List.map_toArray, List.map_cons, List.map_nil]); first | done | rfl | (simp only [List.length_drop, List.length_take]; rfl)) ?_; (with_reducible refine (redpencillaw41_at.calls kj0 (⟨#[97, 98, 10, 9, 99, 32, 100, 10]⟩ : ByteArray) 1 4 7 0 false _ ?side1 A45.out).mono ?_); (case side1 => exact GOK_below HG.out (by repeat (first | (with_reducible first | exact HB.out | apply below_alloc | apply pw_below_drewN | apply below_drew1) | exact HB.out))); rintro e w85 ⟨rfl, hb⟩; refine ⟨_, rfl, ?_⟩; have n0_ := Aside0.mk (below_step (by repeat (first | (with_reducible first | exact HB.out | apply below_alloc | apply pw_below_drewN | apply below_drew1) | exact HB.out)) hb); clear HB; have HB := n0_; clear n0_; (try clear hb); (try clear hb2); (try clear hk); (try clear hi)))
      go_meet
      case rel => exact ⟨_, (true), (by first | rfl | (simp; done) | (simp [*]; done)), H', ⟨by have := HJ0.out; first | omega | exact Nat.le_refl _⟩, ⟨by repeat (first | (with_reducible first | exact HB.out | apply below_alloc | apply pw_below_drewN | apply below_drew1) | exact HB.out)⟩⟩
    case rest =>
     clear HC44
     try clear c1
     try clear p2
     try clear c3
     try clear c4
     try clear c5
     try clear c7
     try clear c9
     try clear c11
     try clear c13
     try clear c15
     try clear c43
     try clear c46
     try clear c48
     try clear c50
     try clear c52
     try clear c54
     try clear c56
     try clear p2
     obtain ⟨kq, x67_43, rfl, HA, HJ43, HB⟩ := hcut
     cases kq with
     | zero => exact absurd HA.out (by simp [redpencillaw41_known.j1])
     | succ kj43 =>
      have H := HA.out
      clear HA
      simp only [redpencillaw41_known.j1] at H
      by_cases c86 : x67_43 = true
      ·
       subst c86
       have H1 : (some false) = some r := by rw [if_pos rfl] at H; exact H
       clear H
       have H := H1
       clear H1
       obtain rfl := Option.some.inj H
       go_wp2
       go_ret
       exact ⟨by first | rfl | (simp [errW_none, errW_some] <;> rfl) | (simp [*, errW_none, errW_some] <;> rfl), by repeat (first | (with_reducible first | exact HB.out | apply below_alloc | apply pw_below_drewN | apply below_drew1) | exact HB.out)⟩
      ·
       replace c86 := Bool.eq_false_iff.mpr c86
       subst c86
       have H1 : ((redpencillaw41_nexts.f kj43 (⟨#[97, 98, 10, 9, 99, 32, 100, 10]⟩ : ByteArray) 0 4 0).bind fun t241 => (if t241 = true then ((redpencillaw41_nexts.f kj43 (⟨#[97, 98, 10, 9, 99, 32, 100, 10]⟩ : ByteArray) 6 8 0).bind fun t242 => (if t242 = true then ((redpencillaw41_backs.f kj43 (⟨#[97, 98, 10, 9, 99, 32, 100, 10]⟩ : ByteArray) 8 6 0).bind fun t243 => (if t243 = true then ((redpencillaw41_backs.f kj43 (⟨#[97, 98, 10, 9, 99, 32, 100, 10]⟩ : ByteArray) 5 4 0).bind fun t244 => (if t244 = true then ((redpencillaw41_word.f kj43 (⟨#[97, 98, 10, 9, 99, 32, 100, 10]⟩ : ByteArray) 2 0 2 0).bind fun t245 => (if t245 = true then ((redpencillaw41_word.f kj43 (⟨#[97, 98, 10, 9, 99, 32, 100, 10]⟩ : ByteArray) 3 3 3 0).bind fun t246 => (if t246 = true then ((redpencillaw41_backs.f kj43 (⟨#[97, 98, 10, 9, 99, 32, 100, 10]⟩ : ByteArray) 9 0 3).bind fun t247 => (some t247)) else (some false))) else (some false))) else (some false))) else (some false))) else (some false))) else (some false))) = some r := by rw [if_neg (show ¬ (false = true) by decide)] at H; exact H
       clear H
       have H := H1
       clear H1
       replace H := Option.bind_eq_some_iff.mp H
       obtain ⟨t241, A870, H⟩ := H
       replace H : (if t241 = true then ((redpencillaw41_nexts.f kj43 (⟨#[97, 98, 10, 9, 99, 32, 100, 10]⟩ : ByteArray) 6 8 0).bind fun t242 => (if t242 = true then ((redpencillaw41_backs.f kj43 (⟨#[97, 98, 10, 9, 99, 32, 100, 10]⟩ : ByteArray) 8 6 0).bind fun t243 => (if t243 = true then ((redpencillaw41_backs.f kj43 (⟨#[97, 98, 10, 9, 99, 32, 100, 10]⟩ : ByteArray) 5 4 0).bind fun t244 => (if t244 = true then ((redpencillaw41_word.f kj43 (⟨#[97, 98, 10, 9, 99, 32, 100, 10]⟩ : ByteArray) 2 0 2 0).bind fun t245 => (if t245 = true then ((redpencillaw41_word.f kj43 (⟨#[97, 98, 10, 9, 99, 32, 100, 10]⟩ : ByteArray) 3 3 3 0).bind fun t246 => (if t246 = true then ((redpencillaw41_backs.f kj43 (⟨#[97, 98, 10, 9, 99, 32, 100, 10]⟩ : ByteArray) 9 0 3).bind fun t247 => (some t247)) else (some false))) else (some false))) else (some false))) else (some false))) else (some false))) else (some false)) = some r := H
       have A87 := Aside0.mk A870
       clear A870
       by_cases c88 : t241 = true
       ·
        subst c88
        have H1 : ((redpencillaw41_nexts.f kj43 (⟨#[97, 98, 10, 9, 99, 32, 100, 10]⟩ : ByteArray) 6 8 0).bind fun t242 => (if t242 = true then ((redpencillaw41_backs.f kj43 (⟨#[97, 98, 10, 9, 99, 32, 100, 10]⟩ : ByteArray) 8 6 0).bind fun t243 => (if t243 = true then ((redpencillaw41_backs.f kj43 (⟨#[97, 98, 10, 9, 99, 32, 100, 10]⟩ : ByteArray) 5 4 0).bind fun t244 => (if t244 = true then ((redpencillaw41_word.f kj43 (⟨#[97, 98, 10, 9, 99, 32, 100, 10]⟩ : ByteArray) 2 0 2 0).bind fun t245 => (if t245 = true then ((redpencillaw41_word.f kj43 (⟨#[97, 98, 10, 9, 99, 32, 100, 10]⟩ : ByteArray) 3 3 3 0).bind fun t246 => (if t246 = true then ((redpencillaw41_backs.f kj43 (⟨#[97, 98, 10, 9, 99, 32, 100, 10]⟩ : ByteArray) 9 0 3).bind fun t247 => (some t247)) else (some false))) else (some false))) else (some false))) else (some false))) else (some false))) = some r := by rw [if_pos rfl] at H; exact H
        clear H
        have H := H1
        clear H1
        replace H := Option.bind_eq_some_iff.mp H
        obtain ⟨t242, A890, H⟩ := H
        replace H : (if t242 = true then ((redpencillaw41_backs.f kj43 (⟨#[97, 98, 10, 9, 99, 32, 100, 10]⟩ : ByteArray) 8 6 0).bind fun t243 => (if t243 = true then ((redpencillaw41_backs.f kj43 (⟨#[97, 98, 10, 9, 99, 32, 100, 10]⟩ : ByteArray) 5 4 0).bind fun t244 => (if t244 = true then ((redpencillaw41_word.f kj43 (⟨#[97, 98, 10, 9, 99, 32, 100, 10]⟩ : ByteArray) 2 0 2 0).bind fun t245 => (if t245 = true then ((redpencillaw41_word.f kj43 (⟨#[97, 98, 10, 9, 99, 32, 100, 10]⟩ : ByteArray) 3 3 3 0).bind fun t246 => (if t246 = true then ((redpencillaw41_backs.f kj43 (⟨#[97, 98, 10, 9, 99, 32, 100, 10]⟩ : ByteArray) 9 0 3).bind fun t247 => (some t247)) else (some false))) else (some false))) else (some false))) else (some false))) else (some false)) = some r := H
        have A89 := Aside0.mk A890
        clear A890
        by_cases c90 : t242 = true
        ·
         subst c90
         have H1 : ((redpencillaw41_backs.f kj43 (⟨#[97, 98, 10, 9, 99, 32, 100, 10]⟩ : ByteArray) 8 6 0).bind fun t243 => (if t243 = true then ((redpencillaw41_backs.f kj43 (⟨#[97, 98, 10, 9, 99, 32, 100, 10]⟩ : ByteArray) 5 4 0).bind fun t244 => (if t244 = true then ((redpencillaw41_word.f kj43 (⟨#[97, 98, 10, 9, 99, 32, 100, 10]⟩ : ByteArray) 2 0 2 0).bind fun t245 => (if t245 = true then ((redpencillaw41_word.f kj43 (⟨#[97, 98, 10, 9, 99, 32, 100, 10]⟩ : ByteArray) 3 3 3 0).bind fun t246 => (if t246 = true then ((redpencillaw41_backs.f kj43 (⟨#[97, 98, 10, 9, 99, 32, 100, 10]⟩ : ByteArray) 9 0 3).bind fun t247 => (some t247)) else (some false))) else (some false))) else (some false))) else (some false))) = some r := by rw [if_pos rfl] at H; exact H
         clear H
         have H := H1
         clear H1
         replace H := Option.bind_eq_some_iff.mp H
         obtain ⟨t243, A910, H⟩ := H
         replace H : (if t243 = true then ((redpencillaw41_backs.f kj43 (⟨#[97, 98, 10, 9, 99, 32, 100, 10]⟩ : ByteArray) 5 4 0).bind fun t244 => (if t244 = true then ((redpencillaw41_word.f kj43 (⟨#[97, 98, 10, 9, 99, 32, 100, 10]⟩ : ByteArray) 2 0 2 0).bind fun t245 => (if t245 = true then ((redpencillaw41_word.f kj43 (⟨#[97, 98, 10, 9, 99, 32, 100, 10]⟩ : ByteArray) 3 3 3 0).bind fun t246 => (if t246 = true then ((redpencillaw41_backs.f kj43 (⟨#[97, 98, 10, 9, 99, 32, 100, 10]⟩ : ByteArray) 9 0 3).bind fun t247 => (some t247)) else (some false))) else (some false))) else (some false))) else (some false)) = some r := H
         have A91 := Aside0.mk A910
         clear A910
         by_cases c92 : t243 = true
         ·
          subst c92
          have H1 : ((redpencillaw41_backs.f kj43 (⟨#[97, 98, 10, 9, 99, 32, 100, 10]⟩ : ByteArray) 5 4 0).bind fun t244 => (if t244 = true then ((redpencillaw41_word.f kj43 (⟨#[97, 98, 10, 9, 99, 32, 100, 10]⟩ : ByteArray) 2 0 2 0).bind fun t245 => (if t245 = true then ((redpencillaw41_word.f kj43 (⟨#[97, 98, 10, 9, 99, 32, 100, 10]⟩ : ByteArray) 3 3 3 0).bind fun t246 => (if t246 = true then ((redpencillaw41_backs.f kj43 (⟨#[97, 98, 10, 9, 99, 32, 100, 10]⟩ : ByteArray) 9 0 3).bind fun t247 => (some t247)) else (some false))) else (some false))) else (some false))) = some r := by rw [if_pos rfl] at H; exact H
          clear H
          have H := H1
          clear H1
          replace H := Option.bind_eq_some_iff.mp H
          obtain ⟨t244, A930, H⟩ := H
          replace H : (if t244 = true then ((redpencillaw41_word.f kj43 (⟨#[97, 98, 10, 9, 99, 32, 100, 10]⟩ : ByteArray) 2 0 2 0).bind fun t245 => (if t245 = true then ((redpencillaw41_word.f kj43 (⟨#[97, 98, 10, 9, 99, 32, 100, 10]⟩ : ByteArray) 3 3 3 0).bind fun t246 => (if t246 = true then ((redpencillaw41_backs.f kj43 (⟨#[97, 98, 10, 9, 99, 32, 100, 10]⟩ : ByteArray) 9 0 3).bind fun t247 => (some t247)) else (some false))) else (some false))) else (some false)) = some r := H
          have A93 := Aside0.mk A930
          clear A930
          by_cases c94 : t244 = true
          ·
           subst c94
           have H1 : ((redpencillaw41_word.f kj43 (⟨#[97, 98, 10, 9, 99, 32, 100, 10]⟩ : ByteArray) 2 0 2 0).bind fun t245 => (if t245 = true then ((redpencillaw41_word.f kj43 (⟨#[97, 98, 10, 9, 99, 32, 100, 10]⟩ : ByteArray) 3 3 3 0).bind fun t246 => (if t246 = true then ((redpencillaw41_backs.f kj43 (⟨#[97, 98, 10, 9, 99, 32, 100, 10]⟩ : ByteArray) 9 0 3).bind fun t247 => (some t247)) else (some false))) else (some false))) = some r := by rw [if_pos rfl] at H; exact H
           clear H
           have H := H1
           clear H1
           replace H := Option.bind_eq_some_iff.mp H
           obtain ⟨t245, A950, H⟩ := H
           replace H : (if t245 = true then ((redpencillaw41_word.f kj43 (⟨#[97, 98, 10, 9, 99, 32, 100, 10]⟩ : ByteArray) 3 3 3 0).bind fun t246 => (if t246 = true then ((redpencillaw41_backs.f kj43 (⟨#[97, 98, 10, 9, 99, 32, 100, 10]⟩ : ByteArray) 9 0 3).bind fun t247 => (some t247)) else (some false))) else (some false)) = some r := H
           have A95 := Aside0.mk A950
           clear A950
           by_cases c96 : t245 = true
           ·
            subst c96
            have H1 : ((redpencillaw41_word.f kj43 (⟨#[97, 98, 10, 9, 99, 32, 100, 10]⟩ : ByteArray) 3 3 3 0).bind fun t246 => (if t246 = true then ((redpencillaw41_backs.f kj43 (⟨#[97, 98, 10, 9, 99, 32, 100, 10]⟩ : ByteArray) 9 0 3).bind fun t247 => (some t247)) else (some false))) = some r := by rw [if_pos rfl] at H; exact H
            clear H
            have H := H1
            clear H1
            replace H := Option.bind_eq_some_iff.mp H
            obtain ⟨t246, A970, H⟩ := H
            replace H : (if t246 = true then ((redpencillaw41_backs.f kj43 (⟨#[97, 98, 10, 9, 99, 32, 100, 10]⟩ : ByteArray) 9 0 3).bind fun t247 => (some t247)) else (some false)) = some r := H
            have A97 := Aside0.mk A970
            clear A970
            by_cases c98 : t246 = true
            ·
             subst c98
             have H1 : ((redpencillaw41_backs.f kj43 (⟨#[97, 98, 10, 9, 99, 32, 100, 10]⟩ : ByteArray) 9 0 3).bind fun t247 => (some t247)) = some r := by rw [if_pos rfl] at H; exact H
             clear H
             have H := H1
             clear H1
             replace H := Option.bind_eq_some_iff.mp H
             obtain ⟨t247, A990, H⟩ := H
             replace H : (some t247) = some r := H
             have A99 := Aside0.mk A990
             clear A990
             obtain rfl := Option.some.inj H
             go_wp2_with (first | ((with_reducible refine gate_callee (f := 20) rfl ?_); refine goesL_ (some 69) rfl rfl Tryd.func20 (by kernel_rfl) rfl #[.string (⟨#[97, 98, 10, 9, 99, 32, 100, 10]⟩ : ByteArray), .int .i64 0, .int .i64 4, .int .i64 0] rfl (by (try simp only [List.map_toArray, List.map_cons, List.map_nil]); first | done | rfl | (simp only [List.length_drop, List.length_take]; rfl)) ?_; (with_reducible refine (redpencillaw41_nexts.calls kj43 (⟨#[97, 98, 10, 9, 99, 32, 100, 10]⟩ : ByteArray) 0 4 0 true _ ?side1 A87.out).mono ?_); (case side1 => exact GOK_below HG.out (by repeat (first | (with_reducible first | exact HB.out | apply below_alloc | apply pw_below_drewN | apply below_drew1) | exact HB.out))); rintro e w100 ⟨rfl, hb⟩; refine ⟨_, rfl, ?_⟩; have n0_ := Aside0.mk (below_step (by repeat (first | (with_reducible first | exact HB.out | apply below_alloc | apply pw_below_drewN | apply below_drew1) | exact HB.out)) hb); clear HB; have HB := n0_; clear n0_; (try clear hb); (try clear hb2); (try clear hk); (try clear hi)) | (go_at_call 20; (with_reducible refine (redpencillaw41_nexts.calls kj43 (⟨#[97, 98, 10, 9, 99, 32, 100, 10]⟩ : ByteArray) 6 8 0 true _ ?side1 A89.out).mono ?_); (case side1 => exact GOK_below HG.out (by repeat (first | (with_reducible first | exact HB.out | apply below_alloc | apply pw_below_drewN | apply below_drew1) | exact HB.out))); rintro e w101 ⟨rfl, hb⟩; have n0_ := Aside0.mk (below_step (by repeat (first | (with_reducible first | exact HB.out | apply below_alloc | apply pw_below_drewN | apply below_drew1) | exact HB.out)) hb); clear HB; have HB := n0_; clear n0_; (try clear hb); (try clear hb2); (try clear hk); (try clear hi)) | (go_at_call 21; (with_reducible refine (redpencillaw41_backs.calls kj43 (⟨#[97, 98, 10, 9, 99, 32, 100, 10]⟩ : ByteArray) 8 6 0 true _ ?side1 A91.out).mono ?_); (case side1 => exact GOK_below HG.out (by repeat (first | (with_reducible first | exact HB.out | apply below_alloc | apply pw_below_drewN | apply below_drew1) | exact HB.out))); rintro e w102 ⟨rfl, hb⟩; have n0_ := Aside0.mk (below_step (by repeat (first | (with_reducible first | exact HB.out | apply below_alloc | apply pw_below_drewN | apply below_drew1) | exact HB.out)) hb); clear HB; have HB := n0_; clear n0_; (try clear hb); (try clear hb2); (try clear hk); (try clear hi)) | (go_at_call 21; (with_reducible refine (redpencillaw41_backs.calls kj43 (⟨#[97, 98, 10, 9, 99, 32, 100, 10]⟩ : ByteArray) 5 4 0 true _ ?side1 A93.out).mono ?_); (case side1 => exact GOK_below HG.out (by repeat (first | (with_reducible first | exact HB.out | apply below_alloc | apply pw_below_drewN | apply below_drew1) | exact HB.out))); rintro e w103 ⟨rfl, hb⟩; have n0_ := Aside0.mk (below_step (by repeat (first | (with_reducible first | exact HB.out | apply below_alloc | apply pw_below_drewN | apply below_drew1) | exact HB.out)) hb); clear HB; have HB := n0_; clear n0_; (try clear hb); (try clear hb2); (try clear hk); (try clear hi)) | (go_at_call 22; (with_reducible refine (redpencillaw41_word.calls kj43 (⟨#[97, 98, 10, 9, 99, 32, 100, 10]⟩ : ByteArray) 2 0 2 0 true _ ?side1 A95.out).mono ?_); (case side1 => exact GOK_below HG.out (by repeat (first | (with_reducible first | exact HB.out | apply below_alloc | apply pw_below_drewN | apply below_drew1) | exact HB.out))); rintro e w104 ⟨rfl, hb⟩; have n0_ := Aside0.mk (below_step (by repeat (first | (with_reducible first | exact HB.out | apply below_alloc | apply pw_below_drewN | apply below_drew1) | exact HB.out)) hb); clear HB; have HB := n0_; clear n0_; (try clear hb); (try clear hb2); (try clear hk); (try clear hi)) | (go_at_call 22; (with_reducible refine (redpencillaw41_word.calls kj43 (⟨#[97, 98, 10, 9, 99, 32, 100, 10]⟩ : ByteArray) 3 3 3 0 true _ ?side1 A97.out).mono ?_); (case side1 => exact GOK_below HG.out (by repeat (first | (with_reducible first | exact HB.out | apply below_alloc | apply pw_below_drewN | apply below_drew1) | exact HB.out))); rintro e w105 ⟨rfl, hb⟩; have n0_ := Aside0.mk (below_step (by repeat (first | (with_reducible first | exact HB.out | apply below_alloc | apply pw_below_drewN | apply below_drew1) | exact HB.out)) hb); clear HB; have HB := n0_; clear n0_; (try clear hb); (try clear hb2); (try clear hk); (try clear hi)) | (go_at_call 21; (with_reducible refine (redpencillaw41_backs.calls kj43 (⟨#[97, 98, 10, 9, 99, 32, 100, 10]⟩ : ByteArray) 9 0 3 t247 _ ?side1 A99.out).mono ?_); (case side1 => exact GOK_below HG.out (by repeat (first | (with_reducible first | exact HB.out | apply below_alloc | apply pw_below_drewN | apply below_drew1) | exact HB.out))); rintro e w106 ⟨rfl, hb⟩; have n0_ := Aside0.mk (below_step (by repeat (first | (with_reducible first | exact HB.out | apply below_alloc | apply pw_below_drewN | apply below_drew1) | exact HB.out)) hb); clear HB; have HB := n0_; clear n0_; (try clear hb); (try clear hb2); (try clear hk); (try clear hi)))
             go_ret
             exact ⟨by first | rfl | (simp [errW_none, errW_some] <;> rfl) | (simp [*, errW_none, errW_some] <;> rfl), by repeat (first | (with_reducible first | exact HB.out | apply below_alloc | apply pw_below_drewN | apply below_drew1) | exact HB.out)⟩
            ·
             replace c98 := Bool.eq_false_iff.mpr c98
             subst c98
             have H1 : (some false) = some r := by rw [if_neg (show ¬ (false = true) by decide)] at H; exact H
             clear H
             have H := H1
             clear H1
             obtain rfl := Option.some.inj H
             go_wp2_with (first | ((with_reducible refine gate_callee (f := 20) rfl ?_); refine goesL_ (some 69) rfl rfl Tryd.func20 (by kernel_rfl) rfl #[.string (⟨#[97, 98, 10, 9, 99, 32, 100, 10]⟩ : ByteArray), .int .i64 0, .int .i64 4, .int .i64 0] rfl (by (try simp only [List.map_toArray, List.map_cons, List.map_nil]); first | done | rfl | (simp only [List.length_drop, List.length_take]; rfl)) ?_; (with_reducible refine (redpencillaw41_nexts.calls kj43 (⟨#[97, 98, 10, 9, 99, 32, 100, 10]⟩ : ByteArray) 0 4 0 true _ ?side1 A87.out).mono ?_); (case side1 => exact GOK_below HG.out (by repeat (first | (with_reducible first | exact HB.out | apply below_alloc | apply pw_below_drewN | apply below_drew1) | exact HB.out))); rintro e w107 ⟨rfl, hb⟩; refine ⟨_, rfl, ?_⟩; have n0_ := Aside0.mk (below_step (by repeat (first | (with_reducible first | exact HB.out | apply below_alloc | apply pw_below_drewN | apply below_drew1) | exact HB.out)) hb); clear HB; have HB := n0_; clear n0_; (try clear hb); (try clear hb2); (try clear hk); (try clear hi)) | (go_at_call 20; (with_reducible refine (redpencillaw41_nexts.calls kj43 (⟨#[97, 98, 10, 9, 99, 32, 100, 10]⟩ : ByteArray) 6 8 0 true _ ?side1 A89.out).mono ?_); (case side1 => exact GOK_below HG.out (by repeat (first | (with_reducible first | exact HB.out | apply below_alloc | apply pw_below_drewN | apply below_drew1) | exact HB.out))); rintro e w108 ⟨rfl, hb⟩; have n0_ := Aside0.mk (below_step (by repeat (first | (with_reducible first | exact HB.out | apply below_alloc | apply pw_below_drewN | apply below_drew1) | exact HB.out)) hb); clear HB; have HB := n0_; clear n0_; (try clear hb); (try clear hb2); (try clear hk); (try clear hi)) | (go_at_call 21; (with_reducible refine (redpencillaw41_backs.calls kj43 (⟨#[97, 98, 10, 9, 99, 32, 100, 10]⟩ : ByteArray) 8 6 0 true _ ?side1 A91.out).mono ?_); (case side1 => exact GOK_below HG.out (by repeat (first | (with_reducible first | exact HB.out | apply below_alloc | apply pw_below_drewN | apply below_drew1) | exact HB.out))); rintro e w109 ⟨rfl, hb⟩; have n0_ := Aside0.mk (below_step (by repeat (first | (with_reducible first | exact HB.out | apply below_alloc | apply pw_below_drewN | apply below_drew1) | exact HB.out)) hb); clear HB; have HB := n0_; clear n0_; (try clear hb); (try clear hb2); (try clear hk); (try clear hi)) | (go_at_call 21; (with_reducible refine (redpencillaw41_backs.calls kj43 (⟨#[97, 98, 10, 9, 99, 32, 100, 10]⟩ : ByteArray) 5 4 0 true _ ?side1 A93.out).mono ?_); (case side1 => exact GOK_below HG.out (by repeat (first | (with_reducible first | exact HB.out | apply below_alloc | apply pw_below_drewN | apply below_drew1) | exact HB.out))); rintro e w110 ⟨rfl, hb⟩; have n0_ := Aside0.mk (below_step (by repeat (first | (with_reducible first | exact HB.out | apply below_alloc | apply pw_below_drewN | apply below_drew1) | exact HB.out)) hb); clear HB; have HB := n0_; clear n0_; (try clear hb); (try clear hb2); (try clear hk); (try clear hi)) | (go_at_call 22; (with_reducible refine (redpencillaw41_word.calls kj43 (⟨#[97, 98, 10, 9, 99, 32, 100, 10]⟩ : ByteArray) 2 0 2 0 true _ ?side1 A95.out).mono ?_); (case side1 => exact GOK_below HG.out (by repeat (first | (with_reducible first | exact HB.out | apply below_alloc | apply pw_below_drewN | apply below_drew1) | exact HB.out))); rintro e w111 ⟨rfl, hb⟩; have n0_ := Aside0.mk (below_step (by repeat (first | (with_reducible first | exact HB.out | apply below_alloc | apply pw_below_drewN | apply below_drew1) | exact HB.out)) hb); clear HB; have HB := n0_; clear n0_; (try clear hb); (try clear hb2); (try clear hk); (try clear hi)) | (go_at_call 22; (with_reducible refine (redpencillaw41_word.calls kj43 (⟨#[97, 98, 10, 9, 99, 32, 100, 10]⟩ : ByteArray) 3 3 3 0 false _ ?side1 A97.out).mono ?_); (case side1 => exact GOK_below HG.out (by repeat (first | (with_reducible first | exact HB.out | apply below_alloc | apply pw_below_drewN | apply below_drew1) | exact HB.out))); rintro e w112 ⟨rfl, hb⟩; have n0_ := Aside0.mk (below_step (by repeat (first | (with_reducible first | exact HB.out | apply below_alloc | apply pw_below_drewN | apply below_drew1) | exact HB.out)) hb); clear HB; have HB := n0_; clear n0_; (try clear hb); (try clear hb2); (try clear hk); (try clear hi)))
             go_ret
             exact ⟨by first | rfl | (simp [errW_none, errW_some] <;> rfl) | (simp [*, errW_none, errW_some] <;> rfl), by repeat (first | (with_reducible first | exact HB.out | apply below_alloc | apply pw_below_drewN | apply below_drew1) | exact HB.out)⟩
           ·
            replace c96 := Bool.eq_false_iff.mpr c96
            subst c96
            have H1 : (some false) = some r := by rw [if_neg (show ¬ (false = true) by decide)] at H; exact H
            clear H
            have H := H1
            clear H1
            obtain rfl := Option.some.inj H
            go_wp2_with (first | ((with_reducible refine gate_callee (f := 20) rfl ?_); refine goesL_ (some 69) rfl rfl Tryd.func20 (by kernel_rfl) rfl #[.string (⟨#[97, 98, 10, 9, 99, 32, 100, 10]⟩ : ByteArray), .int .i64 0, .int .i64 4, .int .i64 0] rfl (by (try simp only [List.map_toArray, List.map_cons, List.map_nil]); first | done | rfl | (simp only [List.length_drop, List.length_take]; rfl)) ?_; (with_reducible refine (redpencillaw41_nexts.calls kj43 (⟨#[97, 98, 10, 9, 99, 32, 100, 10]⟩ : ByteArray) 0 4 0 true _ ?side1 A87.out).mono ?_); (case side1 => exact GOK_below HG.out (by repeat (first | (with_reducible first | exact HB.out | apply below_alloc | apply pw_below_drewN | apply below_drew1) | exact HB.out))); rintro e w113 ⟨rfl, hb⟩; refine ⟨_, rfl, ?_⟩; have n0_ := Aside0.mk (below_step (by repeat (first | (with_reducible first | exact HB.out | apply below_alloc | apply pw_below_drewN | apply below_drew1) | exact HB.out)) hb); clear HB; have HB := n0_; clear n0_; (try clear hb); (try clear hb2); (try clear hk); (try clear hi)) | (go_at_call 20; (with_reducible refine (redpencillaw41_nexts.calls kj43 (⟨#[97, 98, 10, 9, 99, 32, 100, 10]⟩ : ByteArray) 6 8 0 true _ ?side1 A89.out).mono ?_); (case side1 => exact GOK_below HG.out (by repeat (first | (with_reducible first | exact HB.out | apply below_alloc | apply pw_below_drewN | apply below_drew1) | exact HB.out))); rintro e w114 ⟨rfl, hb⟩; have n0_ := Aside0.mk (below_step (by repeat (first | (with_reducible first | exact HB.out | apply below_alloc | apply pw_below_drewN | apply below_drew1) | exact HB.out)) hb); clear HB; have HB := n0_; clear n0_; (try clear hb); (try clear hb2); (try clear hk); (try clear hi)) | (go_at_call 21; (with_reducible refine (redpencillaw41_backs.calls kj43 (⟨#[97, 98, 10, 9, 99, 32, 100, 10]⟩ : ByteArray) 8 6 0 true _ ?side1 A91.out).mono ?_); (case side1 => exact GOK_below HG.out (by repeat (first | (with_reducible first | exact HB.out | apply below_alloc | apply pw_below_drewN | apply below_drew1) | exact HB.out))); rintro e w115 ⟨rfl, hb⟩; have n0_ := Aside0.mk (below_step (by repeat (first | (with_reducible first | exact HB.out | apply below_alloc | apply pw_below_drewN | apply below_drew1) | exact HB.out)) hb); clear HB; have HB := n0_; clear n0_; (try clear hb); (try clear hb2); (try clear hk); (try clear hi)) | (go_at_call 21; (with_reducible refine (redpencillaw41_backs.calls kj43 (⟨#[97, 98, 10, 9, 99, 32, 100, 10]⟩ : ByteArray) 5 4 0 true _ ?side1 A93.out).mono ?_); (case side1 => exact GOK_below HG.out (by repeat (first | (with_reducible first | exact HB.out | apply below_alloc | apply pw_below_drewN | apply below_drew1) | exact HB.out))); rintro e w116 ⟨rfl, hb⟩; have n0_ := Aside0.mk (below_step (by repeat (first | (with_reducible first | exact HB.out | apply below_alloc | apply pw_below_drewN | apply below_drew1) | exact HB.out)) hb); clear HB; have HB := n0_; clear n0_; (try clear hb); (try clear hb2); (try clear hk); (try clear hi)) | (go_at_call 22; (with_reducible refine (redpencillaw41_word.calls kj43 (⟨#[97, 98, 10, 9, 99, 32, 100, 10]⟩ : ByteArray) 2 0 2 0 false _ ?side1 A95.out).mono ?_); (case side1 => exact GOK_below HG.out (by repeat (first | (with_reducible first | exact HB.out | apply below_alloc | apply pw_below_drewN | apply below_drew1) | exact HB.out))); rintro e w117 ⟨rfl, hb⟩; have n0_ := Aside0.mk (below_step (by repeat (first | (with_reducible first | exact HB.out | apply below_alloc | apply pw_below_drewN | apply below_drew1) | exact HB.out)) hb); clear HB; have HB := n0_; clear n0_; (try clear hb); (try clear hb2); (try clear hk); (try clear hi)))
            go_ret
            exact ⟨by first | rfl | (simp [errW_none, errW_some] <;> rfl) | (simp [*, errW_none, errW_some] <;> rfl), by repeat (first | (with_reducible first | exact HB.out | apply below_alloc | apply pw_below_drewN | apply below_drew1) | exact HB.out)⟩
          ·
           replace c94 := Bool.eq_false_iff.mpr c94
           subst c94
           have H1 : (some false) = some r := by rw [if_neg (show ¬ (false = true) by decide)] at H; exact H
           clear H
           have H := H1
           clear H1
           obtain rfl := Option.some.inj H
           go_wp2_with (first | ((with_reducible refine gate_callee (f := 20) rfl ?_); refine goesL_ (some 69) rfl rfl Tryd.func20 (by kernel_rfl) rfl #[.string (⟨#[97, 98, 10, 9, 99, 32, 100, 10]⟩ : ByteArray), .int .i64 0, .int .i64 4, .int .i64 0] rfl (by (try simp only [List.map_toArray, List.map_cons, List.map_nil]); first | done | rfl | (simp only [List.length_drop, List.length_take]; rfl)) ?_; (with_reducible refine (redpencillaw41_nexts.calls kj43 (⟨#[97, 98, 10, 9, 99, 32, 100, 10]⟩ : ByteArray) 0 4 0 true _ ?side1 A87.out).mono ?_); (case side1 => exact GOK_below HG.out (by repeat (first | (with_reducible first | exact HB.out | apply below_alloc | apply pw_below_drewN | apply below_drew1) | exact HB.out))); rintro e w118 ⟨rfl, hb⟩; refine ⟨_, rfl, ?_⟩; have n0_ := Aside0.mk (below_step (by repeat (first | (with_reducible first | exact HB.out | apply below_alloc | apply pw_below_drewN | apply below_drew1) | exact HB.out)) hb); clear HB; have HB := n0_; clear n0_; (try clear hb); (try clear hb2); (try clear hk); (try clear hi)) | (go_at_call 20; (with_reducible refine (redpencillaw41_nexts.calls kj43 (⟨#[97, 98, 10, 9, 99, 32, 100, 10]⟩ : ByteArray) 6 8 0 true _ ?side1 A89.out).mono ?_); (case side1 => exact GOK_below HG.out (by repeat (first | (with_reducible first | exact HB.out | apply below_alloc | apply pw_below_drewN | apply below_drew1) | exact HB.out))); rintro e w119 ⟨rfl, hb⟩; have n0_ := Aside0.mk (below_step (by repeat (first | (with_reducible first | exact HB.out | apply below_alloc | apply pw_below_drewN | apply below_drew1) | exact HB.out)) hb); clear HB; have HB := n0_; clear n0_; (try clear hb); (try clear hb2); (try clear hk); (try clear hi)) | (go_at_call 21; (with_reducible refine (redpencillaw41_backs.calls kj43 (⟨#[97, 98, 10, 9, 99, 32, 100, 10]⟩ : ByteArray) 8 6 0 true _ ?side1 A91.out).mono ?_); (case side1 => exact GOK_below HG.out (by repeat (first | (with_reducible first | exact HB.out | apply below_alloc | apply pw_below_drewN | apply below_drew1) | exact HB.out))); rintro e w120 ⟨rfl, hb⟩; have n0_ := Aside0.mk (below_step (by repeat (first | (with_reducible first | exact HB.out | apply below_alloc | apply pw_below_drewN | apply below_drew1) | exact HB.out)) hb); clear HB; have HB := n0_; clear n0_; (try clear hb); (try clear hb2); (try clear hk); (try clear hi)) | (go_at_call 21; (with_reducible refine (redpencillaw41_backs.calls kj43 (⟨#[97, 98, 10, 9, 99, 32, 100, 10]⟩ : ByteArray) 5 4 0 false _ ?side1 A93.out).mono ?_); (case side1 => exact GOK_below HG.out (by repeat (first | (with_reducible first | exact HB.out | apply below_alloc | apply pw_below_drewN | apply below_drew1) | exact HB.out))); rintro e w121 ⟨rfl, hb⟩; have n0_ := Aside0.mk (below_step (by repeat (first | (with_reducible first | exact HB.out | apply below_alloc | apply pw_below_drewN | apply below_drew1) | exact HB.out)) hb); clear HB; have HB := n0_; clear n0_; (try clear hb); (try clear hb2); (try clear hk); (try clear hi)))
           go_ret
           exact ⟨by first | rfl | (simp [errW_none, errW_some] <;> rfl) | (simp [*, errW_none, errW_some] <;> rfl), by repeat (first | (with_reducible first | exact HB.out | apply below_alloc | apply pw_below_drewN | apply below_drew1) | exact HB.out)⟩
         ·
          replace c92 := Bool.eq_false_iff.mpr c92
          subst c92
          have H1 : (some false) = some r := by rw [if_neg (show ¬ (false = true) by decide)] at H; exact H
          clear H
          have H := H1
          clear H1
          obtain rfl := Option.some.inj H
          go_wp2_with (first | ((with_reducible refine gate_callee (f := 20) rfl ?_); refine goesL_ (some 69) rfl rfl Tryd.func20 (by kernel_rfl) rfl #[.string (⟨#[97, 98, 10, 9, 99, 32, 100, 10]⟩ : ByteArray), .int .i64 0, .int .i64 4, .int .i64 0] rfl (by (try simp only [List.map_toArray, List.map_cons, List.map_nil]); first | done | rfl | (simp only [List.length_drop, List.length_take]; rfl)) ?_; (with_reducible refine (redpencillaw41_nexts.calls kj43 (⟨#[97, 98, 10, 9, 99, 32, 100, 10]⟩ : ByteArray) 0 4 0 true _ ?side1 A87.out).mono ?_); (case side1 => exact GOK_below HG.out (by repeat (first | (with_reducible first | exact HB.out | apply below_alloc | apply pw_below_drewN | apply below_drew1) | exact HB.out))); rintro e w122 ⟨rfl, hb⟩; refine ⟨_, rfl, ?_⟩; have n0_ := Aside0.mk (below_step (by repeat (first | (with_reducible first | exact HB.out | apply below_alloc | apply pw_below_drewN | apply below_drew1) | exact HB.out)) hb); clear HB; have HB := n0_; clear n0_; (try clear hb); (try clear hb2); (try clear hk); (try clear hi)) | (go_at_call 20; (with_reducible refine (redpencillaw41_nexts.calls kj43 (⟨#[97, 98, 10, 9, 99, 32, 100, 10]⟩ : ByteArray) 6 8 0 true _ ?side1 A89.out).mono ?_); (case side1 => exact GOK_below HG.out (by repeat (first | (with_reducible first | exact HB.out | apply below_alloc | apply pw_below_drewN | apply below_drew1) | exact HB.out))); rintro e w123 ⟨rfl, hb⟩; have n0_ := Aside0.mk (below_step (by repeat (first | (with_reducible first | exact HB.out | apply below_alloc | apply pw_below_drewN | apply below_drew1) | exact HB.out)) hb); clear HB; have HB := n0_; clear n0_; (try clear hb); (try clear hb2); (try clear hk); (try clear hi)) | (go_at_call 21; (with_reducible refine (redpencillaw41_backs.calls kj43 (⟨#[97, 98, 10, 9, 99, 32, 100, 10]⟩ : ByteArray) 8 6 0 false _ ?side1 A91.out).mono ?_); (case side1 => exact GOK_below HG.out (by repeat (first | (with_reducible first | exact HB.out | apply below_alloc | apply pw_below_drewN | apply below_drew1) | exact HB.out))); rintro e w124 ⟨rfl, hb⟩; have n0_ := Aside0.mk (below_step (by repeat (first | (with_reducible first | exact HB.out | apply below_alloc | apply pw_below_drewN | apply below_drew1) | exact HB.out)) hb); clear HB; have HB := n0_; clear n0_; (try clear hb); (try clear hb2); (try clear hk); (try clear hi)))
          go_ret
          exact ⟨by first | rfl | (simp [errW_none, errW_some] <;> rfl) | (simp [*, errW_none, errW_some] <;> rfl), by repeat (first | (with_reducible first | exact HB.out | apply below_alloc | apply pw_below_drewN | apply below_drew1) | exact HB.out)⟩
        ·
         replace c90 := Bool.eq_false_iff.mpr c90
         subst c90
         have H1 : (some false) = some r := by rw [if_neg (show ¬ (false = true) by decide)] at H; exact H
         clear H
         have H := H1
         clear H1
         obtain rfl := Option.some.inj H
         go_wp2_with (first | ((with_reducible refine gate_callee (f := 20) rfl ?_); refine goesL_ (some 69) rfl rfl Tryd.func20 (by kernel_rfl) rfl #[.string (⟨#[97, 98, 10, 9, 99, 32, 100, 10]⟩ : ByteArray), .int .i64 0, .int .i64 4, .int .i64 0] rfl (by (try simp only [List.map_toArray, List.map_cons, List.map_nil]); first | done | rfl | (simp only [List.length_drop, List.length_take]; rfl)) ?_; (with_reducible refine (redpencillaw41_nexts.calls kj43 (⟨#[97, 98, 10, 9, 99, 32, 100, 10]⟩ : ByteArray) 0 4 0 true _ ?side1 A87.out).mono ?_); (case side1 => exact GOK_below HG.out (by repeat (first | (with_reducible first | exact HB.out | apply below_alloc | apply pw_below_drewN | apply below_drew1) | exact HB.out))); rintro e w125 ⟨rfl, hb⟩; refine ⟨_, rfl, ?_⟩; have n0_ := Aside0.mk (below_step (by repeat (first | (with_reducible first | exact HB.out | apply below_alloc | apply pw_below_drewN | apply below_drew1) | exact HB.out)) hb); clear HB; have HB := n0_; clear n0_; (try clear hb); (try clear hb2); (try clear hk); (try clear hi)) | (go_at_call 20; (with_reducible refine (redpencillaw41_nexts.calls kj43 (⟨#[97, 98, 10, 9, 99, 32, 100, 10]⟩ : ByteArray) 6 8 0 false _ ?side1 A89.out).mono ?_); (case side1 => exact GOK_below HG.out (by repeat (first | (with_reducible first | exact HB.out | apply below_alloc | apply pw_below_drewN | apply below_drew1) | exact HB.out))); rintro e w126 ⟨rfl, hb⟩; have n0_ := Aside0.mk (below_step (by repeat (first | (with_reducible first | exact HB.out | apply below_alloc | apply pw_below_drewN | apply below_drew1) | exact HB.out)) hb); clear HB; have HB := n0_; clear n0_; (try clear hb); (try clear hb2); (try clear hk); (try clear hi)))
         go_ret
         exact ⟨by first | rfl | (simp [errW_none, errW_some] <;> rfl) | (simp [*, errW_none, errW_some] <;> rfl), by repeat (first | (with_reducible first | exact HB.out | apply below_alloc | apply pw_below_drewN | apply below_drew1) | exact HB.out)⟩
       ·
        replace c88 := Bool.eq_false_iff.mpr c88
        subst c88
        have H1 : (some false) = some r := by rw [if_neg (show ¬ (false = true) by decide)] at H; exact H
        clear H
        have H := H1
        clear H1
        obtain rfl := Option.some.inj H
        go_wp2_with (first | ((with_reducible refine gate_callee (f := 20) rfl ?_); refine goesL_ (some 69) rfl rfl Tryd.func20 (by kernel_rfl) rfl #[.string (⟨#[97, 98, 10, 9, 99, 32, 100, 10]⟩ : ByteArray), .int .i64 0, .int .i64 4, .int .i64 0] rfl (by (try simp only [List.map_toArray, List.map_cons, List.map_nil]); first | done | rfl | (simp only [List.length_drop, List.length_take]; rfl)) ?_; (with_reducible refine (redpencillaw41_nexts.calls kj43 (⟨#[97, 98, 10, 9, 99, 32, 100, 10]⟩ : ByteArray) 0 4 0 false _ ?side1 A87.out).mono ?_); (case side1 => exact GOK_below HG.out (by repeat (first | (with_reducible first | exact HB.out | apply below_alloc | apply pw_below_drewN | apply below_drew1) | exact HB.out))); rintro e w127 ⟨rfl, hb⟩; refine ⟨_, rfl, ?_⟩; have n0_ := Aside0.mk (below_step (by repeat (first | (with_reducible first | exact HB.out | apply below_alloc | apply pw_below_drewN | apply below_drew1) | exact HB.out)) hb); clear HB; have HB := n0_; clear n0_; (try clear hb); (try clear hb2); (try clear hk); (try clear hi)))
        go_ret
        exact ⟨by first | rfl | (simp [errW_none, errW_some] <;> rfl) | (simp [*, errW_none, errW_some] <;> rfl), by repeat (first | (with_reducible first | exact HB.out | apply below_alloc | apply pw_below_drewN | apply below_drew1) | exact HB.out)⟩

end Go.Proofs.YtbjahfbagbghnaaDoor.PAll
