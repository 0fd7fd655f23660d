/- Version vectors, plain law: VectorMakes answers true. -/
/- Layer 5: the call of VectorMakes at read arguments. -/
import Derived.Test.YtnbjkpfpcggopaaGreatDoorEh
import Derived.Test.YtnbjkpfpcggopaaGreatDoorPAllx5
import Derived.Test.YtnbjkpfpcggopaaGreatDoorEb4
namespace Go.Proofs.YtnbjkpfpcggopaaGreatDoor.Ev
open Go Go.RowKit Go.Proofs Go.Proofs.YtnbjkpfpcggopaaGreatDoorW.PrintWords Go.Proofs.YtnbjkpfpcggopaaGreatDoor.PAll Go.Proofs.YtnbjkpfpcggopaaGreatDoor.Dl Go.Proofs.YtnbjkpfpcggopaaGreatDoor.Dx
set_option linter.unusedSimpArgs false
set_option linter.unusedVariables false

theorem one_ok (d : S25) : VOk [d] ↔ okS d := ⟨fun h => h.2 d List.mem_cons_self, fun h => ⟨List.pairwise_singleton _ _, fun x hx => by rw [List.mem_singleton] at hx; rw [hx]; exact h⟩⟩
theorem mk_j2t (k : Nat) (hk : 150 ≤ k) (x : List S25) (hx : x.length ≤ 40) (a b : Int) (h : ¬ (VOk x ∧ okDot a b)) : redpencillaw05_VectorMakes.j2 k x true a b = some true := by
  obtain ⟨k, rfl⟩ : ∃ j, k = j + 1 := ⟨k - 1, by omega⟩
  have e : mrgV x [⟨a, b⟩] = ([], 2) := if_neg (fun q => h ⟨q.1, (one_ok _).1 q.2⟩)
  rw [redpencillaw05_VectorMakes.j2, if_pos rfl, raised_f k x [] a b 2 (by omega) (by omega), decide_eq_true e, Option.bind_some, if_pos rfl]
  exact then_known (by omega)
theorem mk_j2f (k : Nat) (hk : 150 ≤ k) (x : List S25) (hx : x.length ≤ 40) (a b : Int) (h1 : VOk x) (h2 : okDot a b) : redpencillaw05_VectorMakes.j2 k x false a b = some true := by
  obtain ⟨k, rfl⟩ : ∃ j, k = j + 1 := ⟨k - 1, by omega⟩
  have e : mrgV x [⟨a, b⟩] = (raiseP x ⟨a, b⟩, 0) := if_pos ⟨h1, (one_ok _).2 h2⟩
  have er : redpencilref05_Raise.f x a b = some (raiseP x ⟨a, b⟩) := if_pos ⟨by omega, h1, h2⟩
  rw [redpencillaw05_VectorMakes.j2, if_neg (by decide), if_pos (by simp only [List.length_nil]; omega), Option.bind_some, List.nil_append, er, Option.bind_some, raised_f k x _ a b 0 (by omega) (by omega), decide_eq_true e, Option.bind_some, if_pos rfl, same_val x x (by omega) k (by omega), decide_eq_true rfl, Option.bind_some, if_pos rfl]
  exact then_known (by omega)
theorem mk_j0f (k : Nat) (hk : 160 ≤ k) (l x : List S25) (hl : l.length ≤ 40) (hx : x.length ≤ 40) (a b : Int) : redpencillaw05_VectorMakes.j0 k l x false a b = some true := by
  obtain ⟨k, rfl⟩ : ∃ j, k = j + 1 := ⟨k - 1, by omega⟩
  obtain ⟨k, rfl⟩ : ∃ j, k = j + 1 := ⟨k - 1, by omega⟩
  have eo : redpencilref05_Of.f l = some (ofV l) := if_pos (by omega)
  rw [redpencillaw05_VectorMakes.j0, if_neg (by decide), eo, Option.bind_some, if_pos (by simp only [List.length_nil]; omega), Option.bind_some, List.nil_append, made_f (k + 1) l _ _ (by omega) (by omega), decide_eq_true rfl, Option.bind_some, if_pos rfl, same_val l l (by omega) (k + 1) (by omega), decide_eq_true rfl, Option.bind_some]
  show redpencillaw05_VectorMakes.j1 (k + 1) x false a b = _
  rw [redpencillaw05_VectorMakes.j1, if_neg (by decide), rvvalid_f x (by omega) k (by omega), Option.bind_some]
  by_cases h1 : VOk x
  · rw [decide_eq_true h1, if_pos rfl, rvalid_val, Option.bind_some]
    by_cases h2 : okDot a b
    · rw [decide_eq_true h2]
      exact mk_j2f k (by omega) x hx a b h1 h2
    · rw [decide_eq_false h2]
      exact mk_j2t k (by omega) x hx a b (fun q => h2 q.2)
  · rw [decide_eq_false h1, if_neg (by decide)]
    exact mk_j2t k (by omega) x hx a b (fun q => h1 q.1)
theorem mk_j0t (k : Nat) (hk : 100 ≤ k) (l x : List S25) (a b : Int) : redpencillaw05_VectorMakes.j0 k l x true a b = some true := by
  obtain ⟨k, rfl⟩ : ∃ j, k = j + 1 := ⟨k - 1, by omega⟩
  rw [redpencillaw05_VectorMakes.j0, if_pos rfl]
  exact then_known (by omega)
theorem Makes_f (l x : List S25) (a b : Int) : redpencillaw05_VectorMakes.f 200 l x a b = some true := by
  unfold redpencillaw05_VectorMakes.f
  by_cases h : (l.length : Int) > 40
  · rw [if_pos h]; exact mk_j0t _ (by decide) l x a b
  · rw [if_neg h]
    by_cases h2 : (x.length : Int) > 40
    · rw [decide_eq_true h2]; exact mk_j0t _ (by decide) l x a b
    · rw [decide_eq_false h2]; exact mk_j0f _ (by decide) l x (by omega) (by omega) a b
end Go.Proofs.YtnbjkpfpcggopaaGreatDoor.Ev

namespace Go.Proofs.YtnbjkpfpcggopaaGreatDoor.Ev
open Go Go.RowKit Go.Proofs Go.Proofs.YtnbjkpfpcggopaaGreatDoor.Kit Go.Proofs.YtnbjkpfpcggopaaGreatDoor.PAll Go.Proofs.YtnbjkpfpcggopaaGreatDoorW.PrintWords Go.Proofs.YtnbjkpfpcggopaaGreatDoor.Dl
set_option linter.unusedSimpArgs false
set_option linter.unusedVariables false

theorem makes_walk (A0 : Option Addr) (c0 : Nat) (l0 : List S25) (A1 : Option Addr) (c1 : Nat) (l1 : List S25) (v2 : Value) (x2 : S25) (W : World) (hG : GOK W) (h0 : k25.C W A0 l0.length l0) (hc0 : l0.length ≤ c0) (h1 : k25.C W A1 l1.length l1) (hc1 : l1.length ≤ c1) (h2 : k25.K W x2 v2.cells.toList) : Calls Tryz.prog 4 #[.slice A0 l0.length c0, .slice A1 l1.length c1, v2] W (YesP W) := by
  rw [dot_cells h2]
  exact redpencillaw05_VectorMakes.calls 200 A0 c0 l0 A1 c1 l1 _ _ W hG h0 hc0 h1 hc1 (Makes_f _ _ _ _)
end Go.Proofs.YtnbjkpfpcggopaaGreatDoor.Ev
