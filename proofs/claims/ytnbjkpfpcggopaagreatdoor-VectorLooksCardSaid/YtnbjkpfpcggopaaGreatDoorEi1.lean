/- Version vectors, plain law: VectorLooks answers true. -/
/- Layer 5: the call of VectorLooks at read arguments. -/
import Derived.Test.YtnbjkpfpcggopaaGreatDoorEh
import Derived.Test.YtnbjkpfpcggopaaGreatDoorPAllx4
import Derived.Test.YtnbjkpfpcggopaaGreatDoorEb4
namespace Go.Proofs.YtnbjkpfpcggopaaGreatDoor.Ev
open Go Go.RowKit Go.Proofs Go.Proofs.YtnbjkpfpcggopaaGreatDoorW.PrintWords Go.Proofs.YtnbjkpfpcggopaaGreatDoor.PAll Go.Proofs.YtnbjkpfpcggopaaGreatDoor.Dl Go.Proofs.YtnbjkpfpcggopaaGreatDoor.Dx
set_option linter.unusedSimpArgs false
set_option linter.unusedVariables false

theorem Looks_f (l : List S25) (a b c : Int) : redpencillaw05_VectorLooks.f 200 l a b c = some true := by
  unfold redpencillaw05_VectorLooks.f
  by_cases h : (l.length : Int) > 40
  · rw [if_pos h]; exact then_known (by decide)
  · have hl : l.length ≤ 40 := by omega
    have hg : vector_Get.f l a = some (getV l a) := if_pos (by omega)
    rw [if_neg h, valid_f l (by omega), Option.bind_some, rvvalid_f l (by omega) _ (by omega), Option.bind_some, if_pos (by simp), hg, Option.bind_some, rget_f l (by omega) a _ (by omega), Option.bind_some, if_pos rfl, vhas_f l (by omega), Option.bind_some, rhas_f l (by omega) b c _ (by omega), Option.bind_some, if_pos (by simp)]
    exact then_known (by decide)
end Go.Proofs.YtnbjkpfpcggopaaGreatDoor.Ev

namespace Go.Proofs.YtnbjkpfpcggopaaGreatDoor.Ev
open Go Go.RowKit Go.Proofs Go.Proofs.YtnbjkpfpcggopaaGreatDoor.Kit Go.Proofs.YtnbjkpfpcggopaaGreatDoor.PAll Go.Proofs.YtnbjkpfpcggopaaGreatDoorW.PrintWords Go.Proofs.YtnbjkpfpcggopaaGreatDoor.Dl
set_option linter.unusedSimpArgs false
set_option linter.unusedVariables false

theorem looks_walk (A0 : Option Addr) (c0 : Nat) (l0 : List S25) (a1 : Int) (v2 : Value) (x2 : S25) (W : World) (hG : GOK W) (h0 : k25.C W A0 l0.length l0) (hc0 : l0.length ≤ c0) (h2 : k25.K W x2 v2.cells.toList) : Calls Tryz.prog 3 #[.slice A0 l0.length c0, .int .i64 a1, v2] W (YesP W) := by
  rw [dot_cells h2]
  exact redpencillaw05_VectorLooks.calls 200 A0 c0 l0 a1 _ _ W hG h0 hc0 (Looks_f _ _ _ _)
end Go.Proofs.YtnbjkpfpcggopaaGreatDoor.Ev
