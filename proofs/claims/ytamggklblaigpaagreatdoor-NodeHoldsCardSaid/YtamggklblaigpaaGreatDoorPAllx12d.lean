-- Printed by a program of this session (wip/tools/mkprint2.py) out of the translation; Lean checks it. -- narrowed
import Derived.Test.YtamggklblaigpaaGreatDoorPAllx0
import Derived.Test.YtamggklblaigpaaGreatDoorPAllx1
import Derived.Test.YtamggklblaigpaaGreatDoorPAllx3
import Derived.Test.YtamggklblaigpaaGreatDoorPAllx4
import Derived.Test.YtamggklblaigpaaGreatDoorPAllx5
import Derived.Test.YtamggklblaigpaaGreatDoorPAllx8
import Derived.Test.YtamggklblaigpaaGreatDoorPAllx9
import Derived.Test.YtamggklblaigpaaGreatDoorNmc
namespace Go.Proofs.YtamggklblaigpaaGreatDoor.PAll
open Go.RowKit Go.Proofs.YtamggklblaigpaaGreatDoorW.PrintWords Go.Proofs.YtamggklblaigpaaGreatDoorW.PrintLast Go.Proofs.YtamggklblaigpaaGreatDoorW.PrintMore
attribute [local go_sem] max2_int min2_int max_two min_two max_three min_three max_four min_four   -- for this text's walks alone
set_option linter.unusedVariables false
set_option linter.unusedSimpArgs false

attribute [local go_sem high] eqA23
/-! ### redpencillaw09_NodeHolds: function 4 -/
mutual
def redpencillaw09_NodeHolds.j0 : Nat → Bool → Int → Int → Int → Int → Int → Int → Int → Int → Int → Int → Int → Int → Int → Int → Int → Int → Int → Int → Option (Bool)
 | 0, _, _, _, _, _, _, _, _, _, _, _, _, _, _, _, _, _, _, _ => none
 | k + 1, x45, x378000, x378001, x378002, x378003, x378004, x378005, x379000, x379001, x379002, x379003, x379004, x379005, x380000, x380001, x380002, x380003, x380004, x380005 => if x45 = true then (some false) else ((node_Before.f k x378000 x378001 x378002 x378003 x378004 x378005 x379000 x379001 x379002 x379003 x379004 x379005).bind fun t382 => (if t382 = true then ((node_Before.f k x379000 x379001 x379002 x379003 x379004 x379005 x380000 x380001 x380002 x380003 x380004 x380005).bind fun t383 => (if t383 = true then ((node_Before.f k x378000 x378001 x378002 x378003 x378004 x378005 x380000 x380001 x380002 x380003 x380004 x380005).bind fun t384 => (redpencillaw09_NodeHolds.j1 k (!t384) x378000 x378001 x378002 x378003 x378004 x378005 x379000 x379001 x379002 x379003 x379004 x379005 x380000 x380001 x380002 x380003 x380004 x380005)) else (redpencillaw09_NodeHolds.j1 k false x378000 x378001 x378002 x378003 x378004 x378005 x379000 x379001 x379002 x379003 x379004 x379005 x380000 x380001 x380002 x380003 x380004 x380005))) else (redpencillaw09_NodeHolds.j1 k false x378000 x378001 x378002 x378003 x378004 x378005 x379000 x379001 x379002 x379003 x379004 x379005 x380000 x380001 x380002 x380003 x380004 x380005)))
def redpencillaw09_NodeHolds.j1 : Nat → Bool → Int → Int → Int → Int → Int → Int → Int → Int → Int → Int → Int → Int → Int → Int → Int → Int → Int → Int → Option (Bool)
 | 0, _, _, _, _, _, _, _, _, _, _, _, _, _, _, _, _, _, _, _ => none
 | k + 1, x59, x378000, x378001, x378002, x378003, x378004, x378005, x379000, x379001, x379002, x379003, x379004, x379005, x380000, x380001, x380002, x380003, x380004, x380005 => if x59 = true then (some false) else ((node_Text.f x378000 x378001 x378002 x378003 x378004 x378005).bind fun bt385 => ((node_Valid.f k x378000 x378001 x378002 x378003 x378004 x378005).bind fun t387 => (if ((bt385.2 == 0) != t387) = true then (redpencillaw09_NodeHolds.j2 k true x378000 x378001 x378002 x378003 x378004 x378005 x379000 x379001 x379002 x379003 x379004 x379005 x380000 x380001 x380002 x380003 x380004 x380005) else (if bt385.2 = 0 then ((redpencillaw09_parses.f bt385.1 x378000 x378001 x378002 x378003 x378004 x378005 0).bind fun t388 => (if t388 = true then ((redpencillaw09_merges.f k x378000 x378001 x378002 x378003 x378004 x378005 x378000 x378001 x378002 x378003 x378004 x378005 x378000 x378001 x378002 x378003 x378004 x378005 0).bind fun t389 => (redpencillaw09_NodeHolds.j2 k (!t389) x378000 x378001 x378002 x378003 x378004 x378005 x379000 x379001 x379002 x379003 x379004 x379005 x380000 x380001 x380002 x380003 x380004 x380005)) else (redpencillaw09_NodeHolds.j2 k true x378000 x378001 x378002 x378003 x378004 x378005 x379000 x379001 x379002 x379003 x379004 x379005 x380000 x380001 x380002 x380003 x380004 x380005))) else (redpencillaw09_NodeHolds.j2 k false x378000 x378001 x378002 x378003 x378004 x378005 x379000 x379001 x379002 x379003 x379004 x379005 x380000 x380001 x380002 x380003 x380004 x380005)))))
def redpencillaw09_NodeHolds.j2 : Nat → Bool → Int → Int → Int → Int → Int → Int → Int → Int → Int → Int → Int → Int → Int → Int → Int → Int → Int → Int → Option (Bool)
 | 0, _, _, _, _, _, _, _, _, _, _, _, _, _, _, _, _, _, _, _ => none
 | k + 1, x86, x378000, x378001, x378002, x378003, x378004, x378005, x379000, x379001, x379002, x379003, x379004, x379005, x380000, x380001, x380002, x380003, x380004, x380005 => if x86 = true then (some false) else ((node_Merge.f k x378000 x378001 x378002 x378003 x378004 x378005 x379000 x379001 x379002 x379003 x379004 x379005).bind fun bt390 => ((node_Merge.f k x379000 x379001 x379002 x379003 x379004 x379005 x380000 x380001 x380002 x380003 x380004 x380005).bind fun bt398 => ((node_Merge.f k x378000 x378001 x378002 x378003 x378004 x378005 x380000 x380001 x380002 x380003 x380004 x380005).bind fun bt406 => ((redpencillaw09_merges.f k x379000 x379001 x379002 x379003 x379004 x379005 x378000 x378001 x378002 x378003 x378004 x378005 bt390.1 bt390.2.1 bt390.2.2.1 bt390.2.2.2.1 bt390.2.2.2.2.1 bt390.2.2.2.2.2.1 bt390.2.2.2.2.2.2).bind fun t414 => (if t414 = true then (if bt390.2.2.2.2.2.2 = 0 then ((node_Dead.f bt390.1 bt390.2.1 bt390.2.2.1 bt390.2.2.2.1 bt390.2.2.2.2.1 bt390.2.2.2.2.2.1).bind fun t415 => ((node_Dead.f x378000 x378001 x378002 x378003 x378004 x378005).bind fun t416 => (if t416 = true then (if (t415 != true) = true then (redpencillaw09_NodeHolds.j3 k bt390.2.2.2.2.2.2 bt398.2.2.2.2.2.2 bt406.2.2.2.2.2.2 true x378000 x378001 x378002 x378003 x378004 x378005 x380000 x380001 x380002 x380003 x380004 x380005 bt390.1 bt390.2.1 bt390.2.2.1 bt390.2.2.2.1 bt390.2.2.2.2.1 bt390.2.2.2.2.2.1 bt398.1 bt398.2.1 bt398.2.2.1 bt398.2.2.2.1 bt398.2.2.2.2.1 bt398.2.2.2.2.2.1) else ((node_Valid.f k bt390.1 bt390.2.1 bt390.2.2.1 bt390.2.2.2.1 bt390.2.2.2.2.1 bt390.2.2.2.2.2.1).bind fun t417 => (redpencillaw09_NodeHolds.j3 k bt390.2.2.2.2.2.2 bt398.2.2.2.2.2.2 bt406.2.2.2.2.2.2 (!t417) x378000 x378001 x378002 x378003 x378004 x378005 x380000 x380001 x380002 x380003 x380004 x380005 bt390.1 bt390.2.1 bt390.2.2.1 bt390.2.2.2.1 bt390.2.2.2.2.1 bt390.2.2.2.2.2.1 bt398.1 bt398.2.1 bt398.2.2.1 bt398.2.2.2.1 bt398.2.2.2.2.1 bt398.2.2.2.2.2.1))) else ((node_Dead.f x379000 x379001 x379002 x379003 x379004 x379005).bind fun t418 => (if (t415 != t418) = true then (redpencillaw09_NodeHolds.j3 k bt390.2.2.2.2.2.2 bt398.2.2.2.2.2.2 bt406.2.2.2.2.2.2 true x378000 x378001 x378002 x378003 x378004 x378005 x380000 x380001 x380002 x380003 x380004 x380005 bt390.1 bt390.2.1 bt390.2.2.1 bt390.2.2.2.1 bt390.2.2.2.2.1 bt390.2.2.2.2.2.1 bt398.1 bt398.2.1 bt398.2.2.1 bt398.2.2.2.1 bt398.2.2.2.2.1 bt398.2.2.2.2.2.1) else ((node_Valid.f k bt390.1 bt390.2.1 bt390.2.2.1 bt390.2.2.2.1 bt390.2.2.2.2.1 bt390.2.2.2.2.2.1).bind fun t419 => (redpencillaw09_NodeHolds.j3 k bt390.2.2.2.2.2.2 bt398.2.2.2.2.2.2 bt406.2.2.2.2.2.2 (!t419) x378000 x378001 x378002 x378003 x378004 x378005 x380000 x380001 x380002 x380003 x380004 x380005 bt390.1 bt390.2.1 bt390.2.2.1 bt390.2.2.2.1 bt390.2.2.2.2.1 bt390.2.2.2.2.2.1 bt398.1 bt398.2.1 bt398.2.2.1 bt398.2.2.2.1 bt398.2.2.2.2.1 bt398.2.2.2.2.2.1))))))) else (redpencillaw09_NodeHolds.j3 k bt390.2.2.2.2.2.2 bt398.2.2.2.2.2.2 bt406.2.2.2.2.2.2 false x378000 x378001 x378002 x378003 x378004 x378005 x380000 x380001 x380002 x380003 x380004 x380005 bt390.1 bt390.2.1 bt390.2.2.1 bt390.2.2.2.1 bt390.2.2.2.2.1 bt390.2.2.2.2.2.1 bt398.1 bt398.2.1 bt398.2.2.1 bt398.2.2.2.1 bt398.2.2.2.2.1 bt398.2.2.2.2.2.1)) else (redpencillaw09_NodeHolds.j3 k bt390.2.2.2.2.2.2 bt398.2.2.2.2.2.2 bt406.2.2.2.2.2.2 true x378000 x378001 x378002 x378003 x378004 x378005 x380000 x380001 x380002 x380003 x380004 x380005 bt390.1 bt390.2.1 bt390.2.2.1 bt390.2.2.2.1 bt390.2.2.2.2.1 bt390.2.2.2.2.2.1 bt398.1 bt398.2.1 bt398.2.2.1 bt398.2.2.2.1 bt398.2.2.2.2.1 bt398.2.2.2.2.2.1))))))
def redpencillaw09_NodeHolds.j3 : Nat → Int → Int → Int → Bool → Int → Int → Int → Int → Int → Int → Int → Int → Int → Int → Int → Int → Int → Int → Int → Int → Int → Int → Int → Int → Int → Int → Int → Int → Option (Bool)
 | 0, _, _, _, _, _, _, _, _, _, _, _, _, _, _, _, _, _, _, _, _, _, _, _, _, _, _, _, _ => none
 | k + 1, x10, x13, x15, x130, x378000, x378001, x378002, x378003, x378004, x378005, x380000, x380001, x380002, x380003, x380004, x380005, x398000, x398001, x398002, x398003, x398004, x398005, x406000, x406001, x406002, x406003, x406004, x406005 => if x130 = true then (some false) else (if x10 = 0 then (if x13 = 0 then (redpencillaw09_NodeHolds.j4 k (x15 != 0) x378000 x378001 x378002 x378003 x378004 x378005 x380000 x380001 x380002 x380003 x380004 x380005 x398000 x398001 x398002 x398003 x398004 x398005 x406000 x406001 x406002 x406003 x406004 x406005) else (redpencillaw09_NodeHolds.j4 k true x378000 x378001 x378002 x378003 x378004 x378005 x380000 x380001 x380002 x380003 x380004 x380005 x398000 x398001 x398002 x398003 x398004 x398005 x406000 x406001 x406002 x406003 x406004 x406005)) else (redpencillaw09_NodeHolds.j4 k true x378000 x378001 x378002 x378003 x378004 x378005 x380000 x380001 x380002 x380003 x380004 x380005 x398000 x398001 x398002 x398003 x398004 x398005 x406000 x406001 x406002 x406003 x406004 x406005))
def redpencillaw09_NodeHolds.j4 : Nat → Bool → Int → Int → Int → Int → Int → Int → Int → Int → Int → Int → Int → Int → Int → Int → Int → Int → Int → Int → Int → Int → Int → Int → Int → Int → Option (Bool)
 | 0, _, _, _, _, _, _, _, _, _, _, _, _, _, _, _, _, _, _, _, _, _, _, _, _, _ => none
 | k + 1, x140, x378000, x378001, x378002, x378003, x378004, x378005, x380000, x380001, x380002, x380003, x380004, x380005, x398000, x398001, x398002, x398003, x398004, x398005, x406000, x406001, x406002, x406003, x406004, x406005 => if x140 = true then ((redpencillaw09_known.f k).bind fun t420 => (some t420)) else ((node_Merge.f k x398000 x398001 x398002 x398003 x398004 x398005 x380000 x380001 x380002 x380003 x380004 x380005).bind fun bt421 => (if bt421.2.2.2.2.2.2 = 0 then ((redpencillaw09_merges.f k x378000 x378001 x378002 x378003 x378004 x378005 x406000 x406001 x406002 x406003 x406004 x406005 bt421.1 bt421.2.1 bt421.2.2.1 bt421.2.2.2.1 bt421.2.2.2.2.1 bt421.2.2.2.2.2.1 0).bind fun t429 => (if t429 = true then ((redpencillaw09_known.f k).bind fun t430 => (some t430)) else (some false))) else (some false)))
end
def redpencillaw09_NodeHolds.f (k : Nat) (a0_0 : Int) (a0_1 : Int) (a0_2 : Int) (a0_3 : Int) (a0_4 : Int) (a0_5 : Int) (a1_0 : Int) (a1_1 : Int) (a1_2 : Int) (a1_3 : Int) (a1_4 : Int) (a1_5 : Int) (a2_0 : Int) (a2_1 : Int) (a2_2 : Int) (a2_3 : Int) (a2_4 : Int) (a2_5 : Int) : Option (Bool) := (node_Before.f k a0_0 a0_1 a0_2 a0_3 a0_4 a0_5 a1_0 a1_1 a1_2 a1_3 a1_4 a1_5).bind fun t380 => ((node_Before.f k a1_0 a1_1 a1_2 a1_3 a1_4 a1_5 a0_0 a0_1 a0_2 a0_3 a0_4 a0_5).bind fun t381 => (if t380 = true then (if t381 = true then (redpencillaw09_NodeHolds.j0 k true a0_0 a0_1 a0_2 a0_3 a0_4 a0_5 a1_0 a1_1 a1_2 a1_3 a1_4 a1_5 a2_0 a2_1 a2_2 a2_3 a2_4 a2_5) else (if a0_4 = a1_4 then (redpencillaw09_NodeHolds.j0 k (true != (!(a0_0 == a1_0) || (!(a0_1 == a1_1)))) a0_0 a0_1 a0_2 a0_3 a0_4 a0_5 a1_0 a1_1 a1_2 a1_3 a1_4 a1_5 a2_0 a2_1 a2_2 a2_3 a2_4 a2_5) else (redpencillaw09_NodeHolds.j0 k (true != true) a0_0 a0_1 a0_2 a0_3 a0_4 a0_5 a1_0 a1_1 a1_2 a1_3 a1_4 a1_5 a2_0 a2_1 a2_2 a2_3 a2_4 a2_5))) else (if a0_4 = a1_4 then (redpencillaw09_NodeHolds.j0 k (t381 != (!(a0_0 == a1_0) || (!(a0_1 == a1_1)))) a0_0 a0_1 a0_2 a0_3 a0_4 a0_5 a1_0 a1_1 a1_2 a1_3 a1_4 a1_5 a2_0 a2_1 a2_2 a2_3 a2_4 a2_5) else (redpencillaw09_NodeHolds.j0 k (t381 != true) a0_0 a0_1 a0_2 a0_3 a0_4 a0_5 a1_0 a1_1 a1_2 a1_3 a1_4 a1_5 a2_0 a2_1 a2_2 a2_3 a2_4 a2_5))))
theorem redpencillaw09_NodeHolds.mono_l : ∀ k, (∀ y0 y1 y2 y3 y4 y5 y6 y7 y8 y9 y10 y11 y12 y13 y14 y15 y16 y17 y18, LeO (redpencillaw09_NodeHolds.j0 k y0 y1 y2 y3 y4 y5 y6 y7 y8 y9 y10 y11 y12 y13 y14 y15 y16 y17 y18) (redpencillaw09_NodeHolds.j0 (k + 1) y0 y1 y2 y3 y4 y5 y6 y7 y8 y9 y10 y11 y12 y13 y14 y15 y16 y17 y18)) ∧ (∀ y0 y1 y2 y3 y4 y5 y6 y7 y8 y9 y10 y11 y12 y13 y14 y15 y16 y17 y18, LeO (redpencillaw09_NodeHolds.j1 k y0 y1 y2 y3 y4 y5 y6 y7 y8 y9 y10 y11 y12 y13 y14 y15 y16 y17 y18) (redpencillaw09_NodeHolds.j1 (k + 1) y0 y1 y2 y3 y4 y5 y6 y7 y8 y9 y10 y11 y12 y13 y14 y15 y16 y17 y18)) ∧ (∀ y0 y1 y2 y3 y4 y5 y6 y7 y8 y9 y10 y11 y12 y13 y14 y15 y16 y17 y18, LeO (redpencillaw09_NodeHolds.j2 k y0 y1 y2 y3 y4 y5 y6 y7 y8 y9 y10 y11 y12 y13 y14 y15 y16 y17 y18) (redpencillaw09_NodeHolds.j2 (k + 1) y0 y1 y2 y3 y4 y5 y6 y7 y8 y9 y10 y11 y12 y13 y14 y15 y16 y17 y18)) ∧ (∀ y0 y1 y2 y3 y4 y5 y6 y7 y8 y9 y10 y11 y12 y13 y14 y15 y16 y17 y18 y19 y20 y21 y22 y23 y24 y25 y26 y27, LeO (redpencillaw09_NodeHolds.j3 k y0 y1 y2 y3 y4 y5 y6 y7 y8 y9 y10 y11 y12 y13 y14 y15 y16 y17 y18 y19 y20 y21 y22 y23 y24 y25 y26 y27) (redpencillaw09_NodeHolds.j3 (k + 1) y0 y1 y2 y3 y4 y5 y6 y7 y8 y9 y10 y11 y12 y13 y14 y15 y16 y17 y18 y19 y20 y21 y22 y23 y24 y25 y26 y27)) ∧ (∀ y0 y1 y2 y3 y4 y5 y6 y7 y8 y9 y10 y11 y12 y13 y14 y15 y16 y17 y18 y19 y20 y21 y22 y23 y24, LeO (redpencillaw09_NodeHolds.j4 k y0 y1 y2 y3 y4 y5 y6 y7 y8 y9 y10 y11 y12 y13 y14 y15 y16 y17 y18 y19 y20 y21 y22 y23 y24) (redpencillaw09_NodeHolds.j4 (k + 1) y0 y1 y2 y3 y4 y5 y6 y7 y8 y9 y10 y11 y12 y13 y14 y15 y16 y17 y18 y19 y20 y21 y22 y23 y24))
 | 0 => ⟨fun _ _ _ _ _ _ _ _ _ _ _ _ _ _ _ _ _ _ _ r h => by simp [redpencillaw09_NodeHolds.j0] at h, fun _ _ _ _ _ _ _ _ _ _ _ _ _ _ _ _ _ _ _ r h => by simp [redpencillaw09_NodeHolds.j1] at h, fun _ _ _ _ _ _ _ _ _ _ _ _ _ _ _ _ _ _ _ r h => by simp [redpencillaw09_NodeHolds.j2] at h, fun _ _ _ _ _ _ _ _ _ _ _ _ _ _ _ _ _ _ _ _ _ _ _ _ _ _ _ _ r h => by simp [redpencillaw09_NodeHolds.j3] at h, fun _ _ _ _ _ _ _ _ _ _ _ _ _ _ _ _ _ _ _ _ _ _ _ _ _ r h => by simp [redpencillaw09_NodeHolds.j4] at h⟩
 | k + 1 => by
  obtain ⟨ih0, ih1, ih2, ih3, ih4⟩ := redpencillaw09_NodeHolds.mono_l k
  refine ⟨?_, ?_, ?_, ?_, ?_⟩
  ·
   intro y0 y1 y2 y3 y4 y5 y6 y7 y8 y9 y10 y11 y12 y13 y14 y15 y16 y17 y18
   unfold redpencillaw09_NodeHolds.j0
   repeat' first
   | (with_reducible exact ih0 _ _ _ _ _ _ _ _ _ _ _ _ _ _ _ _ _ _ _)
   | (with_reducible exact ih1 _ _ _ _ _ _ _ _ _ _ _ _ _ _ _ _ _ _ _)
   | (with_reducible exact ih2 _ _ _ _ _ _ _ _ _ _ _ _ _ _ _ _ _ _ _)
   | (with_reducible exact ih3 _ _ _ _ _ _ _ _ _ _ _ _ _ _ _ _ _ _ _ _ _ _ _ _ _ _ _ _)
   | (with_reducible exact ih4 _ _ _ _ _ _ _ _ _ _ _ _ _ _ _ _ _ _ _ _ _ _ _ _ _)
   | (with_reducible exact node_Before.mono _ _ _ _ _ _ _ _ _ _ _ _ _)
   | (with_reducible exact node_Merge.mono _ _ _ _ _ _ _ _ _ _ _ _ _)
   | (with_reducible exact node_Valid.mono _ _ _ _ _ _ _)
   | (with_reducible exact redpencillaw09_known.mono _)
   | (with_reducible exact redpencillaw09_merges.mono _ _ _ _ _ _ _ _ _ _ _ _ _ _ _ _ _ _ _ _)
   | (with_reducible exact LeO.refl _)
   | (with_reducible exact LeO.none _)
   | (with_reducible refine LeO.ite ?_ ?_)
   | (with_reducible refine LeO.bind ?_ (fun _ => ?_))
   | exact ih0 _ _ _ _ _ _ _ _ _ _ _ _ _ _ _ _ _ _ _
   | exact ih1 _ _ _ _ _ _ _ _ _ _ _ _ _ _ _ _ _ _ _
   | exact ih2 _ _ _ _ _ _ _ _ _ _ _ _ _ _ _ _ _ _ _
   | exact ih3 _ _ _ _ _ _ _ _ _ _ _ _ _ _ _ _ _ _ _ _ _ _ _ _ _ _ _ _
   | exact ih4 _ _ _ _ _ _ _ _ _ _ _ _ _ _ _ _ _ _ _ _ _ _ _ _ _
   | exact node_Before.mono _ _ _ _ _ _ _ _ _ _ _ _ _
   | exact node_Merge.mono _ _ _ _ _ _ _ _ _ _ _ _ _
   | exact node_Valid.mono _ _ _ _ _ _ _
   | exact redpencillaw09_known.mono _
   | exact redpencillaw09_merges.mono _ _ _ _ _ _ _ _ _ _ _ _ _ _ _ _ _ _ _ _
   | exact LeO.none _
   | refine LeO.ite ?_ ?_
   | refine LeO.bind ?_ (fun _ => ?_)
  ·
   intro y0 y1 y2 y3 y4 y5 y6 y7 y8 y9 y10 y11 y12 y13 y14 y15 y16 y17 y18
   unfold redpencillaw09_NodeHolds.j1
   repeat' first
   | (with_reducible exact ih0 _ _ _ _ _ _ _ _ _ _ _ _ _ _ _ _ _ _ _)
   | (with_reducible exact ih1 _ _ _ _ _ _ _ _ _ _ _ _ _ _ _ _ _ _ _)
   | (with_reducible exact ih2 _ _ _ _ _ _ _ _ _ _ _ _ _ _ _ _ _ _ _)
   | (with_reducible exact ih3 _ _ _ _ _ _ _ _ _ _ _ _ _ _ _ _ _ _ _ _ _ _ _ _ _ _ _ _)
   | (with_reducible exact ih4 _ _ _ _ _ _ _ _ _ _ _ _ _ _ _ _ _ _ _ _ _ _ _ _ _)
   | (with_reducible exact node_Before.mono _ _ _ _ _ _ _ _ _ _ _ _ _)
   | (with_reducible exact node_Merge.mono _ _ _ _ _ _ _ _ _ _ _ _ _)
   | (with_reducible exact node_Valid.mono _ _ _ _ _ _ _)
   | (with_reducible exact redpencillaw09_known.mono _)
   | (with_reducible exact redpencillaw09_merges.mono _ _ _ _ _ _ _ _ _ _ _ _ _ _ _ _ _ _ _ _)
   | (with_reducible exact LeO.refl _)
   | (with_reducible exact LeO.none _)
   | (with_reducible refine LeO.ite ?_ ?_)
   | (with_reducible refine LeO.bind ?_ (fun _ => ?_))
   | exact ih0 _ _ _ _ _ _ _ _ _ _ _ _ _ _ _ _ _ _ _
   | exact ih1 _ _ _ _ _ _ _ _ _ _ _ _ _ _ _ _ _ _ _
   | exact ih2 _ _ _ _ _ _ _ _ _ _ _ _ _ _ _ _ _ _ _
   | exact ih3 _ _ _ _ _ _ _ _ _ _ _ _ _ _ _ _ _ _ _ _ _ _ _ _ _ _ _ _
   | exact ih4 _ _ _ _ _ _ _ _ _ _ _ _ _ _ _ _ _ _ _ _ _ _ _ _ _
   | exact node_Before.mono _ _ _ _ _ _ _ _ _ _ _ _ _
   | exact node_Merge.mono _ _ _ _ _ _ _ _ _ _ _ _ _
   | exact node_Valid.mono _ _ _ _ _ _ _
   | exact redpencillaw09_known.mono _
   | exact redpencillaw09_merges.mono _ _ _ _ _ _ _ _ _ _ _ _ _ _ _ _ _ _ _ _
   | exact LeO.none _
   | refine LeO.ite ?_ ?_
   | refine LeO.bind ?_ (fun _ => ?_)
  ·
   intro y0 y1 y2 y3 y4 y5 y6 y7 y8 y9 y10 y11 y12 y13 y14 y15 y16 y17 y18
   unfold redpencillaw09_NodeHolds.j2
   repeat' first
   | (with_reducible exact ih0 _ _ _ _ _ _ _ _ _ _ _ _ _ _ _ _ _ _ _)
   | (with_reducible exact ih1 _ _ _ _ _ _ _ _ _ _ _ _ _ _ _ _ _ _ _)
   | (with_reducible exact ih2 _ _ _ _ _ _ _ _ _ _ _ _ _ _ _ _ _ _ _)
   | (with_reducible exact ih3 _ _ _ _ _ _ _ _ _ _ _ _ _ _ _ _ _ _ _ _ _ _ _ _ _ _ _ _)
   | (with_reducible exact ih4 _ _ _ _ _ _ _ _ _ _ _ _ _ _ _ _ _ _ _ _ _ _ _ _ _)
   | (with_reducible exact node_Before.mono _ _ _ _ _ _ _ _ _ _ _ _ _)
   | (with_reducible exact node_Merge.mono _ _ _ _ _ _ _ _ _ _ _ _ _)
   | (with_reducible exact node_Valid.mono _ _ _ _ _ _ _)
   | (with_reducible exact redpencillaw09_known.mono _)
   | (with_reducible exact redpencillaw09_merges.mono _ _ _ _ _ _ _ _ _ _ _ _ _ _ _ _ _ _ _ _)
   | (with_reducible exact LeO.refl _)
   | (with_reducible exact LeO.none _)
   | (with_reducible refine LeO.ite ?_ ?_)
   | (with_reducible refine LeO.bind ?_ (fun _ => ?_))
   | exact ih0 _ _ _ _ _ _ _ _ _ _ _ _ _ _ _ _ _ _ _
   | exact ih1 _ _ _ _ _ _ _ _ _ _ _ _ _ _ _ _ _ _ _
   | exact ih2 _ _ _ _ _ _ _ _ _ _ _ _ _ _ _ _ _ _ _
   | exact ih3 _ _ _ _ _ _ _ _ _ _ _ _ _ _ _ _ _ _ _ _ _ _ _ _ _ _ _ _
   | exact ih4 _ _ _ _ _ _ _ _ _ _ _ _ _ _ _ _ _ _ _ _ _ _ _ _ _
   | exact node_Before.mono _ _ _ _ _ _ _ _ _ _ _ _ _
   | exact node_Merge.mono _ _ _ _ _ _ _ _ _ _ _ _ _
   | exact node_Valid.mono _ _ _ _ _ _ _
   | exact redpencillaw09_known.mono _
   | exact redpencillaw09_merges.mono _ _ _ _ _ _ _ _ _ _ _ _ _ _ _ _ _ _ _ _
   | exact LeO.none _
   | refine LeO.ite ?_ ?_
   | refine LeO.bind ?_ (fun _ => ?_)
  ·
   intro y0 y1 y2 y3 y4 y5 y6 y7 y8 y9 y10 y11 y12 y13 y14 y15 y16 y17 y18 y19 y20 y21 y22 y23 y24 y25 y26 y27
   unfold redpencillaw09_NodeHolds.j3
   repeat' first
   | (with_reducible exact ih0 _ _ _ _ _ _ _ _ _ _ _ _ _ _ _ _ _ _ _)
   | (with_reducible exact ih1 _ _ _ _ _ _ _ _ _ _ _ _ _ _ _ _ _ _ _)
   | (with_reducible exact ih2 _ _ _ _ _ _ _ _ _ _ _ _ _ _ _ _ _ _ _)
   | (with_reducible exact ih3 _ _ _ _ _ _ _ _ _ _ _ _ _ _ _ _ _ _ _ _ _ _ _ _ _ _ _ _)
   | (with_reducible exact ih4 _ _ _ _ _ _ _ _ _ _ _ _ _ _ _ _ _ _ _ _ _ _ _ _ _)
   | (with_reducible exact node_Before.mono _ _ _ _ _ _ _ _ _ _ _ _ _)
   | (with_reducible exact node_Merge.mono _ _ _ _ _ _ _ _ _ _ _ _ _)
   | (with_reducible exact node_Valid.mono _ _ _ _ _ _ _)
   | (with_reducible exact redpencillaw09_known.mono _)
   | (with_reducible exact redpencillaw09_merges.mono _ _ _ _ _ _ _ _ _ _ _ _ _ _ _ _ _ _ _ _)
   | (with_reducible exact LeO.refl _)
   | (with_reducible exact LeO.none _)
   | (with_reducible refine LeO.ite ?_ ?_)
   | (with_reducible refine LeO.bind ?_ (fun _ => ?_))
   | exact ih0 _ _ _ _ _ _ _ _ _ _ _ _ _ _ _ _ _ _ _
   | exact ih1 _ _ _ _ _ _ _ _ _ _ _ _ _ _ _ _ _ _ _
   | exact ih2 _ _ _ _ _ _ _ _ _ _ _ _ _ _ _ _ _ _ _
   | exact ih3 _ _ _ _ _ _ _ _ _ _ _ _ _ _ _ _ _ _ _ _ _ _ _ _ _ _ _ _
   | exact ih4 _ _ _ _ _ _ _ _ _ _ _ _ _ _ _ _ _ _ _ _ _ _ _ _ _
   | exact node_Before.mono _ _ _ _ _ _ _ _ _ _ _ _ _
   | exact node_Merge.mono _ _ _ _ _ _ _ _ _ _ _ _ _
   | exact node_Valid.mono _ _ _ _ _ _ _
   | exact redpencillaw09_known.mono _
   | exact redpencillaw09_merges.mono _ _ _ _ _ _ _ _ _ _ _ _ _ _ _ _ _ _ _ _
   | exact LeO.none _
   | refine LeO.ite ?_ ?_
   | refine LeO.bind ?_ (fun _ => ?_)
  ·
   intro y0 y1 y2 y3 y4 y5 y6 y7 y8 y9 y10 y11 y12 y13 y14 y15 y16 y17 y18 y19 y20 y21 y22 y23 y24
   unfold redpencillaw09_NodeHolds.j4
   repeat' first
   | (with_reducible exact ih0 _ _ _ _ _ _ _ _ _ _ _ _ _ _ _ _ _ _ _)
   | (with_reducible exact ih1 _ _ _ _ _ _ _ _ _ _ _ _ _ _ _ _ _ _ _)
   | (with_reducible exact ih2 _ _ _ _ _ _ _ _ _ _ _ _ _ _ _ _ _ _ _)
   | (with_reducible exact ih3 _ _ _ _ _ _ _ _ _ _ _ _ _ _ _ _ _ _ _ _ _ _ _ _ _ _ _ _)
   | (with_reducible exact ih4 _ _ _ _ _ _ _ _ _ _ _ _ _ _ _ _ _ _ _ _ _ _ _ _ _)
   | (with_reducible exact node_Before.mono _ _ _ _ _ _ _ _ _ _ _ _ _)
   | (with_reducible exact node_Merge.mono _ _ _ _ _ _ _ _ _ _ _ _ _)
   | (with_reducible exact node_Valid.mono _ _ _ _ _ _ _)
   | (with_reducible exact redpencillaw09_known.mono _)
   | (with_reducible exact redpencillaw09_merges.mono _ _ _ _ _ _ _ _ _ _ _ _ _ _ _ _ _ _ _ _)
   | (with_reducible exact LeO.refl _)
   | (with_reducible exact LeO.none _)
   | (with_reducible refine LeO.ite ?_ ?_)
   | (with_reducible refine LeO.bind ?_ (fun _ => ?_))
   | exact ih0 _ _ _ _ _ _ _ _ _ _ _ _ _ _ _ _ _ _ _
   | exact ih1 _ _ _ _ _ _ _ _ _ _ _ _ _ _ _ _ _ _ _
   | exact ih2 _ _ _ _ _ _ _ _ _ _ _ _ _ _ _ _ _ _ _
   | exact ih3 _ _ _ _ _ _ _ _ _ _ _ _ _ _ _ _ _ _ _ _ _ _ _ _ _ _ _ _
   | exact ih4 _ _ _ _ _ _ _ _ _ _ _ _ _ _ _ _ _ _ _ _ _ _ _ _ _
   | exact node_Before.mono _ _ _ _ _ _ _ _ _ _ _ _ _
   | exact node_Merge.mono _ _ _ _ _ _ _ _ _ _ _ _ _
   | exact node_Valid.mono _ _ _ _ _ _ _
   | exact redpencillaw09_known.mono _
   | exact redpencillaw09_merges.mono _ _ _ _ _ _ _ _ _ _ _ _ _ _ _ _ _ _ _ _
   | exact LeO.none _
   | refine LeO.ite ?_ ?_
   | refine LeO.bind ?_ (fun _ => ?_)
theorem redpencillaw09_NodeHolds.mono : ∀ a0 a1 a2 a3 a4 a5 a6 a7 a8 a9 a10 a11 a12 a13 a14 a15 a16 a17 k, LeO (redpencillaw09_NodeHolds.f k a0 a1 a2 a3 a4 a5 a6 a7 a8 a9 a10 a11 a12 a13 a14 a15 a16 a17) (redpencillaw09_NodeHolds.f (k + 1) a0 a1 a2 a3 a4 a5 a6 a7 a8 a9 a10 a11 a12 a13 a14 a15 a16 a17) := by
 intro a0 a1 a2 a3 a4 a5 a6 a7 a8 a9 a10 a11 a12 a13 a14 a15 a16 a17 k
 obtain ⟨ih0, ih1, ih2, ih3, ih4⟩ := redpencillaw09_NodeHolds.mono_l k
 unfold redpencillaw09_NodeHolds.f
 repeat' first
   | (with_reducible exact ih0 _ _ _ _ _ _ _ _ _ _ _ _ _ _ _ _ _ _ _)
   | (with_reducible exact ih1 _ _ _ _ _ _ _ _ _ _ _ _ _ _ _ _ _ _ _)
   | (with_reducible exact ih2 _ _ _ _ _ _ _ _ _ _ _ _ _ _ _ _ _ _ _)
   | (with_reducible exact ih3 _ _ _ _ _ _ _ _ _ _ _ _ _ _ _ _ _ _ _ _ _ _ _ _ _ _ _ _)
   | (with_reducible exact ih4 _ _ _ _ _ _ _ _ _ _ _ _ _ _ _ _ _ _ _ _ _ _ _ _ _)
   | (with_reducible exact node_Before.mono _ _ _ _ _ _ _ _ _ _ _ _ _)
   | (with_reducible exact node_Merge.mono _ _ _ _ _ _ _ _ _ _ _ _ _)
   | (with_reducible exact node_Valid.mono _ _ _ _ _ _ _)
   | (with_reducible exact redpencillaw09_known.mono _)
   | (with_reducible exact redpencillaw09_merges.mono _ _ _ _ _ _ _ _ _ _ _ _ _ _ _ _ _ _ _ _)
   | (with_reducible exact LeO.refl _)
   | (with_reducible exact LeO.none _)
   | (with_reducible refine LeO.ite ?_ ?_)
   | (with_reducible refine LeO.bind ?_ (fun _ => ?_))
   | exact ih0 _ _ _ _ _ _ _ _ _ _ _ _ _ _ _ _ _ _ _
   | exact ih1 _ _ _ _ _ _ _ _ _ _ _ _ _ _ _ _ _ _ _
   | exact ih2 _ _ _ _ _ _ _ _ _ _ _ _ _ _ _ _ _ _ _
   | exact ih3 _ _ _ _ _ _ _ _ _ _ _ _ _ _ _ _ _ _ _ _ _ _ _ _ _ _ _ _
   | exact ih4 _ _ _ _ _ _ _ _ _ _ _ _ _ _ _ _ _ _ _ _ _ _ _ _ _
   | exact node_Before.mono _ _ _ _ _ _ _ _ _ _ _ _ _
   | exact node_Merge.mono _ _ _ _ _ _ _ _ _ _ _ _ _
   | exact node_Valid.mono _ _ _ _ _ _ _
   | exact redpencillaw09_known.mono _
   | exact redpencillaw09_merges.mono _ _ _ _ _ _ _ _ _ _ _ _ _ _ _ _ _ _ _ _
   | exact LeO.none _
   | refine LeO.ite ?_ ?_
   | refine LeO.bind ?_ (fun _ => ?_)
end Go.Proofs.YtamggklblaigpaaGreatDoor.PAll
