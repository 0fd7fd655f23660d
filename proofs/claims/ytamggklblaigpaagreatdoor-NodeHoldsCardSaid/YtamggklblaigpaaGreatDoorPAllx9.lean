-- Printed by a program of this session (wip/tools/mkprint2.py) out of the translation; Lean checks it. -- narrowed
import Derived.Test.YtamggklblaigpaaGreatDoorPAllx0
import Derived.Test.YtamggklblaigpaaGreatDoorPAllx2
import Derived.Test.YtamggklblaigpaaGreatDoorPAllx3
import Derived.Test.YtamggklblaigpaaGreatDoorPAllx5
import Derived.Test.YtamggklblaigpaaGreatDoorPAllx8
import Derived.Test.YtamggklblaigpaaGreatDoorNmc
namespace Go.Proofs.YtamggklblaigpaaGreatDoor.PAll
open Go.RowKit Go.Proofs.YtamggklblaigpaaGreatDoorW.PrintWords Go.Proofs.YtamggklblaigpaaGreatDoorW.PrintLast Go.Proofs.YtamggklblaigpaaGreatDoorW.PrintMore
attribute [local go_sem] max2_int min2_int max_two min_two max_three min_three max_four min_four   -- for this text's walks alone
set_option linter.unusedVariables false
set_option linter.unusedSimpArgs false

attribute [local go_sem high] eqA25
/-! ### redpencillaw09_known: function 8 -/
mutual
def redpencillaw09_known.j0 : Nat → Bool → Int → Int → Int → Int → Int → Int → Int → Int → Int → Int → Int → Int → Int → Int → Int → Int → Int → Int → Option (Bool)
 | 0, _, _, _, _, _, _, _, _, _, _, _, _, _, _, _, _, _, _, _ => none
 | k + 1, x33, x187000, x187001, x187002, x187003, x187004, x187005, x188000, x188001, x188002, x188003, x188004, x188005, x189000, x189001, x189002, x189003, x189004, x189005 => if x33 = true then (some false) else ((redpencillaw09_of.f 1 2 0 5 0).bind fun bt224 => ((redpencillaw09_of.f 9 1 0 4 0).bind fun bt230 => ((node_Before.f k bt224.1 bt224.2.1 bt224.2.2.1 bt224.2.2.2.1 bt224.2.2.2.2.1 bt224.2.2.2.2.2 bt230.1 bt230.2.1 bt230.2.2.1 bt230.2.2.2.1 bt230.2.2.2.2.1 bt230.2.2.2.2.2).bind fun t236 => (if t236 = true then ((redpencillaw09_of.f 1 2 0 5 0).bind fun bt237 => ((redpencillaw09_of.f 2 2 0 5 0).bind fun bt243 => ((node_Before.f k bt237.1 bt237.2.1 bt237.2.2.1 bt237.2.2.2.1 bt237.2.2.2.2.1 bt237.2.2.2.2.2 bt243.1 bt243.2.1 bt243.2.2.1 bt243.2.2.2.1 bt243.2.2.2.2.1 bt243.2.2.2.2.2).bind fun t249 => (if t249 = true then (redpencillaw09_known.j1 k true x187000 x187001 x187002 x187003 x187004 x187005 x188000 x188001 x188002 x188003 x188004 x188005 x189000 x189001 x189002 x189003 x189004 x189005) else ((redpencillaw09_of.f 1 1 0 5 0).bind fun bt250 => ((redpencillaw09_of.f 1 1 0 5 0).bind fun bt256 => ((node_Before.f k bt250.1 bt250.2.1 bt250.2.2.1 bt250.2.2.2.1 bt250.2.2.2.2.1 bt250.2.2.2.2.2 bt256.1 bt256.2.1 bt256.2.2.1 bt256.2.2.2.1 bt256.2.2.2.2.1 bt256.2.2.2.2.2).bind fun t262 => (redpencillaw09_known.j1 k t262 x187000 x187001 x187002 x187003 x187004 x187005 x188000 x188001 x188002 x188003 x188004 x188005 x189000 x189001 x189002 x189003 x189004 x189005)))))))) else (redpencillaw09_known.j1 k true x187000 x187001 x187002 x187003 x187004 x187005 x188000 x188001 x188002 x188003 x188004 x188005 x189000 x189001 x189002 x189003 x189004 x189005)))))
def redpencillaw09_known.j1 : Nat → Bool → Int → Int → Int → Int → Int → Int → Int → Int → Int → Int → Int → Int → Int → Int → Int → Int → Int → Int → Option (Bool)
 | 0, _, _, _, _, _, _, _, _, _, _, _, _, _, _, _, _, _, _, _ => none
 | k + 1, x47, x187000, x187001, x187002, x187003, x187004, x187005, x188000, x188001, x188002, x188003, x188004, x188005, x189000, x189001, x189002, x189003, x189004, x189005 => if x47 = true then (some false) else ((redpencillaw09_merges.f k x187000 x187001 x187002 x187003 x187004 x187005 x188000 x188001 x188002 x188003 x188004 x188005 x188000 x188001 x188002 x188003 x188004 x188005 0).bind fun t263 => (if t263 = true then ((redpencillaw09_of.f 1 1 0 1 98).bind fun bt264 => ((redpencillaw09_merges.f k x187000 x187001 x187002 x187003 x187004 x187005 bt264.1 bt264.2.1 bt264.2.2.1 bt264.2.2.2.1 bt264.2.2.2.2.1 bt264.2.2.2.2.2 x189000 x189001 x189002 x189003 x189004 x189005 15).bind fun t270 => (if t270 = true then ((redpencillaw09_of.f 1 1 0 2 0).bind fun bt271 => ((redpencillaw09_merges.f k x188000 x188001 x188002 x188003 x188004 x188005 bt271.1 bt271.2.1 bt271.2.2.1 bt271.2.2.2.1 bt271.2.2.2.2.1 bt271.2.2.2.2.2 x189000 x189001 x189002 x189003 x189004 x189005 15).bind fun t277 => (if t277 = true then ((redpencillaw09_of.f 1 1 0 0 0).bind fun bt278 => ((redpencillaw09_merges.f k x188000 x188001 x188002 x188003 x188004 x188005 bt278.1 bt278.2.1 bt278.2.2.1 bt278.2.2.2.1 bt278.2.2.2.2.1 bt278.2.2.2.2.2 x189000 x189001 x189002 x189003 x189004 x189005 2).bind fun t284 => (redpencillaw09_known.j2 k (!t284) x189000 x189001 x189002 x189003 x189004 x189005))) else (redpencillaw09_known.j2 k true x189000 x189001 x189002 x189003 x189004 x189005)))) else (redpencillaw09_known.j2 k true x189000 x189001 x189002 x189003 x189004 x189005)))) else (redpencillaw09_known.j2 k true x189000 x189001 x189002 x189003 x189004 x189005)))
def redpencillaw09_known.j2 : Nat → Bool → Int → Int → Int → Int → Int → Int → Option (Bool)
 | 0, _, _, _, _, _, _, _ => none
 | k + 1, x73, x189000, x189001, x189002, x189003, x189004, x189005 => if x73 = true then (some false) else ((redpencillaw09_of.f 3 7 2 5 65).bind fun bt285 => ((redpencillaw09_parses.f (⟨#[51, 46, 55, 32, 49, 46, 50, 32, 53, 32, 85, 43, 48, 48, 52, 49]⟩ : ByteArray) bt285.1 bt285.2.1 bt285.2.2.1 bt285.2.2.2.1 bt285.2.2.2.2.1 bt285.2.2.2.2.2 0).bind fun t291 => (if t291 = true then ((redpencillaw09_of.f 3 7 0 5 0).bind fun bt292 => ((redpencillaw09_parses.f (⟨#[51, 46, 55, 32, 114, 111, 111, 116, 32, 53, 32, 45]⟩ : ByteArray) bt292.1 bt292.2.1 bt292.2.2.1 bt292.2.2.2.1 bt292.2.2.2.2.1 bt292.2.2.2.2.2 0).bind fun t298 => (if t298 = true then ((redpencillaw09_parses.f (⟨#[114, 111, 111, 116, 32, 114, 111, 111, 116, 32, 53, 32, 45]⟩ : ByteArray) x189000 x189001 x189002 x189003 x189004 x189005 6).bind fun t299 => (if t299 = true then ((redpencillaw09_parses.f (⟨#[51, 46, 55, 32, 114, 111, 111, 116, 32, 48, 53, 32, 45]⟩ : ByteArray) x189000 x189001 x189002 x189003 x189004 x189005 6).bind fun t300 => (if t300 = true then ((redpencillaw09_parses.f (⟨#[51, 46, 55, 32, 114, 111, 111, 116, 32, 53]⟩ : ByteArray) x189000 x189001 x189002 x189003 x189004 x189005 6).bind fun t301 => (some t301)) else (some false))) else (some false))) else (some false)))) else (some false))))
end
def redpencillaw09_known.f (k : Nat)  : Option (Bool) := (redpencillaw09_of.f 1 1 0 1 97).bind fun bt174 => ((redpencillaw09_of.f 1 1 0 1 0).bind fun bt180 => ((node_Valid.f k bt174.1 bt174.2.1 bt174.2.2.1 bt174.2.2.2.1 bt174.2.2.2.2.1 bt174.2.2.2.2.2).bind fun t189 => (if t189 = true then ((redpencillaw09_of.f 1 2 1 2 0).bind fun bt190 => ((node_Valid.f k bt190.1 bt190.2.1 bt190.2.2.1 bt190.2.2.2.1 bt190.2.2.2.2.1 bt190.2.2.2.2.2).bind fun t196 => (if t196 = true then ((redpencillaw09_of.f 1 1 1 2 0).bind fun bt197 => ((node_Valid.f k bt197.1 bt197.2.1 bt197.2.2.1 bt197.2.2.2.1 bt197.2.2.2.2.1 bt197.2.2.2.2.2).bind fun t203 => (if t203 = true then (redpencillaw09_known.j0 k true bt174.1 bt174.2.1 bt174.2.2.1 bt174.2.2.2.1 bt174.2.2.2.2.1 bt174.2.2.2.2.2 bt180.1 bt180.2.1 bt180.2.2.1 bt180.2.2.2.1 bt180.2.2.2.2.1 bt180.2.2.2.2.2 0 0 0 0 0 0) else ((redpencillaw09_of.f 1 1 0 0 0).bind fun bt204 => ((node_Valid.f k bt204.1 bt204.2.1 bt204.2.2.1 bt204.2.2.2.1 bt204.2.2.2.2.1 bt204.2.2.2.2.2).bind fun t210 => (if t210 = true then (redpencillaw09_known.j0 k true bt174.1 bt174.2.1 bt174.2.2.1 bt174.2.2.2.1 bt174.2.2.2.2.1 bt174.2.2.2.2.2 bt180.1 bt180.2.1 bt180.2.2.1 bt180.2.2.2.1 bt180.2.2.2.2.1 bt180.2.2.2.2.2 0 0 0 0 0 0) else ((redpencillaw09_of.f 1 2 1 2 0).bind fun bt211 => ((node_Dead.f bt211.1 bt211.2.1 bt211.2.2.1 bt211.2.2.2.1 bt211.2.2.2.2.1 bt211.2.2.2.2.2).bind fun t217 => (if t217 = true then ((node_Kill.f bt174.1 bt174.2.1 bt174.2.2.1 bt174.2.2.2.1 bt174.2.2.2.2.1 bt174.2.2.2.2.2).bind fun bt218 => (redpencillaw09_known.j0 k ((!(bt218.1 == bt180.1) || (!(bt218.2.1 == bt180.2.1))) || ((!(bt218.2.2.1 == bt180.2.2.1) || (!(bt218.2.2.2.1 == bt180.2.2.2.1))) || (!(bt218.2.2.2.2.1 == bt180.2.2.2.2.1) || (!(bt218.2.2.2.2.2 == bt180.2.2.2.2.2))))) bt174.1 bt174.2.1 bt174.2.2.1 bt174.2.2.2.1 bt174.2.2.2.2.1 bt174.2.2.2.2.2 bt180.1 bt180.2.1 bt180.2.2.1 bt180.2.2.2.1 bt180.2.2.2.2.1 bt180.2.2.2.2.2 0 0 0 0 0 0)) else (redpencillaw09_known.j0 k true bt174.1 bt174.2.1 bt174.2.2.1 bt174.2.2.2.1 bt174.2.2.2.2.1 bt174.2.2.2.2.2 bt180.1 bt180.2.1 bt180.2.2.1 bt180.2.2.2.1 bt180.2.2.2.2.1 bt180.2.2.2.2.2 0 0 0 0 0 0)))))))))) else (redpencillaw09_known.j0 k true bt174.1 bt174.2.1 bt174.2.2.1 bt174.2.2.2.1 bt174.2.2.2.2.1 bt174.2.2.2.2.2 bt180.1 bt180.2.1 bt180.2.2.1 bt180.2.2.2.1 bt180.2.2.2.2.1 bt180.2.2.2.2.2 0 0 0 0 0 0)))) else (redpencillaw09_known.j0 k true bt174.1 bt174.2.1 bt174.2.2.1 bt174.2.2.2.1 bt174.2.2.2.2.1 bt174.2.2.2.2.2 bt180.1 bt180.2.1 bt180.2.2.1 bt180.2.2.2.1 bt180.2.2.2.2.1 bt180.2.2.2.2.2 0 0 0 0 0 0))))
theorem redpencillaw09_known.mono_l : ∀ k, (∀ y0 y1 y2 y3 y4 y5 y6 y7 y8 y9 y10 y11 y12 y13 y14 y15 y16 y17 y18, LeO (redpencillaw09_known.j0 k y0 y1 y2 y3 y4 y5 y6 y7 y8 y9 y10 y11 y12 y13 y14 y15 y16 y17 y18) (redpencillaw09_known.j0 (k + 1) y0 y1 y2 y3 y4 y5 y6 y7 y8 y9 y10 y11 y12 y13 y14 y15 y16 y17 y18)) ∧ (∀ y0 y1 y2 y3 y4 y5 y6 y7 y8 y9 y10 y11 y12 y13 y14 y15 y16 y17 y18, LeO (redpencillaw09_known.j1 k y0 y1 y2 y3 y4 y5 y6 y7 y8 y9 y10 y11 y12 y13 y14 y15 y16 y17 y18) (redpencillaw09_known.j1 (k + 1) y0 y1 y2 y3 y4 y5 y6 y7 y8 y9 y10 y11 y12 y13 y14 y15 y16 y17 y18)) ∧ (∀ y0 y1 y2 y3 y4 y5 y6, LeO (redpencillaw09_known.j2 k y0 y1 y2 y3 y4 y5 y6) (redpencillaw09_known.j2 (k + 1) y0 y1 y2 y3 y4 y5 y6))
 | 0 => ⟨fun _ _ _ _ _ _ _ _ _ _ _ _ _ _ _ _ _ _ _ r h => by simp [redpencillaw09_known.j0] at h, fun _ _ _ _ _ _ _ _ _ _ _ _ _ _ _ _ _ _ _ r h => by simp [redpencillaw09_known.j1] at h, fun _ _ _ _ _ _ _ r h => by simp [redpencillaw09_known.j2] at h⟩
 | k + 1 => by
  obtain ⟨ih0, ih1, ih2⟩ := redpencillaw09_known.mono_l k
  refine ⟨?_, ?_, ?_⟩
  ·
   intro y0 y1 y2 y3 y4 y5 y6 y7 y8 y9 y10 y11 y12 y13 y14 y15 y16 y17 y18
   unfold redpencillaw09_known.j0
   repeat' first
   | (with_reducible exact ih0 _ _ _ _ _ _ _ _ _ _ _ _ _ _ _ _ _ _ _)
   | (with_reducible exact ih1 _ _ _ _ _ _ _ _ _ _ _ _ _ _ _ _ _ _ _)
   | (with_reducible exact ih2 _ _ _ _ _ _ _)
   | (with_reducible exact node_Before.mono _ _ _ _ _ _ _ _ _ _ _ _ _)
   | (with_reducible exact node_Valid.mono _ _ _ _ _ _ _)
   | (with_reducible exact redpencillaw09_merges.mono _ _ _ _ _ _ _ _ _ _ _ _ _ _ _ _ _ _ _ _)
   | (with_reducible exact LeO.refl _)
   | (with_reducible exact LeO.none _)
   | (with_reducible refine LeO.ite ?_ ?_)
   | (with_reducible refine LeO.bind ?_ (fun _ => ?_))
   | exact ih0 _ _ _ _ _ _ _ _ _ _ _ _ _ _ _ _ _ _ _
   | exact ih1 _ _ _ _ _ _ _ _ _ _ _ _ _ _ _ _ _ _ _
   | exact ih2 _ _ _ _ _ _ _
   | exact node_Before.mono _ _ _ _ _ _ _ _ _ _ _ _ _
   | exact node_Valid.mono _ _ _ _ _ _ _
   | exact redpencillaw09_merges.mono _ _ _ _ _ _ _ _ _ _ _ _ _ _ _ _ _ _ _ _
   | exact LeO.none _
   | refine LeO.ite ?_ ?_
   | refine LeO.bind ?_ (fun _ => ?_)
  ·
   intro y0 y1 y2 y3 y4 y5 y6 y7 y8 y9 y10 y11 y12 y13 y14 y15 y16 y17 y18
   unfold redpencillaw09_known.j1
   repeat' first
   | (with_reducible exact ih0 _ _ _ _ _ _ _ _ _ _ _ _ _ _ _ _ _ _ _)
   | (with_reducible exact ih1 _ _ _ _ _ _ _ _ _ _ _ _ _ _ _ _ _ _ _)
   | (with_reducible exact ih2 _ _ _ _ _ _ _)
   | (with_reducible exact node_Before.mono _ _ _ _ _ _ _ _ _ _ _ _ _)
   | (with_reducible exact node_Valid.mono _ _ _ _ _ _ _)
   | (with_reducible exact redpencillaw09_merges.mono _ _ _ _ _ _ _ _ _ _ _ _ _ _ _ _ _ _ _ _)
   | (with_reducible exact LeO.refl _)
   | (with_reducible exact LeO.none _)
   | (with_reducible refine LeO.ite ?_ ?_)
   | (with_reducible refine LeO.bind ?_ (fun _ => ?_))
   | exact ih0 _ _ _ _ _ _ _ _ _ _ _ _ _ _ _ _ _ _ _
   | exact ih1 _ _ _ _ _ _ _ _ _ _ _ _ _ _ _ _ _ _ _
   | exact ih2 _ _ _ _ _ _ _
   | exact node_Before.mono _ _ _ _ _ _ _ _ _ _ _ _ _
   | exact node_Valid.mono _ _ _ _ _ _ _
   | exact redpencillaw09_merges.mono _ _ _ _ _ _ _ _ _ _ _ _ _ _ _ _ _ _ _ _
   | exact LeO.none _
   | refine LeO.ite ?_ ?_
   | refine LeO.bind ?_ (fun _ => ?_)
  ·
   intro y0 y1 y2 y3 y4 y5 y6
   unfold redpencillaw09_known.j2
   repeat' first
   | (with_reducible exact ih0 _ _ _ _ _ _ _ _ _ _ _ _ _ _ _ _ _ _ _)
   | (with_reducible exact ih1 _ _ _ _ _ _ _ _ _ _ _ _ _ _ _ _ _ _ _)
   | (with_reducible exact ih2 _ _ _ _ _ _ _)
   | (with_reducible exact node_Before.mono _ _ _ _ _ _ _ _ _ _ _ _ _)
   | (with_reducible exact node_Valid.mono _ _ _ _ _ _ _)
   | (with_reducible exact redpencillaw09_merges.mono _ _ _ _ _ _ _ _ _ _ _ _ _ _ _ _ _ _ _ _)
   | (with_reducible exact LeO.refl _)
   | (with_reducible exact LeO.none _)
   | (with_reducible refine LeO.ite ?_ ?_)
   | (with_reducible refine LeO.bind ?_ (fun _ => ?_))
   | exact ih0 _ _ _ _ _ _ _ _ _ _ _ _ _ _ _ _ _ _ _
   | exact ih1 _ _ _ _ _ _ _ _ _ _ _ _ _ _ _ _ _ _ _
   | exact ih2 _ _ _ _ _ _ _
   | exact node_Before.mono _ _ _ _ _ _ _ _ _ _ _ _ _
   | exact node_Valid.mono _ _ _ _ _ _ _
   | exact redpencillaw09_merges.mono _ _ _ _ _ _ _ _ _ _ _ _ _ _ _ _ _ _ _ _
   | exact LeO.none _
   | refine LeO.ite ?_ ?_
   | refine LeO.bind ?_ (fun _ => ?_)
theorem redpencillaw09_known.mono : ∀ k, LeO (redpencillaw09_known.f k ) (redpencillaw09_known.f (k + 1) ) := by
 intro  k
 obtain ⟨ih0, ih1, ih2⟩ := redpencillaw09_known.mono_l k
 unfold redpencillaw09_known.f
 repeat' first
   | (with_reducible exact ih0 _ _ _ _ _ _ _ _ _ _ _ _ _ _ _ _ _ _ _)
   | (with_reducible exact ih1 _ _ _ _ _ _ _ _ _ _ _ _ _ _ _ _ _ _ _)
   | (with_reducible exact ih2 _ _ _ _ _ _ _)
   | (with_reducible exact node_Before.mono _ _ _ _ _ _ _ _ _ _ _ _ _)
   | (with_reducible exact node_Valid.mono _ _ _ _ _ _ _)
   | (with_reducible exact redpencillaw09_merges.mono _ _ _ _ _ _ _ _ _ _ _ _ _ _ _ _ _ _ _ _)
   | (with_reducible exact LeO.refl _)
   | (with_reducible exact LeO.none _)
   | (with_reducible refine LeO.ite ?_ ?_)
   | (with_reducible refine LeO.bind ?_ (fun _ => ?_))
   | exact ih0 _ _ _ _ _ _ _ _ _ _ _ _ _ _ _ _ _ _ _
   | exact ih1 _ _ _ _ _ _ _ _ _ _ _ _ _ _ _ _ _ _ _
   | exact ih2 _ _ _ _ _ _ _
   | exact node_Before.mono _ _ _ _ _ _ _ _ _ _ _ _ _
   | exact node_Valid.mono _ _ _ _ _ _ _
   | exact redpencillaw09_merges.mono _ _ _ _ _ _ _ _ _ _ _ _ _ _ _ _ _ _ _ _
   | exact LeO.none _
   | refine LeO.ite ?_ ?_
   | refine LeO.bind ?_ (fun _ => ?_)
def redpencillaw09_known.T2 : Bool × List (List Nat × List Nat) := (true, [([], []), ([0], [0]), ([1], [1]), ([2, 1], [2]), ([3, 3], [3]), ([4, 4, 3], [3, 4]), ([5, 3], [3, 5]), ([3, 6], [3, 6]), ([7, 5], [7]), ([8, 8], [8]), ([9, 9, 8], [8, 9]), ([8, 10], [8, 10]), ([11, 10], [11]), ([12, 12], [12]), ([13, 13, 12], [12, 13]), ([12, 14], [12, 14]), ([15, 14], [15]), ([16, 16], [16]), ([17, 17, 16], [16, 17]), ([18, 16], [16, 18]), ([16, 19], [16, 19]), ([20, 18], [20]), ([21], [21]), ([22, 21, 21], [21, 22]), ([21], [21]), ([23, 24, 21], [21, 23, 24]), ([21, 25], [21, 25])])
def redpencillaw09_known.B2 : List Nat := [0, 1, 3, 7, 15, 31, 63, 127, 255, 511, 1023, 2047, 4095, 8191, 16383, 32767, 65535, 131071, 262143, 524287, 1048575, 2097151, 4194303, 8388607, 4194303, 33554431, 67108863]
theorem redpencillaw09_known.tab2 : rtab .any (opsOf Tryz.f8 2) = redpencillaw09_known.T2 := by kernel_rfl
theorem redpencillaw09_known.bits2 : waitsOk redpencillaw09_known.T2.2 redpencillaw09_known.B2 = true := by kernel_rfl
def redpencillaw09_known.T6 : Bool × List (List Nat × List Nat) := (true, [([], []), ([], []), ([], []), ([0, 1, 2], [0, 1, 2]), ([3], [3]), ([4, 3], [4]), ([5], [5]), ([5, 5], [5]), ([5], [5]), ([6, 7, 8, 7, 5], [5, 6, 7, 8]), ([9, 5], [5, 9]), ([5, 10], [5, 10]), ([11, 9], [11]), ([12], [12]), ([12, 12], [12]), ([12], [12]), ([13, 14, 15, 14, 12], [12, 13, 14, 15]), ([16, 12], [12, 16]), ([12, 17], [12, 17]), ([18, 16], [18]), ([19], [19]), ([19, 19], [19]), ([19], [19]), ([20, 21, 22, 21, 19], [19, 20, 21, 22]), ([23, 19], [19, 23]), ([19, 24], [19, 24])])
def redpencillaw09_known.B6 : List Nat := [0, 0, 0, 7, 15, 31, 63, 63, 63, 511, 1023, 2047, 4095, 8191, 8191, 8191, 65535, 131071, 262143, 524287, 1048575, 1048575, 1048575, 8388607, 16777215, 33554431]
theorem redpencillaw09_known.tab6 : rtab .any (opsOf Tryz.f8 6) = redpencillaw09_known.T6 := by kernel_rfl
theorem redpencillaw09_known.bits6 : waitsOk redpencillaw09_known.T6.2 redpencillaw09_known.B6 = true := by kernel_rfl
theorem redpencillaw09_known.j0_no : ∀ k y1 y2 y3 y4 y5 y6 y7 y8 y9 y10 y11 y12 y13 y14 y15 y16 y17 y18, ¬ redpencillaw09_known.j0 k true y1 y2 y3 y4 y5 y6 y7 y8 y9 y10 y11 y12 y13 y14 y15 y16 y17 y18 = some true := by
  intro k y1 y2 y3 y4 y5 y6 y7 y8 y9 y10 y11 y12 y13 y14 y15 y16 y17 y18
  cases k with
  | zero => rw [redpencillaw09_known.j0]; simp
  | succ k => rw [redpencillaw09_known.j0]; simp
theorem redpencillaw09_known.j1_no : ∀ k y1 y2 y3 y4 y5 y6 y7 y8 y9 y10 y11 y12 y13 y14 y15 y16 y17 y18, ¬ redpencillaw09_known.j1 k true y1 y2 y3 y4 y5 y6 y7 y8 y9 y10 y11 y12 y13 y14 y15 y16 y17 y18 = some true := by
  intro k y1 y2 y3 y4 y5 y6 y7 y8 y9 y10 y11 y12 y13 y14 y15 y16 y17 y18
  cases k with
  | zero => rw [redpencillaw09_known.j1]; simp
  | succ k => rw [redpencillaw09_known.j1]; simp
theorem redpencillaw09_known.j2_no : ∀ k y1 y2 y3 y4 y5 y6, ¬ redpencillaw09_known.j2 k true y1 y2 y3 y4 y5 y6 = some true := by
  intro k y1 y2 y3 y4 y5 y6
  cases k with
  | zero => rw [redpencillaw09_known.j2]; simp
  | succ k => rw [redpencillaw09_known.j2]; simp
set_option maxHeartbeats 8000000 in
set_option maxRecDepth 100000 in
theorem redpencillaw09_known.callsT (k : Nat)  (w : World) (hG : GOK w) (h : redpencillaw09_known.f k  = some true) :
  Calls Tryz.prog 8 #[] w fun e w' => e = .returned (.bool true) ∧ Below w.heap.size w w' := by
 have hu25 := Tryz.underlying25
 have HB := Aside0.mk (Below.refl w.heap.size w)
 have HG := Aside0.mk hG
 clear hG
 have H : ((redpencillaw09_of.f 1 1 0 1 97).bind fun bt174 => ((redpencillaw09_of.f 1 1 0 1 0).bind fun bt180 => ((node_Valid.f k bt174.1 bt174.2.1 bt174.2.2.1 bt174.2.2.2.1 bt174.2.2.2.2.1 bt174.2.2.2.2.2).bind fun t189 => (if t189 = true then ((redpencillaw09_of.f 1 2 1 2 0).bind fun bt190 => ((node_Valid.f k bt190.1 bt190.2.1 bt190.2.2.1 bt190.2.2.2.1 bt190.2.2.2.2.1 bt190.2.2.2.2.2).bind fun t196 => (if t196 = true then ((redpencillaw09_of.f 1 1 1 2 0).bind fun bt197 => ((node_Valid.f k bt197.1 bt197.2.1 bt197.2.2.1 bt197.2.2.2.1 bt197.2.2.2.2.1 bt197.2.2.2.2.2).bind fun t203 => (if t203 = true then (redpencillaw09_known.j0 k true bt174.1 bt174.2.1 bt174.2.2.1 bt174.2.2.2.1 bt174.2.2.2.2.1 bt174.2.2.2.2.2 bt180.1 bt180.2.1 bt180.2.2.1 bt180.2.2.2.1 bt180.2.2.2.2.1 bt180.2.2.2.2.2 0 0 0 0 0 0) else ((redpencillaw09_of.f 1 1 0 0 0).bind fun bt204 => ((node_Valid.f k bt204.1 bt204.2.1 bt204.2.2.1 bt204.2.2.2.1 bt204.2.2.2.2.1 bt204.2.2.2.2.2).bind fun t210 => (if t210 = true then (redpencillaw09_known.j0 k true bt174.1 bt174.2.1 bt174.2.2.1 bt174.2.2.2.1 bt174.2.2.2.2.1 bt174.2.2.2.2.2 bt180.1 bt180.2.1 bt180.2.2.1 bt180.2.2.2.1 bt180.2.2.2.2.1 bt180.2.2.2.2.2 0 0 0 0 0 0) else ((redpencillaw09_of.f 1 2 1 2 0).bind fun bt211 => ((node_Dead.f bt211.1 bt211.2.1 bt211.2.2.1 bt211.2.2.2.1 bt211.2.2.2.2.1 bt211.2.2.2.2.2).bind fun t217 => (if t217 = true then ((node_Kill.f bt174.1 bt174.2.1 bt174.2.2.1 bt174.2.2.2.1 bt174.2.2.2.2.1 bt174.2.2.2.2.2).bind fun bt218 => (redpencillaw09_known.j0 k ((!(bt218.1 == bt180.1) || (!(bt218.2.1 == bt180.2.1))) || ((!(bt218.2.2.1 == bt180.2.2.1) || (!(bt218.2.2.2.1 == bt180.2.2.2.1))) || (!(bt218.2.2.2.2.1 == bt180.2.2.2.2.1) || (!(bt218.2.2.2.2.2 == bt180.2.2.2.2.2))))) bt174.1 bt174.2.1 bt174.2.2.1 bt174.2.2.2.1 bt174.2.2.2.2.1 bt174.2.2.2.2.2 bt180.1 bt180.2.1 bt180.2.2.1 bt180.2.2.2.1 bt180.2.2.2.2.1 bt180.2.2.2.2.2 0 0 0 0 0 0)) else (redpencillaw09_known.j0 k true bt174.1 bt174.2.1 bt174.2.2.1 bt174.2.2.2.1 bt174.2.2.2.2.1 bt174.2.2.2.2.2 bt180.1 bt180.2.1 bt180.2.2.1 bt180.2.2.2.1 bt180.2.2.2.2.1 bt180.2.2.2.2.2 0 0 0 0 0 0)))))))))) else (redpencillaw09_known.j0 k true bt174.1 bt174.2.1 bt174.2.2.1 bt174.2.2.2.1 bt174.2.2.2.2.1 bt174.2.2.2.2.2 bt180.1 bt180.2.1 bt180.2.2.1 bt180.2.2.2.1 bt180.2.2.2.2.1 bt180.2.2.2.2.2 0 0 0 0 0 0)))) else (redpencillaw09_known.j0 k true bt174.1 bt174.2.1 bt174.2.2.1 bt174.2.2.2.1 bt174.2.2.2.2.1 bt174.2.2.2.2.2 bt180.1 bt180.2.1 bt180.2.2.1 bt180.2.2.2.1 bt180.2.2.2.2.1 bt180.2.2.2.2.2 0 0 0 0 0 0))))) = some true := h
 clear h
 replace H := Option.bind_eq_some_iff.mp H
 obtain ⟨⟨t174, t175, t176, t177, t178, t179⟩, A10, H⟩ := H
 replace H : ((redpencillaw09_of.f 1 1 0 1 0).bind fun bt180 => ((node_Valid.f k t174 t175 t176 t177 t178 t179).bind fun t189 => (if t189 = true then ((redpencillaw09_of.f 1 2 1 2 0).bind fun bt190 => ((node_Valid.f k bt190.1 bt190.2.1 bt190.2.2.1 bt190.2.2.2.1 bt190.2.2.2.2.1 bt190.2.2.2.2.2).bind fun t196 => (if t196 = true then ((redpencillaw09_of.f 1 1 1 2 0).bind fun bt197 => ((node_Valid.f k bt197.1 bt197.2.1 bt197.2.2.1 bt197.2.2.2.1 bt197.2.2.2.2.1 bt197.2.2.2.2.2).bind fun t203 => (if t203 = true then (redpencillaw09_known.j0 k true t174 t175 t176 t177 t178 t179 bt180.1 bt180.2.1 bt180.2.2.1 bt180.2.2.2.1 bt180.2.2.2.2.1 bt180.2.2.2.2.2 0 0 0 0 0 0) else ((redpencillaw09_of.f 1 1 0 0 0).bind fun bt204 => ((node_Valid.f k bt204.1 bt204.2.1 bt204.2.2.1 bt204.2.2.2.1 bt204.2.2.2.2.1 bt204.2.2.2.2.2).bind fun t210 => (if t210 = true then (redpencillaw09_known.j0 k true t174 t175 t176 t177 t178 t179 bt180.1 bt180.2.1 bt180.2.2.1 bt180.2.2.2.1 bt180.2.2.2.2.1 bt180.2.2.2.2.2 0 0 0 0 0 0) else ((redpencillaw09_of.f 1 2 1 2 0).bind fun bt211 => ((node_Dead.f bt211.1 bt211.2.1 bt211.2.2.1 bt211.2.2.2.1 bt211.2.2.2.2.1 bt211.2.2.2.2.2).bind fun t217 => (if t217 = true then ((node_Kill.f t174 t175 t176 t177 t178 t179).bind fun bt218 => (redpencillaw09_known.j0 k ((!(bt218.1 == bt180.1) || (!(bt218.2.1 == bt180.2.1))) || ((!(bt218.2.2.1 == bt180.2.2.1) || (!(bt218.2.2.2.1 == bt180.2.2.2.1))) || (!(bt218.2.2.2.2.1 == bt180.2.2.2.2.1) || (!(bt218.2.2.2.2.2 == bt180.2.2.2.2.2))))) t174 t175 t176 t177 t178 t179 bt180.1 bt180.2.1 bt180.2.2.1 bt180.2.2.2.1 bt180.2.2.2.2.1 bt180.2.2.2.2.2 0 0 0 0 0 0)) else (redpencillaw09_known.j0 k true t174 t175 t176 t177 t178 t179 bt180.1 bt180.2.1 bt180.2.2.1 bt180.2.2.2.1 bt180.2.2.2.2.1 bt180.2.2.2.2.2 0 0 0 0 0 0)))))))))) else (redpencillaw09_known.j0 k true t174 t175 t176 t177 t178 t179 bt180.1 bt180.2.1 bt180.2.2.1 bt180.2.2.2.1 bt180.2.2.2.2.1 bt180.2.2.2.2.2 0 0 0 0 0 0)))) else (redpencillaw09_known.j0 k true t174 t175 t176 t177 t178 t179 bt180.1 bt180.2.1 bt180.2.2.1 bt180.2.2.2.1 bt180.2.2.2.2.1 bt180.2.2.2.2.2 0 0 0 0 0 0)))) = some true := H
 have A1 := Aside0.mk A10
 clear A10
 replace H := Option.bind_eq_some_iff.mp H
 obtain ⟨⟨t180, t181, t182, t183, t184, t185⟩, A20, H⟩ := H
 replace H : ((node_Valid.f k t174 t175 t176 t177 t178 t179).bind fun t189 => (if t189 = true then ((redpencillaw09_of.f 1 2 1 2 0).bind fun bt190 => ((node_Valid.f k bt190.1 bt190.2.1 bt190.2.2.1 bt190.2.2.2.1 bt190.2.2.2.2.1 bt190.2.2.2.2.2).bind fun t196 => (if t196 = true then ((redpencillaw09_of.f 1 1 1 2 0).bind fun bt197 => ((node_Valid.f k bt197.1 bt197.2.1 bt197.2.2.1 bt197.2.2.2.1 bt197.2.2.2.2.1 bt197.2.2.2.2.2).bind fun t203 => (if t203 = true then (redpencillaw09_known.j0 k true t174 t175 t176 t177 t178 t179 t180 t181 t182 t183 t184 t185 0 0 0 0 0 0) else ((redpencillaw09_of.f 1 1 0 0 0).bind fun bt204 => ((node_Valid.f k bt204.1 bt204.2.1 bt204.2.2.1 bt204.2.2.2.1 bt204.2.2.2.2.1 bt204.2.2.2.2.2).bind fun t210 => (if t210 = true then (redpencillaw09_known.j0 k true t174 t175 t176 t177 t178 t179 t180 t181 t182 t183 t184 t185 0 0 0 0 0 0) else ((redpencillaw09_of.f 1 2 1 2 0).bind fun bt211 => ((node_Dead.f bt211.1 bt211.2.1 bt211.2.2.1 bt211.2.2.2.1 bt211.2.2.2.2.1 bt211.2.2.2.2.2).bind fun t217 => (if t217 = true then ((node_Kill.f t174 t175 t176 t177 t178 t179).bind fun bt218 => (redpencillaw09_known.j0 k ((!(bt218.1 == t180) || (!(bt218.2.1 == t181))) || ((!(bt218.2.2.1 == t182) || (!(bt218.2.2.2.1 == t183))) || (!(bt218.2.2.2.2.1 == t184) || (!(bt218.2.2.2.2.2 == t185))))) t174 t175 t176 t177 t178 t179 t180 t181 t182 t183 t184 t185 0 0 0 0 0 0)) else (redpencillaw09_known.j0 k true t174 t175 t176 t177 t178 t179 t180 t181 t182 t183 t184 t185 0 0 0 0 0 0)))))))))) else (redpencillaw09_known.j0 k true t174 t175 t176 t177 t178 t179 t180 t181 t182 t183 t184 t185 0 0 0 0 0 0)))) else (redpencillaw09_known.j0 k true t174 t175 t176 t177 t178 t179 t180 t181 t182 t183 t184 t185 0 0 0 0 0 0))) = some true := H
 have A2 := Aside0.mk A20
 clear A20
 have HC3 := Aside0.mk H
 clear H
 go_enter Tryz.func8, Tryz.ntmps8
 go_upto_region 2 with (first | ((with_reducible refine gate_callee (f := 24) rfl ?_); refine goesL_ (some 4) rfl rfl Tryz.func24 (by kernel_rfl) rfl #[.int .i64 1, .int .i64 1, .int .i64 0, .int .i64 1, .int .i32 97] rfl (by (try simp only [List.map_toArray, List.map_cons, List.map_nil]); first | done | rfl | (simp only [List.length_drop, List.length_take]; rfl)) ?_; (with_reducible refine (redpencillaw09_of.calls 1 1 0 1 97 t174 t175 t176 t177 t178 t179 _ A1.out).mono ?_); rintro e w4 ⟨rfl, hb⟩; refine ⟨_, rfl, ?_⟩; have n0_ := Aside0.mk (below_step (by repeat (first | (with_reducible first | exact HB.out | apply below_alloc | apply pw_below_drewN | apply below_drew1) | exact HB.out)) hb); clear HB; have HB := n0_; clear n0_; (try clear hb); (try clear hb2); (try clear hk); (try clear hi)) | ((with_reducible refine gate_callee (f := 24) rfl ?_); refine goesL_ (some 5) rfl rfl Tryz.func24 (by kernel_rfl) rfl #[.int .i64 1, .int .i64 1, .int .i64 0, .int .i64 1, .int .i32 0] rfl (by (try simp only [List.map_toArray, List.map_cons, List.map_nil]); first | done | rfl | (simp only [List.length_drop, List.length_take]; rfl)) ?_; (with_reducible refine (redpencillaw09_of.calls 1 1 0 1 0 t180 t181 t182 t183 t184 t185 _ A2.out).mono ?_); rintro e w5 ⟨rfl, hb⟩; refine ⟨_, rfl, ?_⟩; have n0_ := Aside0.mk (below_step (by repeat (first | (with_reducible first | exact HB.out | apply below_alloc | apply pw_below_drewN | apply below_drew1) | exact HB.out)) hb); clear HB; have HB := n0_; clear n0_; (try clear hb); (try clear hb2); (try clear hk); (try clear hi)) | ((with_reducible refine gate_dst (N := 1) rfl ?_); refine box_event ?hg (N := 1) ?hd (cs := #[.int .i64 0, .int .i64 0, .int .i64 0, .int .i64 0, .int .i64 0, .int .i32 0]) (t := 25) ?hr ?_; (case hd => rfl); (case hg => rfl); (case hr => first | (go_simp; done) | (go_simp; rfl)); intro gb186 hg w6 hbox hb; have n0_ := Aside0.mk (below_step (by repeat (first | (with_reducible first | exact HB.out | apply below_alloc | apply pw_below_drewN | apply below_drew1) | exact HB.out)) hb); have n1_ := Aside0.mk (hbox); have n2_ := Aside0.mk ((by rw [hg]; exact (below_size (by repeat (first | (with_reducible first | exact HB.out | apply below_alloc | apply pw_below_drewN | apply below_drew1) | exact HB.out))) : w.heap.size ≤ gb186)); have n3_ := Aside0.mk ((by rw [hg]; exact (below_size (by repeat (first | (with_reducible first | exact HB.out | apply below_alloc | apply pw_below_drewN | apply below_drew1) | exact HB.out))) : w.heap.size ≤ gb186)); clear HB; have HB := n0_; have BK186 := n1_; have GW186 := n2_; have GE186 := n3_; clear n0_ n1_ n2_ n3_; clear hb hbox hg) | ((with_reducible refine gate_dst (N := 2) rfl ?_); refine box_event ?hg (N := 2) ?hd (cs := #[.int .i64 0, .int .i64 0, .int .i64 0, .int .i64 0, .int .i64 0, .int .i32 0]) (t := 25) ?hr ?_; (case hd => rfl); (case hg => rfl); (case hr => first | (go_simp; done) | (go_simp; rfl)); intro gb187 hg w7 hbox hb; have n0_ := Aside0.mk (blk_below (g := gb186) (o := .cells #[.int .i64 0, .int .i64 0, .int .i64 0, .int .i64 0, .int .i64 0, .int .i32 0] 25 (0, 0)) (by (with_reducible repeat (first | refine blk_drewN ?_ _ | refine blk_drew ?_ | refine blk_alloc ?_ _)); exact BK186.out) hb); have n1_ := Aside0.mk (below_step (by repeat (first | (with_reducible first | exact HB.out | apply below_alloc | apply pw_below_drewN | apply below_drew1 | refine below_set ?_ GE186.out) | exact HB.out)) hb); have n2_ := Aside0.mk (hbox); have n3_ := Aside0.mk ((by rw [hg]; exact (below_size (by repeat (first | (with_reducible first | exact HB.out | apply below_alloc | apply pw_below_drewN | apply below_drew1 | refine below_set ?_ GE186.out) | exact HB.out))) : w.heap.size ≤ gb187)); have n4_ := Aside0.mk ((by rw [hg]; exact (below_size (by repeat (first | (with_reducible first | exact HB.out | apply below_alloc | apply pw_below_drewN | apply below_drew1 | refine below_set ?_ GE186.out) | exact HB.out))) : w.heap.size ≤ gb187)); have n5_ := Aside0.mk ((by rw [hg]; exact Nat.ne_of_lt (blk_lt (g := gb186) (o := .cells #[.int .i64 0, .int .i64 0, .int .i64 0, .int .i64 0, .int .i64 0, .int .i32 0] 25 (0, 0)) (by (with_reducible repeat (first | refine blk_drewN ?_ _ | refine blk_drew ?_ | refine blk_alloc ?_ _)); exact BK186.out)) : gb186 ≠ gb187)); have n6_ := Aside0.mk ((by rw [hg]; exact Nat.ne_of_gt (blk_lt (g := gb186) (o := .cells #[.int .i64 0, .int .i64 0, .int .i64 0, .int .i64 0, .int .i64 0, .int .i32 0] 25 (0, 0)) (by (with_reducible repeat (first | refine blk_drewN ?_ _ | refine blk_drew ?_ | refine blk_alloc ?_ _)); exact BK186.out)) : gb187 ≠ gb186)); clear BK186; clear HB; have BK186 := n0_; have HB := n1_; have BK187 := n2_; have GW187 := n3_; have GE187 := n4_; have NB186_187 := n5_; have NB187_186 := n6_; clear n0_ n1_ n2_ n3_ n4_ n5_ n6_; clear hb hbox hg) | ((with_reducible refine gate_dst (N := 3) rfl ?_); refine box_event ?hg (N := 3) ?hd (cs := #[.int .i64 0, .int .i64 0, .int .i64 0, .int .i64 0, .int .i64 0, .int .i32 0]) (t := 25) ?hr ?_; (case hd => rfl); (case hg => rfl); (case hr => first | (go_simp; done) | (go_simp; rfl)); intro gb188 hg w8 hbox hb; have n0_ := Aside0.mk (blk_below (g := gb186) (o := .cells #[.int .i64 0, .int .i64 0, .int .i64 0, .int .i64 0, .int .i64 0, .int .i32 0] 25 (0, 0)) (by (with_reducible repeat (first | refine blk_drewN ?_ _ | refine blk_drew ?_ | refine blk_alloc ?_ _)); exact BK186.out) hb); have n1_ := Aside0.mk (blk_below (g := gb187) (o := .cells #[.int .i64 0, .int .i64 0, .int .i64 0, .int .i64 0, .int .i64 0, .int .i32 0] 25 (0, 0)) (by (with_reducible repeat (first | refine blk_drewN ?_ _ | refine blk_drew ?_ | refine blk_alloc ?_ _)); exact BK187.out) hb); have n2_ := Aside0.mk (below_step (by repeat (first | (with_reducible first | exact HB.out | apply below_alloc | apply pw_below_drewN | apply below_drew1 | refine below_set ?_ GE186.out | refine below_set ?_ GE187.out) | exact HB.out)) hb); have n3_ := Aside0.mk (hbox); have n4_ := Aside0.mk ((by rw [hg]; exact (below_size (by repeat (first | (with_reducible first | exact HB.out | apply below_alloc | apply pw_below_drewN | apply below_drew1 | refine below_set ?_ GE186.out | refine below_set ?_ GE187.out) | exact HB.out))) : w.heap.size ≤ gb188)); have n5_ := Aside0.mk ((by rw [hg]; exact (below_size (by repeat (first | (with_reducible first | exact HB.out | apply below_alloc | apply pw_below_drewN | apply below_drew1 | refine below_set ?_ GE186.out | refine below_set ?_ GE187.out) | exact HB.out))) : w.heap.size ≤ gb188)); have n6_ := Aside0.mk ((by rw [hg]; exact Nat.ne_of_lt (blk_lt (g := gb186) (o := .cells #[.int .i64 0, .int .i64 0, .int .i64 0, .int .i64 0, .int .i64 0, .int .i32 0] 25 (0, 0)) (by (with_reducible repeat (first | refine blk_drewN ?_ _ | refine blk_drew ?_ | refine blk_alloc ?_ _)); exact BK186.out)) : gb186 ≠ gb188)); have n7_ := Aside0.mk ((by rw [hg]; exact Nat.ne_of_gt (blk_lt (g := gb186) (o := .cells #[.int .i64 0, .int .i64 0, .int .i64 0, .int .i64 0, .int .i64 0, .int .i32 0] 25 (0, 0)) (by (with_reducible repeat (first | refine blk_drewN ?_ _ | refine blk_drew ?_ | refine blk_alloc ?_ _)); exact BK186.out)) : gb188 ≠ gb186)); have n8_ := Aside0.mk ((by rw [hg]; exact Nat.ne_of_lt (blk_lt (g := gb187) (o := .cells #[.int .i64 0, .int .i64 0, .int .i64 0, .int .i64 0, .int .i64 0, .int .i32 0] 25 (0, 0)) (by (with_reducible repeat (first | refine blk_drewN ?_ _ | refine blk_drew ?_ | refine blk_alloc ?_ _)); exact BK187.out)) : gb187 ≠ gb188)); have n9_ := Aside0.mk ((by rw [hg]; exact Nat.ne_of_gt (blk_lt (g := gb187) (o := .cells #[.int .i64 0, .int .i64 0, .int .i64 0, .int .i64 0, .int .i64 0, .int .i32 0] 25 (0, 0)) (by (with_reducible repeat (first | refine blk_drewN ?_ _ | refine blk_drew ?_ | refine blk_alloc ?_ _)); exact BK187.out)) : gb188 ≠ gb187)); clear BK186; clear BK187; clear HB; have BK186 := n0_; have BK187 := n1_; have HB := n2_; have BK188 := n3_; have GW188 := n4_; have GE188 := n5_; have NB186_188 := n6_; have NB188_186 := n7_; have NB187_188 := n8_; have NB188_187 := n9_; clear n0_ n1_ n2_ n3_ n4_ n5_ n6_ n7_ n8_ n9_; clear hb hbox hg; have hnb9 := NB186_187.out; have hnc9 := NB187_186.out; have hnb10 := NB186_188.out; have hnc10 := NB188_186.out; have hcz11_0 : w8.cell? ⟨gb186, 0, none⟩ = some (.int .i64 0) := (blk_cell BK186.out 0).trans rfl; have hcz11_1 : w8.cell? ⟨gb186, 1, none⟩ = some (.int .i64 0) := (blk_cell BK186.out 1).trans rfl; have hcz11_2 : w8.cell? ⟨gb186, 2, none⟩ = some (.int .i64 0) := (blk_cell BK186.out 2).trans rfl; have hcz11_3 : w8.cell? ⟨gb186, 3, none⟩ = some (.int .i64 0) := (blk_cell BK186.out 3).trans rfl; have hcz11_4 : w8.cell? ⟨gb186, 4, none⟩ = some (.int .i64 0) := (blk_cell BK186.out 4).trans rfl; have hcz11_5 : w8.cell? ⟨gb186, 5, none⟩ = some (.int .i32 0) := (blk_cell BK186.out 5).trans rfl; have hfz11_0 := blk_frozen BK186.out 0; have hfz11_1 := blk_frozen BK186.out 1; have hfz11_2 := blk_frozen BK186.out 2; have hfz11_3 := blk_frozen BK186.out 3; have hfz11_4 := blk_frozen BK186.out 4; have hfz11_5 := blk_frozen BK186.out 5; have hnb12 := NB187_188.out; have hnc12 := NB188_187.out; have hcz13_0 : w8.cell? ⟨gb187, 0, none⟩ = some (.int .i64 0) := (blk_cell BK187.out 0).trans rfl; have hcz13_1 : w8.cell? ⟨gb187, 1, none⟩ = some (.int .i64 0) := (blk_cell BK187.out 1).trans rfl; have hcz13_2 : w8.cell? ⟨gb187, 2, none⟩ = some (.int .i64 0) := (blk_cell BK187.out 2).trans rfl; have hcz13_3 : w8.cell? ⟨gb187, 3, none⟩ = some (.int .i64 0) := (blk_cell BK187.out 3).trans rfl; have hcz13_4 : w8.cell? ⟨gb187, 4, none⟩ = some (.int .i64 0) := (blk_cell BK187.out 4).trans rfl; have hcz13_5 : w8.cell? ⟨gb187, 5, none⟩ = some (.int .i32 0) := (blk_cell BK187.out 5).trans rfl; have hfz13_0 := blk_frozen BK187.out 0; have hfz13_1 := blk_frozen BK187.out 1; have hfz13_2 := blk_frozen BK187.out 2; have hfz13_3 := blk_frozen BK187.out 3; have hfz13_4 := blk_frozen BK187.out 4; have hfz13_5 := blk_frozen BK187.out 5; have hcz14_0 : w8.cell? ⟨gb188, 0, none⟩ = some (.int .i64 0) := (blk_cell BK188.out 0).trans rfl; have hcz14_1 : w8.cell? ⟨gb188, 1, none⟩ = some (.int .i64 0) := (blk_cell BK188.out 1).trans rfl; have hcz14_2 : w8.cell? ⟨gb188, 2, none⟩ = some (.int .i64 0) := (blk_cell BK188.out 2).trans rfl; have hcz14_3 : w8.cell? ⟨gb188, 3, none⟩ = some (.int .i64 0) := (blk_cell BK188.out 3).trans rfl; have hcz14_4 : w8.cell? ⟨gb188, 4, none⟩ = some (.int .i64 0) := (blk_cell BK188.out 4).trans rfl; have hcz14_5 : w8.cell? ⟨gb188, 5, none⟩ = some (.int .i32 0) := (blk_cell BK188.out 5).trans rfl; have hfz14_0 := blk_frozen BK188.out 0; have hfz14_1 := blk_frozen BK188.out 1; have hfz14_2 := blk_frozen BK188.out 2; have hfz14_3 := blk_frozen BK188.out 3; have hfz14_4 := blk_frozen BK188.out 4; have hfz14_5 := blk_frozen BK188.out 5))
 (try simp only [Act.put, List.setIfInBounds_toArray, List.set_cons_zero, List.set_cons_succ])
 go_cut [33] (fun v33 wc => ∃ (kq : Nat) (x33_2 : Bool), v33 = .bool x33_2 ∧ Aside0 (redpencillaw09_known.j0 kq x33_2 t174 t175 t176 t177 t178 t179 t180 t181 t182 t183 t184 t185 0 0 0 0 0 0 = some true) ∧ Aside0 (kq ≤ k) ∧ Aside0 (wc.heap[gb186]? = some (.cells #[.int .i64 t174, .int .i64 t175, .int .i64 t176, .int .i64 t177, .int .i64 t178, .int .i32 t179] 25 (0, 0))) ∧ Aside0 (wc.heap[gb187]? = some (.cells #[.int .i64 t180, .int .i64 t181, .int .i64 t182, .int .i64 t183, .int .i64 t184, .int .i32 t185] 25 (0, 0))) ∧ Aside0 (wc.heap[gb188]? = some (.cells #[.int .i64 0, .int .i64 0, .int .i64 0, .int .i64 0, .int .i64 0, .int .i32 0] 25 (0, 0))) ∧ Aside0 (Below w.heap.size w wc))
 case first =>
  have H := HC3.out
  clear HC3
  replace H := Option.bind_eq_some_iff.mp H
  obtain ⟨t189, A150, H⟩ := H
  replace H : (if t189 = true then ((redpencillaw09_of.f 1 2 1 2 0).bind fun bt190 => ((node_Valid.f k bt190.1 bt190.2.1 bt190.2.2.1 bt190.2.2.2.1 bt190.2.2.2.2.1 bt190.2.2.2.2.2).bind fun t196 => (if t196 = true then ((redpencillaw09_of.f 1 1 1 2 0).bind fun bt197 => ((node_Valid.f k bt197.1 bt197.2.1 bt197.2.2.1 bt197.2.2.2.1 bt197.2.2.2.2.1 bt197.2.2.2.2.2).bind fun t203 => (if t203 = true then (redpencillaw09_known.j0 k true t174 t175 t176 t177 t178 t179 t180 t181 t182 t183 t184 t185 0 0 0 0 0 0) else ((redpencillaw09_of.f 1 1 0 0 0).bind fun bt204 => ((node_Valid.f k bt204.1 bt204.2.1 bt204.2.2.1 bt204.2.2.2.1 bt204.2.2.2.2.1 bt204.2.2.2.2.2).bind fun t210 => (if t210 = true then (redpencillaw09_known.j0 k true t174 t175 t176 t177 t178 t179 t180 t181 t182 t183 t184 t185 0 0 0 0 0 0) else ((redpencillaw09_of.f 1 2 1 2 0).bind fun bt211 => ((node_Dead.f bt211.1 bt211.2.1 bt211.2.2.1 bt211.2.2.2.1 bt211.2.2.2.2.1 bt211.2.2.2.2.2).bind fun t217 => (if t217 = true then ((node_Kill.f t174 t175 t176 t177 t178 t179).bind fun bt218 => (redpencillaw09_known.j0 k ((!(bt218.1 == t180) || (!(bt218.2.1 == t181))) || ((!(bt218.2.2.1 == t182) || (!(bt218.2.2.2.1 == t183))) || (!(bt218.2.2.2.2.1 == t184) || (!(bt218.2.2.2.2.2 == t185))))) t174 t175 t176 t177 t178 t179 t180 t181 t182 t183 t184 t185 0 0 0 0 0 0)) else (redpencillaw09_known.j0 k true t174 t175 t176 t177 t178 t179 t180 t181 t182 t183 t184 t185 0 0 0 0 0 0)))))))))) else (redpencillaw09_known.j0 k true t174 t175 t176 t177 t178 t179 t180 t181 t182 t183 t184 t185 0 0 0 0 0 0)))) else (redpencillaw09_known.j0 k true t174 t175 t176 t177 t178 t179 t180 t181 t182 t183 t184 t185 0 0 0 0 0 0)) = some true := H
  have A15 := Aside0.mk A150
  clear A150
  by_cases c16 : t189 = true
  ·
   subst c16
   have H1 : ((redpencillaw09_of.f 1 2 1 2 0).bind fun bt190 => ((node_Valid.f k bt190.1 bt190.2.1 bt190.2.2.1 bt190.2.2.2.1 bt190.2.2.2.2.1 bt190.2.2.2.2.2).bind fun t196 => (if t196 = true then ((redpencillaw09_of.f 1 1 1 2 0).bind fun bt197 => ((node_Valid.f k bt197.1 bt197.2.1 bt197.2.2.1 bt197.2.2.2.1 bt197.2.2.2.2.1 bt197.2.2.2.2.2).bind fun t203 => (if t203 = true then (redpencillaw09_known.j0 k true t174 t175 t176 t177 t178 t179 t180 t181 t182 t183 t184 t185 0 0 0 0 0 0) else ((redpencillaw09_of.f 1 1 0 0 0).bind fun bt204 => ((node_Valid.f k bt204.1 bt204.2.1 bt204.2.2.1 bt204.2.2.2.1 bt204.2.2.2.2.1 bt204.2.2.2.2.2).bind fun t210 => (if t210 = true then (redpencillaw09_known.j0 k true t174 t175 t176 t177 t178 t179 t180 t181 t182 t183 t184 t185 0 0 0 0 0 0) else ((redpencillaw09_of.f 1 2 1 2 0).bind fun bt211 => ((node_Dead.f bt211.1 bt211.2.1 bt211.2.2.1 bt211.2.2.2.1 bt211.2.2.2.2.1 bt211.2.2.2.2.2).bind fun t217 => (if t217 = true then ((node_Kill.f t174 t175 t176 t177 t178 t179).bind fun bt218 => (redpencillaw09_known.j0 k ((!(bt218.1 == t180) || (!(bt218.2.1 == t181))) || ((!(bt218.2.2.1 == t182) || (!(bt218.2.2.2.1 == t183))) || (!(bt218.2.2.2.2.1 == t184) || (!(bt218.2.2.2.2.2 == t185))))) t174 t175 t176 t177 t178 t179 t180 t181 t182 t183 t184 t185 0 0 0 0 0 0)) else (redpencillaw09_known.j0 k true t174 t175 t176 t177 t178 t179 t180 t181 t182 t183 t184 t185 0 0 0 0 0 0)))))))))) else (redpencillaw09_known.j0 k true t174 t175 t176 t177 t178 t179 t180 t181 t182 t183 t184 t185 0 0 0 0 0 0)))) = some true := by rw [if_pos rfl] at H; exact H
   clear H
   have H := H1
   clear H1
   replace H := Option.bind_eq_some_iff.mp H
   obtain ⟨⟨t190, t191, t192, t193, t194, t195⟩, A170, H⟩ := H
   replace H : ((node_Valid.f k t190 t191 t192 t193 t194 t195).bind fun t196 => (if t196 = true then ((redpencillaw09_of.f 1 1 1 2 0).bind fun bt197 => ((node_Valid.f k bt197.1 bt197.2.1 bt197.2.2.1 bt197.2.2.2.1 bt197.2.2.2.2.1 bt197.2.2.2.2.2).bind fun t203 => (if t203 = true then (redpencillaw09_known.j0 k true t174 t175 t176 t177 t178 t179 t180 t181 t182 t183 t184 t185 0 0 0 0 0 0) else ((redpencillaw09_of.f 1 1 0 0 0).bind fun bt204 => ((node_Valid.f k bt204.1 bt204.2.1 bt204.2.2.1 bt204.2.2.2.1 bt204.2.2.2.2.1 bt204.2.2.2.2.2).bind fun t210 => (if t210 = true then (redpencillaw09_known.j0 k true t174 t175 t176 t177 t178 t179 t180 t181 t182 t183 t184 t185 0 0 0 0 0 0) else ((redpencillaw09_of.f 1 2 1 2 0).bind fun bt211 => ((node_Dead.f bt211.1 bt211.2.1 bt211.2.2.1 bt211.2.2.2.1 bt211.2.2.2.2.1 bt211.2.2.2.2.2).bind fun t217 => (if t217 = true then ((node_Kill.f t174 t175 t176 t177 t178 t179).bind fun bt218 => (redpencillaw09_known.j0 k ((!(bt218.1 == t180) || (!(bt218.2.1 == t181))) || ((!(bt218.2.2.1 == t182) || (!(bt218.2.2.2.1 == t183))) || (!(bt218.2.2.2.2.1 == t184) || (!(bt218.2.2.2.2.2 == t185))))) t174 t175 t176 t177 t178 t179 t180 t181 t182 t183 t184 t185 0 0 0 0 0 0)) else (redpencillaw09_known.j0 k true t174 t175 t176 t177 t178 t179 t180 t181 t182 t183 t184 t185 0 0 0 0 0 0)))))))))) else (redpencillaw09_known.j0 k true t174 t175 t176 t177 t178 t179 t180 t181 t182 t183 t184 t185 0 0 0 0 0 0))) = some true := H
   have A17 := Aside0.mk A170
   clear A170
   replace H := Option.bind_eq_some_iff.mp H
   obtain ⟨t196, A180, H⟩ := H
   replace H : (if t196 = true then ((redpencillaw09_of.f 1 1 1 2 0).bind fun bt197 => ((node_Valid.f k bt197.1 bt197.2.1 bt197.2.2.1 bt197.2.2.2.1 bt197.2.2.2.2.1 bt197.2.2.2.2.2).bind fun t203 => (if t203 = true then (redpencillaw09_known.j0 k true t174 t175 t176 t177 t178 t179 t180 t181 t182 t183 t184 t185 0 0 0 0 0 0) else ((redpencillaw09_of.f 1 1 0 0 0).bind fun bt204 => ((node_Valid.f k bt204.1 bt204.2.1 bt204.2.2.1 bt204.2.2.2.1 bt204.2.2.2.2.1 bt204.2.2.2.2.2).bind fun t210 => (if t210 = true then (redpencillaw09_known.j0 k true t174 t175 t176 t177 t178 t179 t180 t181 t182 t183 t184 t185 0 0 0 0 0 0) else ((redpencillaw09_of.f 1 2 1 2 0).bind fun bt211 => ((node_Dead.f bt211.1 bt211.2.1 bt211.2.2.1 bt211.2.2.2.1 bt211.2.2.2.2.1 bt211.2.2.2.2.2).bind fun t217 => (if t217 = true then ((node_Kill.f t174 t175 t176 t177 t178 t179).bind fun bt218 => (redpencillaw09_known.j0 k ((!(bt218.1 == t180) || (!(bt218.2.1 == t181))) || ((!(bt218.2.2.1 == t182) || (!(bt218.2.2.2.1 == t183))) || (!(bt218.2.2.2.2.1 == t184) || (!(bt218.2.2.2.2.2 == t185))))) t174 t175 t176 t177 t178 t179 t180 t181 t182 t183 t184 t185 0 0 0 0 0 0)) else (redpencillaw09_known.j0 k true t174 t175 t176 t177 t178 t179 t180 t181 t182 t183 t184 t185 0 0 0 0 0 0)))))))))) else (redpencillaw09_known.j0 k true t174 t175 t176 t177 t178 t179 t180 t181 t182 t183 t184 t185 0 0 0 0 0 0)) = some true := H
   have A18 := Aside0.mk A180
   clear A180
   by_cases c19 : t196 = true
   ·
    subst c19
    have H1 : ((redpencillaw09_of.f 1 1 1 2 0).bind fun bt197 => ((node_Valid.f k bt197.1 bt197.2.1 bt197.2.2.1 bt197.2.2.2.1 bt197.2.2.2.2.1 bt197.2.2.2.2.2).bind fun t203 => (if t203 = true then (redpencillaw09_known.j0 k true t174 t175 t176 t177 t178 t179 t180 t181 t182 t183 t184 t185 0 0 0 0 0 0) else ((redpencillaw09_of.f 1 1 0 0 0).bind fun bt204 => ((node_Valid.f k bt204.1 bt204.2.1 bt204.2.2.1 bt204.2.2.2.1 bt204.2.2.2.2.1 bt204.2.2.2.2.2).bind fun t210 => (if t210 = true then (redpencillaw09_known.j0 k true t174 t175 t176 t177 t178 t179 t180 t181 t182 t183 t184 t185 0 0 0 0 0 0) else ((redpencillaw09_of.f 1 2 1 2 0).bind fun bt211 => ((node_Dead.f bt211.1 bt211.2.1 bt211.2.2.1 bt211.2.2.2.1 bt211.2.2.2.2.1 bt211.2.2.2.2.2).bind fun t217 => (if t217 = true then ((node_Kill.f t174 t175 t176 t177 t178 t179).bind fun bt218 => (redpencillaw09_known.j0 k ((!(bt218.1 == t180) || (!(bt218.2.1 == t181))) || ((!(bt218.2.2.1 == t182) || (!(bt218.2.2.2.1 == t183))) || (!(bt218.2.2.2.2.1 == t184) || (!(bt218.2.2.2.2.2 == t185))))) t174 t175 t176 t177 t178 t179 t180 t181 t182 t183 t184 t185 0 0 0 0 0 0)) else (redpencillaw09_known.j0 k true t174 t175 t176 t177 t178 t179 t180 t181 t182 t183 t184 t185 0 0 0 0 0 0)))))))))) = some true := by rw [if_pos rfl] at H; exact H
    clear H
    have H := H1
    clear H1
    replace H := Option.bind_eq_some_iff.mp H
    obtain ⟨⟨t197, t198, t199, t200, t201, t202⟩, A200, H⟩ := H
    replace H : ((node_Valid.f k t197 t198 t199 t200 t201 t202).bind fun t203 => (if t203 = true then (redpencillaw09_known.j0 k true t174 t175 t176 t177 t178 t179 t180 t181 t182 t183 t184 t185 0 0 0 0 0 0) else ((redpencillaw09_of.f 1 1 0 0 0).bind fun bt204 => ((node_Valid.f k bt204.1 bt204.2.1 bt204.2.2.1 bt204.2.2.2.1 bt204.2.2.2.2.1 bt204.2.2.2.2.2).bind fun t210 => (if t210 = true then (redpencillaw09_known.j0 k true t174 t175 t176 t177 t178 t179 t180 t181 t182 t183 t184 t185 0 0 0 0 0 0) else ((redpencillaw09_of.f 1 2 1 2 0).bind fun bt211 => ((node_Dead.f bt211.1 bt211.2.1 bt211.2.2.1 bt211.2.2.2.1 bt211.2.2.2.2.1 bt211.2.2.2.2.2).bind fun t217 => (if t217 = true then ((node_Kill.f t174 t175 t176 t177 t178 t179).bind fun bt218 => (redpencillaw09_known.j0 k ((!(bt218.1 == t180) || (!(bt218.2.1 == t181))) || ((!(bt218.2.2.1 == t182) || (!(bt218.2.2.2.1 == t183))) || (!(bt218.2.2.2.2.1 == t184) || (!(bt218.2.2.2.2.2 == t185))))) t174 t175 t176 t177 t178 t179 t180 t181 t182 t183 t184 t185 0 0 0 0 0 0)) else (redpencillaw09_known.j0 k true t174 t175 t176 t177 t178 t179 t180 t181 t182 t183 t184 t185 0 0 0 0 0 0))))))))) = some true := H
    have A20 := Aside0.mk A200
    clear A200
    replace H := Option.bind_eq_some_iff.mp H
    obtain ⟨t203, A210, H⟩ := H
    replace H : (if t203 = true then (redpencillaw09_known.j0 k true t174 t175 t176 t177 t178 t179 t180 t181 t182 t183 t184 t185 0 0 0 0 0 0) else ((redpencillaw09_of.f 1 1 0 0 0).bind fun bt204 => ((node_Valid.f k bt204.1 bt204.2.1 bt204.2.2.1 bt204.2.2.2.1 bt204.2.2.2.2.1 bt204.2.2.2.2.2).bind fun t210 => (if t210 = true then (redpencillaw09_known.j0 k true t174 t175 t176 t177 t178 t179 t180 t181 t182 t183 t184 t185 0 0 0 0 0 0) else ((redpencillaw09_of.f 1 2 1 2 0).bind fun bt211 => ((node_Dead.f bt211.1 bt211.2.1 bt211.2.2.1 bt211.2.2.2.1 bt211.2.2.2.2.1 bt211.2.2.2.2.2).bind fun t217 => (if t217 = true then ((node_Kill.f t174 t175 t176 t177 t178 t179).bind fun bt218 => (redpencillaw09_known.j0 k ((!(bt218.1 == t180) || (!(bt218.2.1 == t181))) || ((!(bt218.2.2.1 == t182) || (!(bt218.2.2.2.1 == t183))) || (!(bt218.2.2.2.2.1 == t184) || (!(bt218.2.2.2.2.2 == t185))))) t174 t175 t176 t177 t178 t179 t180 t181 t182 t183 t184 t185 0 0 0 0 0 0)) else (redpencillaw09_known.j0 k true t174 t175 t176 t177 t178 t179 t180 t181 t182 t183 t184 t185 0 0 0 0 0 0)))))))) = some true := H
    have A21 := Aside0.mk A210
    clear A210
    by_cases c22 : t203 = true
    ·
     subst c22
     have H1 : (redpencillaw09_known.j0 k true t174 t175 t176 t177 t178 t179 t180 t181 t182 t183 t184 t185 0 0 0 0 0 0) = some true := by rw [if_pos rfl] at H; exact H
     exact absurd H1 (redpencillaw09_known.j0_no _ _ _ _ _ _ _ _ _ _ _ _ _ _ _ _ _ _ _)
    ·
     replace c22 := Bool.eq_false_iff.mpr c22
     subst c22
     have H1 : ((redpencillaw09_of.f 1 1 0 0 0).bind fun bt204 => ((node_Valid.f k bt204.1 bt204.2.1 bt204.2.2.1 bt204.2.2.2.1 bt204.2.2.2.2.1 bt204.2.2.2.2.2).bind fun t210 => (if t210 = true then (redpencillaw09_known.j0 k true t174 t175 t176 t177 t178 t179 t180 t181 t182 t183 t184 t185 0 0 0 0 0 0) else ((redpencillaw09_of.f 1 2 1 2 0).bind fun bt211 => ((node_Dead.f bt211.1 bt211.2.1 bt211.2.2.1 bt211.2.2.2.1 bt211.2.2.2.2.1 bt211.2.2.2.2.2).bind fun t217 => (if t217 = true then ((node_Kill.f t174 t175 t176 t177 t178 t179).bind fun bt218 => (redpencillaw09_known.j0 k ((!(bt218.1 == t180) || (!(bt218.2.1 == t181))) || ((!(bt218.2.2.1 == t182) || (!(bt218.2.2.2.1 == t183))) || (!(bt218.2.2.2.2.1 == t184) || (!(bt218.2.2.2.2.2 == t185))))) t174 t175 t176 t177 t178 t179 t180 t181 t182 t183 t184 t185 0 0 0 0 0 0)) else (redpencillaw09_known.j0 k true t174 t175 t176 t177 t178 t179 t180 t181 t182 t183 t184 t185 0 0 0 0 0 0))))))) = some true := by rw [if_neg (show ¬ (false = true) by decide)] at H; exact H
     clear H
     have H := H1
     clear H1
     replace H := Option.bind_eq_some_iff.mp H
     obtain ⟨⟨t204, t205, t206, t207, t208, t209⟩, A300, H⟩ := H
     replace H : ((node_Valid.f k t204 t205 t206 t207 t208 t209).bind fun t210 => (if t210 = true then (redpencillaw09_known.j0 k true t174 t175 t176 t177 t178 t179 t180 t181 t182 t183 t184 t185 0 0 0 0 0 0) else ((redpencillaw09_of.f 1 2 1 2 0).bind fun bt211 => ((node_Dead.f bt211.1 bt211.2.1 bt211.2.2.1 bt211.2.2.2.1 bt211.2.2.2.2.1 bt211.2.2.2.2.2).bind fun t217 => (if t217 = true then ((node_Kill.f t174 t175 t176 t177 t178 t179).bind fun bt218 => (redpencillaw09_known.j0 k ((!(bt218.1 == t180) || (!(bt218.2.1 == t181))) || ((!(bt218.2.2.1 == t182) || (!(bt218.2.2.2.1 == t183))) || (!(bt218.2.2.2.2.1 == t184) || (!(bt218.2.2.2.2.2 == t185))))) t174 t175 t176 t177 t178 t179 t180 t181 t182 t183 t184 t185 0 0 0 0 0 0)) else (redpencillaw09_known.j0 k true t174 t175 t176 t177 t178 t179 t180 t181 t182 t183 t184 t185 0 0 0 0 0 0)))))) = some true := H
     have A30 := Aside0.mk A300
     clear A300
     replace H := Option.bind_eq_some_iff.mp H
     obtain ⟨t210, A310, H⟩ := H
     replace H : (if t210 = true then (redpencillaw09_known.j0 k true t174 t175 t176 t177 t178 t179 t180 t181 t182 t183 t184 t185 0 0 0 0 0 0) else ((redpencillaw09_of.f 1 2 1 2 0).bind fun bt211 => ((node_Dead.f bt211.1 bt211.2.1 bt211.2.2.1 bt211.2.2.2.1 bt211.2.2.2.2.1 bt211.2.2.2.2.2).bind fun t217 => (if t217 = true then ((node_Kill.f t174 t175 t176 t177 t178 t179).bind fun bt218 => (redpencillaw09_known.j0 k ((!(bt218.1 == t180) || (!(bt218.2.1 == t181))) || ((!(bt218.2.2.1 == t182) || (!(bt218.2.2.2.1 == t183))) || (!(bt218.2.2.2.2.1 == t184) || (!(bt218.2.2.2.2.2 == t185))))) t174 t175 t176 t177 t178 t179 t180 t181 t182 t183 t184 t185 0 0 0 0 0 0)) else (redpencillaw09_known.j0 k true t174 t175 t176 t177 t178 t179 t180 t181 t182 t183 t184 t185 0 0 0 0 0 0))))) = some true := H
     have A31 := Aside0.mk A310
     clear A310
     by_cases c32 : t210 = true
     ·
      subst c32
      have H1 : (redpencillaw09_known.j0 k true t174 t175 t176 t177 t178 t179 t180 t181 t182 t183 t184 t185 0 0 0 0 0 0) = some true := by rw [if_pos rfl] at H; exact H
      exact absurd H1 (redpencillaw09_known.j0_no _ _ _ _ _ _ _ _ _ _ _ _ _ _ _ _ _ _ _)
     ·
      replace c32 := Bool.eq_false_iff.mpr c32
      subst c32
      have H1 : ((redpencillaw09_of.f 1 2 1 2 0).bind fun bt211 => ((node_Dead.f bt211.1 bt211.2.1 bt211.2.2.1 bt211.2.2.2.1 bt211.2.2.2.2.1 bt211.2.2.2.2.2).bind fun t217 => (if t217 = true then ((node_Kill.f t174 t175 t176 t177 t178 t179).bind fun bt218 => (redpencillaw09_known.j0 k ((!(bt218.1 == t180) || (!(bt218.2.1 == t181))) || ((!(bt218.2.2.1 == t182) || (!(bt218.2.2.2.1 == t183))) || (!(bt218.2.2.2.2.1 == t184) || (!(bt218.2.2.2.2.2 == t185))))) t174 t175 t176 t177 t178 t179 t180 t181 t182 t183 t184 t185 0 0 0 0 0 0)) else (redpencillaw09_known.j0 k true t174 t175 t176 t177 t178 t179 t180 t181 t182 t183 t184 t185 0 0 0 0 0 0)))) = some true := by rw [if_neg (show ¬ (false = true) by decide)] at H; exact H
      clear H
      have H := H1
      clear H1
      replace H := Option.bind_eq_some_iff.mp H
      obtain ⟨⟨t211, t212, t213, t214, t215, t216⟩, A420, H⟩ := H
      replace H : ((node_Dead.f t211 t212 t213 t214 t215 t216).bind fun t217 => (if t217 = true then ((node_Kill.f t174 t175 t176 t177 t178 t179).bind fun bt218 => (redpencillaw09_known.j0 k ((!(bt218.1 == t180) || (!(bt218.2.1 == t181))) || ((!(bt218.2.2.1 == t182) || (!(bt218.2.2.2.1 == t183))) || (!(bt218.2.2.2.2.1 == t184) || (!(bt218.2.2.2.2.2 == t185))))) t174 t175 t176 t177 t178 t179 t180 t181 t182 t183 t184 t185 0 0 0 0 0 0)) else (redpencillaw09_known.j0 k true t174 t175 t176 t177 t178 t179 t180 t181 t182 t183 t184 t185 0 0 0 0 0 0))) = some true := H
      have A42 := Aside0.mk A420
      clear A420
      replace H := Option.bind_eq_some_iff.mp H
      obtain ⟨t217, A430, H⟩ := H
      replace H : (if t217 = true then ((node_Kill.f t174 t175 t176 t177 t178 t179).bind fun bt218 => (redpencillaw09_known.j0 k ((!(bt218.1 == t180) || (!(bt218.2.1 == t181))) || ((!(bt218.2.2.1 == t182) || (!(bt218.2.2.2.1 == t183))) || (!(bt218.2.2.2.2.1 == t184) || (!(bt218.2.2.2.2.2 == t185))))) t174 t175 t176 t177 t178 t179 t180 t181 t182 t183 t184 t185 0 0 0 0 0 0)) else (redpencillaw09_known.j0 k true t174 t175 t176 t177 t178 t179 t180 t181 t182 t183 t184 t185 0 0 0 0 0 0)) = some true := H
      have A43 := Aside0.mk A430
      clear A430
      by_cases c44 : t217 = true
      ·
       subst c44
       have H1 : ((node_Kill.f t174 t175 t176 t177 t178 t179).bind fun bt218 => (redpencillaw09_known.j0 k ((!(bt218.1 == t180) || (!(bt218.2.1 == t181))) || ((!(bt218.2.2.1 == t182) || (!(bt218.2.2.2.1 == t183))) || (!(bt218.2.2.2.2.1 == t184) || (!(bt218.2.2.2.2.2 == t185))))) t174 t175 t176 t177 t178 t179 t180 t181 t182 t183 t184 t185 0 0 0 0 0 0)) = some true := by rw [if_pos rfl] at H; exact H
       clear H
       have H := H1
       clear H1
       replace H := Option.bind_eq_some_iff.mp H
       obtain ⟨⟨t218, t219, t220, t221, t222, t223⟩, A450, H⟩ := H
       replace H : (redpencillaw09_known.j0 k ((!(t218 == t180) || (!(t219 == t181))) || ((!(t220 == t182) || (!(t221 == t183))) || (!(t222 == t184) || (!(t223 == t185))))) t174 t175 t176 t177 t178 t179 t180 t181 t182 t183 t184 t185 0 0 0 0 0 0) = some true := H
       have A45 := Aside0.mk A450
       clear A450
       have H' := Aside0.mk H
       clear H
       try go_wp2
       have n0_ : Aside0 (((((((((((((((((((w8.setCell ⟨gb186, 0, none⟩ (.int .i64 t174)).setCell ⟨gb186, 1, none⟩ (.int .i64 t175)).setCell ⟨gb186, 2, none⟩ (.int .i64 t176)).setCell ⟨gb186, 3, none⟩ (.int .i64 t177)).setCell ⟨gb186, 4, none⟩ (.int .i64 t178)).setCell ⟨gb186, 5, none⟩ (.int .i32 t179)).setCell ⟨gb187, 0, none⟩ (.int .i64 t180)).setCell ⟨gb187, 1, none⟩ (.int .i64 t181)).setCell ⟨gb187, 2, none⟩ (.int .i64 t182)).setCell ⟨gb187, 3, none⟩ (.int .i64 t183)).setCell ⟨gb187, 4, none⟩ (.int .i64 t184)).setCell ⟨gb187, 5, none⟩ (.int .i32 t185)).setCell ⟨gb188, 0, none⟩ (.int .i64 0)).setCell ⟨gb188, 1, none⟩ (.int .i64 0)).setCell ⟨gb188, 2, none⟩ (.int .i64 0)).setCell ⟨gb188, 3, none⟩ (.int .i64 0)).setCell ⟨gb188, 4, none⟩ (.int .i64 0)).setCell ⟨gb188, 5, none⟩ (.int .i32 0)).heap[gb186]? = some (.cells #[.int .i64 t174, .int .i64 t175, .int .i64 t176, .int .i64 t177, .int .i64 t178, .int .i32 t179] 25 (0, 0))) := ⟨by (with_reducible repeat (first | refine blk_drewN ?_ _ | refine blk_drew ?_ | refine blk_alloc ?_ _)); refine blk_far ?_ NB186_188.out _; (with_reducible repeat (first | refine blk_drewN ?_ _ | refine blk_drew ?_ | refine blk_alloc ?_ _)); refine blk_far ?_ NB186_188.out _; (with_reducible repeat (first | refine blk_drewN ?_ _ | refine blk_drew ?_ | refine blk_alloc ?_ _)); refine blk_far ?_ NB186_188.out _; (with_reducible repeat (first | refine blk_drewN ?_ _ | refine blk_drew ?_ | refine blk_alloc ?_ _)); refine blk_far ?_ NB186_188.out _; (with_reducible repeat (first | refine blk_drewN ?_ _ | refine blk_drew ?_ | refine blk_alloc ?_ _)); refine blk_far ?_ NB186_188.out _; (with_reducible repeat (first | refine blk_drewN ?_ _ | refine blk_drew ?_ | refine blk_alloc ?_ _)); refine blk_far ?_ NB186_188.out _; (with_reducible repeat (first | refine blk_drewN ?_ _ | refine blk_drew ?_ | refine blk_alloc ?_ _)); refine blk_far ?_ NB186_187.out _; (with_reducible repeat (first | refine blk_drewN ?_ _ | refine blk_drew ?_ | refine blk_alloc ?_ _)); refine blk_far ?_ NB186_187.out _; (with_reducible repeat (first | refine blk_drewN ?_ _ | refine blk_drew ?_ | refine blk_alloc ?_ _)); refine blk_far ?_ NB186_187.out _; (with_reducible repeat (first | refine blk_drewN ?_ _ | refine blk_drew ?_ | refine blk_alloc ?_ _)); refine blk_far ?_ NB186_187.out _; (with_reducible repeat (first | refine blk_drewN ?_ _ | refine blk_drew ?_ | refine blk_alloc ?_ _)); refine blk_far ?_ NB186_187.out _; (with_reducible repeat (first | refine blk_drewN ?_ _ | refine blk_drew ?_ | refine blk_alloc ?_ _)); refine blk_far ?_ NB186_187.out _; (with_reducible repeat (first | refine blk_drewN ?_ _ | refine blk_drew ?_ | refine blk_alloc ?_ _)); refine blk_put (cs := #[.int .i64 t174, .int .i64 t175, .int .i64 t176, .int .i64 t177, .int .i64 t178, .int .i32 0]) ?_ 5 _ rfl; (with_reducible repeat (first | refine blk_drewN ?_ _ | refine blk_drew ?_ | refine blk_alloc ?_ _)); refine blk_put (cs := #[.int .i64 t174, .int .i64 t175, .int .i64 t176, .int .i64 t177, .int .i64 0, .int .i32 0]) ?_ 4 _ rfl; (with_reducible repeat (first | refine blk_drewN ?_ _ | refine blk_drew ?_ | refine blk_alloc ?_ _)); refine blk_put (cs := #[.int .i64 t174, .int .i64 t175, .int .i64 t176, .int .i64 0, .int .i64 0, .int .i32 0]) ?_ 3 _ rfl; (with_reducible repeat (first | refine blk_drewN ?_ _ | refine blk_drew ?_ | refine blk_alloc ?_ _)); refine blk_put (cs := #[.int .i64 t174, .int .i64 t175, .int .i64 0, .int .i64 0, .int .i64 0, .int .i32 0]) ?_ 2 _ rfl; (with_reducible repeat (first | refine blk_drewN ?_ _ | refine blk_drew ?_ | refine blk_alloc ?_ _)); refine blk_put (cs := #[.int .i64 t174, .int .i64 0, .int .i64 0, .int .i64 0, .int .i64 0, .int .i32 0]) ?_ 1 _ rfl; (with_reducible repeat (first | refine blk_drewN ?_ _ | refine blk_drew ?_ | refine blk_alloc ?_ _)); refine blk_put (cs := #[.int .i64 0, .int .i64 0, .int .i64 0, .int .i64 0, .int .i64 0, .int .i32 0]) ?_ 0 _ rfl; (with_reducible repeat (first | refine blk_drewN ?_ _ | refine blk_drew ?_ | refine blk_alloc ?_ _)); exact BK186.out⟩
       have n1_ : Aside0 (((((((((((((((((((w8.setCell ⟨gb186, 0, none⟩ (.int .i64 t174)).setCell ⟨gb186, 1, none⟩ (.int .i64 t175)).setCell ⟨gb186, 2, none⟩ (.int .i64 t176)).setCell ⟨gb186, 3, none⟩ (.int .i64 t177)).setCell ⟨gb186, 4, none⟩ (.int .i64 t178)).setCell ⟨gb186, 5, none⟩ (.int .i32 t179)).setCell ⟨gb187, 0, none⟩ (.int .i64 t180)).setCell ⟨gb187, 1, none⟩ (.int .i64 t181)).setCell ⟨gb187, 2, none⟩ (.int .i64 t182)).setCell ⟨gb187, 3, none⟩ (.int .i64 t183)).setCell ⟨gb187, 4, none⟩ (.int .i64 t184)).setCell ⟨gb187, 5, none⟩ (.int .i32 t185)).setCell ⟨gb188, 0, none⟩ (.int .i64 0)).setCell ⟨gb188, 1, none⟩ (.int .i64 0)).setCell ⟨gb188, 2, none⟩ (.int .i64 0)).setCell ⟨gb188, 3, none⟩ (.int .i64 0)).setCell ⟨gb188, 4, none⟩ (.int .i64 0)).setCell ⟨gb188, 5, none⟩ (.int .i32 0)).heap[gb187]? = some (.cells #[.int .i64 t180, .int .i64 t181, .int .i64 t182, .int .i64 t183, .int .i64 t184, .int .i32 t185] 25 (0, 0))) := ⟨by (with_reducible repeat (first | refine blk_drewN ?_ _ | refine blk_drew ?_ | refine blk_alloc ?_ _)); refine blk_far ?_ NB187_188.out _; (with_reducible repeat (first | refine blk_drewN ?_ _ | refine blk_drew ?_ | refine blk_alloc ?_ _)); refine blk_far ?_ NB187_188.out _; (with_reducible repeat (first | refine blk_drewN ?_ _ | refine blk_drew ?_ | refine blk_alloc ?_ _)); refine blk_far ?_ NB187_188.out _; (with_reducible repeat (first | refine blk_drewN ?_ _ | refine blk_drew ?_ | refine blk_alloc ?_ _)); refine blk_far ?_ NB187_188.out _; (with_reducible repeat (first | refine blk_drewN ?_ _ | refine blk_drew ?_ | refine blk_alloc ?_ _)); refine blk_far ?_ NB187_188.out _; (with_reducible repeat (first | refine blk_drewN ?_ _ | refine blk_drew ?_ | refine blk_alloc ?_ _)); refine blk_far ?_ NB187_188.out _; (with_reducible repeat (first | refine blk_drewN ?_ _ | refine blk_drew ?_ | refine blk_alloc ?_ _)); refine blk_put (cs := #[.int .i64 t180, .int .i64 t181, .int .i64 t182, .int .i64 t183, .int .i64 t184, .int .i32 0]) ?_ 5 _ rfl; (with_reducible repeat (first | refine blk_drewN ?_ _ | refine blk_drew ?_ | refine blk_alloc ?_ _)); refine blk_put (cs := #[.int .i64 t180, .int .i64 t181, .int .i64 t182, .int .i64 t183, .int .i64 0, .int .i32 0]) ?_ 4 _ rfl; (with_reducible repeat (first | refine blk_drewN ?_ _ | refine blk_drew ?_ | refine blk_alloc ?_ _)); refine blk_put (cs := #[.int .i64 t180, .int .i64 t181, .int .i64 t182, .int .i64 0, .int .i64 0, .int .i32 0]) ?_ 3 _ rfl; (with_reducible repeat (first | refine blk_drewN ?_ _ | refine blk_drew ?_ | refine blk_alloc ?_ _)); refine blk_put (cs := #[.int .i64 t180, .int .i64 t181, .int .i64 0, .int .i64 0, .int .i64 0, .int .i32 0]) ?_ 2 _ rfl; (with_reducible repeat (first | refine blk_drewN ?_ _ | refine blk_drew ?_ | refine blk_alloc ?_ _)); refine blk_put (cs := #[.int .i64 t180, .int .i64 0, .int .i64 0, .int .i64 0, .int .i64 0, .int .i32 0]) ?_ 1 _ rfl; (with_reducible repeat (first | refine blk_drewN ?_ _ | refine blk_drew ?_ | refine blk_alloc ?_ _)); refine blk_put (cs := #[.int .i64 0, .int .i64 0, .int .i64 0, .int .i64 0, .int .i64 0, .int .i32 0]) ?_ 0 _ rfl; (with_reducible repeat (first | refine blk_drewN ?_ _ | refine blk_drew ?_ | refine blk_alloc ?_ _)); refine blk_far ?_ NB187_186.out _; (with_reducible repeat (first | refine blk_drewN ?_ _ | refine blk_drew ?_ | refine blk_alloc ?_ _)); refine blk_far ?_ NB187_186.out _; (with_reducible repeat (first | refine blk_drewN ?_ _ | refine blk_drew ?_ | refine blk_alloc ?_ _)); refine blk_far ?_ NB187_186.out _; (with_reducible repeat (first | refine blk_drewN ?_ _ | refine blk_drew ?_ | refine blk_alloc ?_ _)); refine blk_far ?_ NB187_186.out _; (with_reducible repeat (first | refine blk_drewN ?_ _ | refine blk_drew ?_ | refine blk_alloc ?_ _)); refine blk_far ?_ NB187_186.out _; (with_reducible repeat (first | refine blk_drewN ?_ _ | refine blk_drew ?_ | refine blk_alloc ?_ _)); refine blk_far ?_ NB187_186.out _; (with_reducible repeat (first | refine blk_drewN ?_ _ | refine blk_drew ?_ | refine blk_alloc ?_ _)); exact BK187.out⟩
       have n2_ : Aside0 (((((((((((((((((((w8.setCell ⟨gb186, 0, none⟩ (.int .i64 t174)).setCell ⟨gb186, 1, none⟩ (.int .i64 t175)).setCell ⟨gb186, 2, none⟩ (.int .i64 t176)).setCell ⟨gb186, 3, none⟩ (.int .i64 t177)).setCell ⟨gb186, 4, none⟩ (.int .i64 t178)).setCell ⟨gb186, 5, none⟩ (.int .i32 t179)).setCell ⟨gb187, 0, none⟩ (.int .i64 t180)).setCell ⟨gb187, 1, none⟩ (.int .i64 t181)).setCell ⟨gb187, 2, none⟩ (.int .i64 t182)).setCell ⟨gb187, 3, none⟩ (.int .i64 t183)).setCell ⟨gb187, 4, none⟩ (.int .i64 t184)).setCell ⟨gb187, 5, none⟩ (.int .i32 t185)).setCell ⟨gb188, 0, none⟩ (.int .i64 0)).setCell ⟨gb188, 1, none⟩ (.int .i64 0)).setCell ⟨gb188, 2, none⟩ (.int .i64 0)).setCell ⟨gb188, 3, none⟩ (.int .i64 0)).setCell ⟨gb188, 4, none⟩ (.int .i64 0)).setCell ⟨gb188, 5, none⟩ (.int .i32 0)).heap[gb188]? = some (.cells #[.int .i64 0, .int .i64 0, .int .i64 0, .int .i64 0, .int .i64 0, .int .i32 0] 25 (0, 0))) := ⟨by (with_reducible repeat (first | refine blk_drewN ?_ _ | refine blk_drew ?_ | refine blk_alloc ?_ _)); refine blk_put (cs := #[.int .i64 0, .int .i64 0, .int .i64 0, .int .i64 0, .int .i64 0, .int .i32 0]) ?_ 5 _ rfl; (with_reducible repeat (first | refine blk_drewN ?_ _ | refine blk_drew ?_ | refine blk_alloc ?_ _)); refine blk_put (cs := #[.int .i64 0, .int .i64 0, .int .i64 0, .int .i64 0, .int .i64 0, .int .i32 0]) ?_ 4 _ rfl; (with_reducible repeat (first | refine blk_drewN ?_ _ | refine blk_drew ?_ | refine blk_alloc ?_ _)); refine blk_put (cs := #[.int .i64 0, .int .i64 0, .int .i64 0, .int .i64 0, .int .i64 0, .int .i32 0]) ?_ 3 _ rfl; (with_reducible repeat (first | refine blk_drewN ?_ _ | refine blk_drew ?_ | refine blk_alloc ?_ _)); refine blk_put (cs := #[.int .i64 0, .int .i64 0, .int .i64 0, .int .i64 0, .int .i64 0, .int .i32 0]) ?_ 2 _ rfl; (with_reducible repeat (first | refine blk_drewN ?_ _ | refine blk_drew ?_ | refine blk_alloc ?_ _)); refine blk_put (cs := #[.int .i64 0, .int .i64 0, .int .i64 0, .int .i64 0, .int .i64 0, .int .i32 0]) ?_ 1 _ rfl; (with_reducible repeat (first | refine blk_drewN ?_ _ | refine blk_drew ?_ | refine blk_alloc ?_ _)); refine blk_put (cs := #[.int .i64 0, .int .i64 0, .int .i64 0, .int .i64 0, .int .i64 0, .int .i32 0]) ?_ 0 _ rfl; (with_reducible repeat (first | refine blk_drewN ?_ _ | refine blk_drew ?_ | refine blk_alloc ?_ _)); refine blk_far ?_ NB188_187.out _; (with_reducible repeat (first | refine blk_drewN ?_ _ | refine blk_drew ?_ | refine blk_alloc ?_ _)); refine blk_far ?_ NB188_187.out _; (with_reducible repeat (first | refine blk_drewN ?_ _ | refine blk_drew ?_ | refine blk_alloc ?_ _)); refine blk_far ?_ NB188_187.out _; (with_reducible repeat (first | refine blk_drewN ?_ _ | refine blk_drew ?_ | refine blk_alloc ?_ _)); refine blk_far ?_ NB188_187.out _; (with_reducible repeat (first | refine blk_drewN ?_ _ | refine blk_drew ?_ | refine blk_alloc ?_ _)); refine blk_far ?_ NB188_187.out _; (with_reducible repeat (first | refine blk_drewN ?_ _ | refine blk_drew ?_ | refine blk_alloc ?_ _)); refine blk_far ?_ NB188_187.out _; (with_reducible repeat (first | refine blk_drewN ?_ _ | refine blk_drew ?_ | refine blk_alloc ?_ _)); refine blk_far ?_ NB188_186.out _; (with_reducible repeat (first | refine blk_drewN ?_ _ | refine blk_drew ?_ | refine blk_alloc ?_ _)); refine blk_far ?_ NB188_186.out _; (with_reducible repeat (first | refine blk_drewN ?_ _ | refine blk_drew ?_ | refine blk_alloc ?_ _)); refine blk_far ?_ NB188_186.out _; (with_reducible repeat (first | refine blk_drewN ?_ _ | refine blk_drew ?_ | refine blk_alloc ?_ _)); refine blk_far ?_ NB188_186.out _; (with_reducible repeat (first | refine blk_drewN ?_ _ | refine blk_drew ?_ | refine blk_alloc ?_ _)); refine blk_far ?_ NB188_186.out _; (with_reducible repeat (first | refine blk_drewN ?_ _ | refine blk_drew ?_ | refine blk_alloc ?_ _)); refine blk_far ?_ NB188_186.out _; (with_reducible repeat (first | refine blk_drewN ?_ _ | refine blk_drew ?_ | refine blk_alloc ?_ _)); exact BK188.out⟩
       have n3_ : Aside0 (Below w.heap.size w ((((((((((((((((((w8.setCell ⟨gb186, 0, none⟩ (.int .i64 t174)).setCell ⟨gb186, 1, none⟩ (.int .i64 t175)).setCell ⟨gb186, 2, none⟩ (.int .i64 t176)).setCell ⟨gb186, 3, none⟩ (.int .i64 t177)).setCell ⟨gb186, 4, none⟩ (.int .i64 t178)).setCell ⟨gb186, 5, none⟩ (.int .i32 t179)).setCell ⟨gb187, 0, none⟩ (.int .i64 t180)).setCell ⟨gb187, 1, none⟩ (.int .i64 t181)).setCell ⟨gb187, 2, none⟩ (.int .i64 t182)).setCell ⟨gb187, 3, none⟩ (.int .i64 t183)).setCell ⟨gb187, 4, none⟩ (.int .i64 t184)).setCell ⟨gb187, 5, none⟩ (.int .i32 t185)).setCell ⟨gb188, 0, none⟩ (.int .i64 0)).setCell ⟨gb188, 1, none⟩ (.int .i64 0)).setCell ⟨gb188, 2, none⟩ (.int .i64 0)).setCell ⟨gb188, 3, none⟩ (.int .i64 0)).setCell ⟨gb188, 4, none⟩ (.int .i64 0)).setCell ⟨gb188, 5, none⟩ (.int .i32 0))) := ⟨by repeat (first | (with_reducible first | exact HB.out | apply below_alloc | apply pw_below_drewN | apply below_drew1 | refine below_set ?_ GE186.out | refine below_set ?_ GE187.out | refine below_set ?_ GE188.out) | exact HB.out)⟩
       (try clear BK186)
       (try clear BK187)
       (try clear BK188)
       (try clear HB)
       generalize ((((((((((((((((((w8.setCell ⟨gb186, 0, none⟩ (.int .i64 t174)).setCell ⟨gb186, 1, none⟩ (.int .i64 t175)).setCell ⟨gb186, 2, none⟩ (.int .i64 t176)).setCell ⟨gb186, 3, none⟩ (.int .i64 t177)).setCell ⟨gb186, 4, none⟩ (.int .i64 t178)).setCell ⟨gb186, 5, none⟩ (.int .i32 t179)).setCell ⟨gb187, 0, none⟩ (.int .i64 t180)).setCell ⟨gb187, 1, none⟩ (.int .i64 t181)).setCell ⟨gb187, 2, none⟩ (.int .i64 t182)).setCell ⟨gb187, 3, none⟩ (.int .i64 t183)).setCell ⟨gb187, 4, none⟩ (.int .i64 t184)).setCell ⟨gb187, 5, none⟩ (.int .i32 t185)).setCell ⟨gb188, 0, none⟩ (.int .i64 0)).setCell ⟨gb188, 1, none⟩ (.int .i64 0)).setCell ⟨gb188, 2, none⟩ (.int .i64 0)).setCell ⟨gb188, 3, none⟩ (.int .i64 0)).setCell ⟨gb188, 4, none⟩ (.int .i64 0)).setCell ⟨gb188, 5, none⟩ (.int .i32 0)) = w46 at n0_ n1_ n2_ n3_ ⊢
       have BK186 := n0_
       have BK187 := n1_
       have BK188 := n2_
       have HB := n3_
       clear n0_ n1_ n2_ n3_
       have n0_ := Aside0.mk (blk_drew BK186.out)
       have n1_ := Aside0.mk (blk_drew BK187.out)
       have n2_ := Aside0.mk (blk_drew BK188.out)
       have n3_ := Aside0.mk (below_drew1 HB.out)
       clear BK186
       clear BK187
       clear BK188
       clear HB
       have BK186 := n0_
       have BK187 := n1_
       have BK188 := n2_
       have HB := n3_
       clear n0_ n1_ n2_ n3_
       refine start_ (n := 27) (S := fun w' => w'.cell? ⟨gb186, 0, none⟩ = some (.int .i64 t174) ∧ w'.cell? ⟨gb186, 1, none⟩ = some (.int .i64 t175) ∧ w'.cell? ⟨gb186, 2, none⟩ = some (.int .i64 t176) ∧ w'.cell? ⟨gb186, 3, none⟩ = some (.int .i64 t177) ∧ w'.cell? ⟨gb186, 4, none⟩ = some (.int .i64 t178) ∧ w'.cell? ⟨gb186, 5, none⟩ = some (.int .i32 t179) ∧ w'.cell? ⟨gb187, 0, none⟩ = some (.int .i64 t180) ∧ w'.cell? ⟨gb187, 1, none⟩ = some (.int .i64 t181) ∧ w'.cell? ⟨gb187, 2, none⟩ = some (.int .i64 t182) ∧ w'.cell? ⟨gb187, 3, none⟩ = some (.int .i64 t183) ∧ w'.cell? ⟨gb187, 4, none⟩ = some (.int .i64 t184) ∧ w'.cell? ⟨gb187, 5, none⟩ = some (.int .i32 t185)) (ds := []) #[false, false, false, false, false, false, false, false, false, false, false, false, false, false, false, false, false, false, false, false, false, false, false, false, false, false, false] (by kernel_rfl) rfl rfl ⟨(blk_cell BK186.out 0).trans rfl, (blk_cell BK186.out 1).trans rfl, (blk_cell BK186.out 2).trans rfl, (blk_cell BK186.out 3).trans rfl, (blk_cell BK186.out 4).trans rfl, (blk_cell BK186.out 5).trans rfl, (blk_cell BK187.out 0).trans rfl, (blk_cell BK187.out 1).trans rfl, (blk_cell BK187.out 2).trans rfl, (blk_cell BK187.out 3).trans rfl, (blk_cell BK187.out 4).trans rfl, (blk_cell BK187.out 5).trans rfl⟩ (fun hHeld => ?_); refine with_tabW redpencillaw09_known.tab2 redpencillaw09_known.bits2 (fun HT_ HW_ => ?_)
       generalize w46.drew = w47 at BK186 BK187 BK188 HB hHeld ⊢
       refine take_ (i := 0) (N := some 7) (v := ?_) (a' := ?_) #[true, false, false, false, false, false, false, false, false, false, false, false, false, false, false, false, false, false, false, false, false, false, false, false, false, false, false] rfl rfl (take_ofW HT_.out HW_.out (by kernel_rfl)) (fun _ _ _ h => h) (Or.inl ⟨by rfl, ?_⟩) hHeld ?_ ?_
       rotate_left
       ·
        rintro w' ⟨s0, s1, s2, s3, s4, s5, s6, s7, s8, s9, s10, s11⟩
        go_simp
        with_reducible rfl
       rotate_left
       ·
        simp only [Act.put, List.setIfInBounds_toArray, List.set_cons_zero, List.set_cons_succ, i64_w, i32_w]
        rfl
       refine one_ (i := 1) (N := some 8) #[true, true, false, false, false, false, false, false, false, false, false, false, false, false, false, false, false, false, false, false, false, false, false, false, false, false, false] rfl rfl (one_of HT_.out (by kernel_rfl)) (by decide) (fun K hK => ?_)
       refine goes_ Tryz.func16 (by kernel_rfl) rfl #[.agg #[.int .i64 t174, .int .i64 t175, .int .i64 t176, .int .i64 t177, .int .i64 t178, .int .i32 t179]] (by rfl) rfl rfl (by (try simp only [List.map_toArray, List.map_cons, List.map_nil]); first | done | rfl | (simp only [List.length_drop, List.length_take]; rfl)) ?_
       with_reducible refine (node_Valid.calls k t174 t175 t176 t177 t178 t179 true _ A15.out).mono ?_
       rintro e w48 ⟨rfl, hb⟩
       refine ⟨_, rfl, ?_⟩
       have n0_ := Aside0.mk (blk_below (g := gb186) (o := .cells #[.int .i64 t174, .int .i64 t175, .int .i64 t176, .int .i64 t177, .int .i64 t178, .int .i32 t179] 25 (0, 0)) (by (with_reducible repeat (first | refine blk_drewN ?_ _ | refine blk_drew ?_ | refine blk_alloc ?_ _)); exact BK186.out) hb)
       have n1_ := Aside0.mk (blk_below (g := gb187) (o := .cells #[.int .i64 t180, .int .i64 t181, .int .i64 t182, .int .i64 t183, .int .i64 t184, .int .i32 t185] 25 (0, 0)) (by (with_reducible repeat (first | refine blk_drewN ?_ _ | refine blk_drew ?_ | refine blk_alloc ?_ _)); exact BK187.out) hb)
       have n2_ := Aside0.mk (blk_below (g := gb188) (o := .cells #[.int .i64 0, .int .i64 0, .int .i64 0, .int .i64 0, .int .i64 0, .int .i32 0] 25 (0, 0)) (by (with_reducible repeat (first | refine blk_drewN ?_ _ | refine blk_drew ?_ | refine blk_alloc ?_ _)); exact BK188.out) hb)
       have n3_ := Aside0.mk (below_step (by repeat (first | (with_reducible first | exact HB.out | apply below_alloc | apply pw_below_drewN | apply below_drew1 | refine below_set ?_ GE186.out | refine below_set ?_ GE187.out | refine below_set ?_ GE188.out) | exact HB.out)) hb)
       clear BK186
       clear BK187
       clear BK188
       clear HB
       have BK186 := n0_
       have BK187 := n1_
       have BK188 := n2_
       have HB := n3_
       clear n0_ n1_ n2_ n3_
       (try clear hb)
       (try clear hb2)
       (try clear hk)
       (try clear hi)
       refine hK.out _ _ ⟨(blk_cell BK186.out 0).trans rfl, (blk_cell BK186.out 1).trans rfl, (blk_cell BK186.out 2).trans rfl, (blk_cell BK186.out 3).trans rfl, (blk_cell BK186.out 4).trans rfl, (blk_cell BK186.out 5).trans rfl, (blk_cell BK187.out 0).trans rfl, (blk_cell BK187.out 1).trans rfl, (blk_cell BK187.out 2).trans rfl, (blk_cell BK187.out 3).trans rfl, (blk_cell BK187.out 4).trans rfl, (blk_cell BK187.out 5).trans rfl⟩ (fun hHeld => ?_)
       clear hK K
       refine norm_ (a' := ?_) ?_ ?_
       rotate_left
       ·
        show Act.put _ (some 8) _ = _
        simp only [Act.put, List.setIfInBounds_toArray, List.set_cons_zero, List.set_cons_succ, i64_w, i32_w]
        rfl
       refine pure_ (i := 2) (N := some 9) (v := ?_) (a' := ?_) #[true, true, true, false, false, false, false, false, false, false, false, false, false, false, false, false, false, false, false, false, false, false, false, false, false, false, false] rfl rfl (any_of HT_.out (by kernel_rfl)) (fun _ _ _ h => h) (Or.inl ⟨by rfl, ?_⟩) ?_ ?_
       rotate_left
       ·
        intro w'
        go_simp
        with_reducible rfl
       rotate_left
       ·
        simp only [Act.put, List.setIfInBounds_toArray, List.set_cons_zero, List.set_cons_succ, i64_w, i32_w]
        rfl
       refine pure_ (i := 3) (N := some 10) (v := ?_) (a' := ?_) #[true, true, true, true, false, false, false, false, false, false, false, false, false, false, false, false, false, false, false, false, false, false, false, false, false, false, false] rfl rfl (any_of HT_.out (by kernel_rfl)) (fun _ _ _ h => h) (Or.inl ⟨by rfl, ?_⟩) ?_ ?_
       rotate_left
       ·
        intro w'
        go_simp
        with_reducible rfl
       rotate_left
       ·
        simp only [Act.put, List.setIfInBounds_toArray, List.set_cons_zero, List.set_cons_succ, i64_w, i32_w]
        rfl
       refine one_ (i := 4) (N := some 11) #[true, true, true, true, true, false, false, false, false, false, false, false, false, false, false, false, false, false, false, false, false, false, false, false, false, false, false] rfl rfl (one_of HT_.out (by kernel_rfl)) (by decide) (fun K hK => ?_)
       refine goes_ Tryz.func24 (by kernel_rfl) rfl #[.int .i64 1, .int .i64 2, .int .i64 1, .int .i64 2, .int .i32 0] (by rfl) rfl rfl (by (try simp only [List.map_toArray, List.map_cons, List.map_nil]); first | done | rfl | (simp only [List.length_drop, List.length_take]; rfl)) ?_
       with_reducible refine (redpencillaw09_of.calls 1 2 1 2 0 t190 t191 t192 t193 t194 t195 _ A17.out).mono ?_
       rintro e w49 ⟨rfl, hb⟩
       refine ⟨_, rfl, ?_⟩
       have n0_ := Aside0.mk (blk_below (g := gb186) (o := .cells #[.int .i64 t174, .int .i64 t175, .int .i64 t176, .int .i64 t177, .int .i64 t178, .int .i32 t179] 25 (0, 0)) (by (with_reducible repeat (first | refine blk_drewN ?_ _ | refine blk_drew ?_ | refine blk_alloc ?_ _)); exact BK186.out) hb)
       have n1_ := Aside0.mk (blk_below (g := gb187) (o := .cells #[.int .i64 t180, .int .i64 t181, .int .i64 t182, .int .i64 t183, .int .i64 t184, .int .i32 t185] 25 (0, 0)) (by (with_reducible repeat (first | refine blk_drewN ?_ _ | refine blk_drew ?_ | refine blk_alloc ?_ _)); exact BK187.out) hb)
       have n2_ := Aside0.mk (blk_below (g := gb188) (o := .cells #[.int .i64 0, .int .i64 0, .int .i64 0, .int .i64 0, .int .i64 0, .int .i32 0] 25 (0, 0)) (by (with_reducible repeat (first | refine blk_drewN ?_ _ | refine blk_drew ?_ | refine blk_alloc ?_ _)); exact BK188.out) hb)
       have n3_ := Aside0.mk (below_step (by repeat (first | (with_reducible first | exact HB.out | apply below_alloc | apply pw_below_drewN | apply below_drew1 | refine below_set ?_ GE186.out | refine below_set ?_ GE187.out | refine below_set ?_ GE188.out) | exact HB.out)) hb)
       clear BK186
       clear BK187
       clear BK188
       clear HB
       have BK186 := n0_
       have BK187 := n1_
       have BK188 := n2_
       have HB := n3_
       clear n0_ n1_ n2_ n3_
       (try clear hb)
       (try clear hb2)
       (try clear hk)
       (try clear hi)
       refine hK.out _ _ ⟨(blk_cell BK186.out 0).trans rfl, (blk_cell BK186.out 1).trans rfl, (blk_cell BK186.out 2).trans rfl, (blk_cell BK186.out 3).trans rfl, (blk_cell BK186.out 4).trans rfl, (blk_cell BK186.out 5).trans rfl, (blk_cell BK187.out 0).trans rfl, (blk_cell BK187.out 1).trans rfl, (blk_cell BK187.out 2).trans rfl, (blk_cell BK187.out 3).trans rfl, (blk_cell BK187.out 4).trans rfl, (blk_cell BK187.out 5).trans rfl⟩ (fun hHeld => ?_)
       clear hK K
       refine norm_ (a' := ?_) ?_ ?_
       rotate_left
       ·
        show Act.put _ (some 11) _ = _
        simp only [Act.put, List.setIfInBounds_toArray, List.set_cons_zero, List.set_cons_succ, i64_w, i32_w]
        rfl
       refine one_ (i := 5) (N := some 12) #[true, true, true, true, true, true, false, false, false, false, false, false, false, false, false, false, false, false, false, false, false, false, false, false, false, false, false] rfl rfl (one_of HT_.out (by kernel_rfl)) (by decide) (fun K hK => ?_)
       refine goes_ Tryz.func16 (by kernel_rfl) rfl #[.agg #[.int .i64 t190, .int .i64 t191, .int .i64 t192, .int .i64 t193, .int .i64 t194, .int .i32 t195]] (by rfl) rfl rfl (by (try simp only [List.map_toArray, List.map_cons, List.map_nil]); first | done | rfl | (simp only [List.length_drop, List.length_take]; rfl)) ?_
       with_reducible refine (node_Valid.calls k t190 t191 t192 t193 t194 t195 true _ A18.out).mono ?_
       rintro e w50 ⟨rfl, hb⟩
       refine ⟨_, rfl, ?_⟩
       have n0_ := Aside0.mk (blk_below (g := gb186) (o := .cells #[.int .i64 t174, .int .i64 t175, .int .i64 t176, .int .i64 t177, .int .i64 t178, .int .i32 t179] 25 (0, 0)) (by (with_reducible repeat (first | refine blk_drewN ?_ _ | refine blk_drew ?_ | refine blk_alloc ?_ _)); exact BK186.out) hb)
       have n1_ := Aside0.mk (blk_below (g := gb187) (o := .cells #[.int .i64 t180, .int .i64 t181, .int .i64 t182, .int .i64 t183, .int .i64 t184, .int .i32 t185] 25 (0, 0)) (by (with_reducible repeat (first | refine blk_drewN ?_ _ | refine blk_drew ?_ | refine blk_alloc ?_ _)); exact BK187.out) hb)
       have n2_ := Aside0.mk (blk_below (g := gb188) (o := .cells #[.int .i64 0, .int .i64 0, .int .i64 0, .int .i64 0, .int .i64 0, .int .i32 0] 25 (0, 0)) (by (with_reducible repeat (first | refine blk_drewN ?_ _ | refine blk_drew ?_ | refine blk_alloc ?_ _)); exact BK188.out) hb)
       have n3_ := Aside0.mk (below_step (by repeat (first | (with_reducible first | exact HB.out | apply below_alloc | apply pw_below_drewN | apply below_drew1 | refine below_set ?_ GE186.out | refine below_set ?_ GE187.out | refine below_set ?_ GE188.out) | exact HB.out)) hb)
       clear BK186
       clear BK187
       clear BK188
       clear HB
       have BK186 := n0_
       have BK187 := n1_
       have BK188 := n2_
       have HB := n3_
       clear n0_ n1_ n2_ n3_
       (try clear hb)
       (try clear hb2)
       (try clear hk)
       (try clear hi)
       refine hK.out _ _ ⟨(blk_cell BK186.out 0).trans rfl, (blk_cell BK186.out 1).trans rfl, (blk_cell BK186.out 2).trans rfl, (blk_cell BK186.out 3).trans rfl, (blk_cell BK186.out 4).trans rfl, (blk_cell BK186.out 5).trans rfl, (blk_cell BK187.out 0).trans rfl, (blk_cell BK187.out 1).trans rfl, (blk_cell BK187.out 2).trans rfl, (blk_cell BK187.out 3).trans rfl, (blk_cell BK187.out 4).trans rfl, (blk_cell BK187.out 5).trans rfl⟩ (fun hHeld => ?_)
       clear hK K
       refine norm_ (a' := ?_) ?_ ?_
       rotate_left
       ·
        show Act.put _ (some 12) _ = _
        simp only [Act.put, List.setIfInBounds_toArray, List.set_cons_zero, List.set_cons_succ, i64_w, i32_w]
        rfl
       refine pure_ (i := 6) (N := some 13) (v := ?_) (a' := ?_) #[true, true, true, true, true, true, true, false, false, false, false, false, false, false, false, false, false, false, false, false, false, false, false, false, false, false, false] rfl rfl (any_of HT_.out (by kernel_rfl)) (fun _ _ _ h => h) (Or.inl ⟨by rfl, ?_⟩) ?_ ?_
       rotate_left
       ·
        intro w'
        go_simp
        with_reducible rfl
       rotate_left
       ·
        simp only [Act.put, List.setIfInBounds_toArray, List.set_cons_zero, List.set_cons_succ, i64_w, i32_w]
        rfl
       refine pure_ (i := 7) (N := some 14) (v := ?_) (a' := ?_) #[true, true, true, true, true, true, true, true, false, false, false, false, false, false, false, false, false, false, false, false, false, false, false, false, false, false, false] rfl rfl (any_of HT_.out (by kernel_rfl)) (fun _ _ _ h => h) (Or.inl ⟨by rfl, ?_⟩) ?_ ?_
       rotate_left
       ·
        intro w'
        go_simp
        with_reducible rfl
       rotate_left
       ·
        simp only [Act.put, List.setIfInBounds_toArray, List.set_cons_zero, List.set_cons_succ, i64_w, i32_w]
        rfl
       refine pure_ (i := 8) (N := some 15) (v := ?_) (a' := ?_) #[true, true, true, true, true, true, true, true, true, false, false, false, false, false, false, false, false, false, false, false, false, false, false, false, false, false, false] rfl rfl (any_of HT_.out (by kernel_rfl)) (fun _ _ _ h => h) (Or.inl ⟨by rfl, ?_⟩) ?_ ?_
       rotate_left
       ·
        intro w'
        go_simp
        with_reducible rfl
       rotate_left
       ·
        simp only [Act.put, List.setIfInBounds_toArray, List.set_cons_zero, List.set_cons_succ, i64_w, i32_w]
        rfl
       refine one_ (i := 9) (N := some 16) #[true, true, true, true, true, true, true, true, true, true, false, false, false, false, false, false, false, false, false, false, false, false, false, false, false, false, false] rfl rfl (one_of HT_.out (by kernel_rfl)) (by decide) (fun K hK => ?_)
       refine goes_ Tryz.func24 (by kernel_rfl) rfl #[.int .i64 1, .int .i64 1, .int .i64 1, .int .i64 2, .int .i32 0] (by rfl) rfl rfl (by (try simp only [List.map_toArray, List.map_cons, List.map_nil]); first | done | rfl | (simp only [List.length_drop, List.length_take]; rfl)) ?_
       with_reducible refine (redpencillaw09_of.calls 1 1 1 2 0 t197 t198 t199 t200 t201 t202 _ A20.out).mono ?_
       rintro e w51 ⟨rfl, hb⟩
       refine ⟨_, rfl, ?_⟩
       have n0_ := Aside0.mk (blk_below (g := gb186) (o := .cells #[.int .i64 t174, .int .i64 t175, .int .i64 t176, .int .i64 t177, .int .i64 t178, .int .i32 t179] 25 (0, 0)) (by (with_reducible repeat (first | refine blk_drewN ?_ _ | refine blk_drew ?_ | refine blk_alloc ?_ _)); exact BK186.out) hb)
       have n1_ := Aside0.mk (blk_below (g := gb187) (o := .cells #[.int .i64 t180, .int .i64 t181, .int .i64 t182, .int .i64 t183, .int .i64 t184, .int .i32 t185] 25 (0, 0)) (by (with_reducible repeat (first | refine blk_drewN ?_ _ | refine blk_drew ?_ | refine blk_alloc ?_ _)); exact BK187.out) hb)
       have n2_ := Aside0.mk (blk_below (g := gb188) (o := .cells #[.int .i64 0, .int .i64 0, .int .i64 0, .int .i64 0, .int .i64 0, .int .i32 0] 25 (0, 0)) (by (with_reducible repeat (first | refine blk_drewN ?_ _ | refine blk_drew ?_ | refine blk_alloc ?_ _)); exact BK188.out) hb)
       have n3_ := Aside0.mk (below_step (by repeat (first | (with_reducible first | exact HB.out | apply below_alloc | apply pw_below_drewN | apply below_drew1 | refine below_set ?_ GE186.out | refine below_set ?_ GE187.out | refine below_set ?_ GE188.out) | exact HB.out)) hb)
       clear BK186
       clear BK187
       clear BK188
       clear HB
       have BK186 := n0_
       have BK187 := n1_
       have BK188 := n2_
       have HB := n3_
       clear n0_ n1_ n2_ n3_
       (try clear hb)
       (try clear hb2)
       (try clear hk)
       (try clear hi)
       refine hK.out _ _ ⟨(blk_cell BK186.out 0).trans rfl, (blk_cell BK186.out 1).trans rfl, (blk_cell BK186.out 2).trans rfl, (blk_cell BK186.out 3).trans rfl, (blk_cell BK186.out 4).trans rfl, (blk_cell BK186.out 5).trans rfl, (blk_cell BK187.out 0).trans rfl, (blk_cell BK187.out 1).trans rfl, (blk_cell BK187.out 2).trans rfl, (blk_cell BK187.out 3).trans rfl, (blk_cell BK187.out 4).trans rfl, (blk_cell BK187.out 5).trans rfl⟩ (fun hHeld => ?_)
       clear hK K
       refine norm_ (a' := ?_) ?_ ?_
       rotate_left
       ·
        show Act.put _ (some 16) _ = _
        simp only [Act.put, List.setIfInBounds_toArray, List.set_cons_zero, List.set_cons_succ, i64_w, i32_w]
        rfl
       refine one_ (i := 10) (N := some 17) #[true, true, true, true, true, true, true, true, true, true, true, false, false, false, false, false, false, false, false, false, false, false, false, false, false, false, false] rfl rfl (one_of HT_.out (by kernel_rfl)) (by decide) (fun K hK => ?_)
       refine goes_ Tryz.func16 (by kernel_rfl) rfl #[.agg #[.int .i64 t197, .int .i64 t198, .int .i64 t199, .int .i64 t200, .int .i64 t201, .int .i32 t202]] (by rfl) rfl rfl (by (try simp only [List.map_toArray, List.map_cons, List.map_nil]); first | done | rfl | (simp only [List.length_drop, List.length_take]; rfl)) ?_
       with_reducible refine (node_Valid.calls k t197 t198 t199 t200 t201 t202 false _ A21.out).mono ?_
       rintro e w52 ⟨rfl, hb⟩
       refine ⟨_, rfl, ?_⟩
       have n0_ := Aside0.mk (blk_below (g := gb186) (o := .cells #[.int .i64 t174, .int .i64 t175, .int .i64 t176, .int .i64 t177, .int .i64 t178, .int .i32 t179] 25 (0, 0)) (by (with_reducible repeat (first | refine blk_drewN ?_ _ | refine blk_drew ?_ | refine blk_alloc ?_ _)); exact BK186.out) hb)
       have n1_ := Aside0.mk (blk_below (g := gb187) (o := .cells #[.int .i64 t180, .int .i64 t181, .int .i64 t182, .int .i64 t183, .int .i64 t184, .int .i32 t185] 25 (0, 0)) (by (with_reducible repeat (first | refine blk_drewN ?_ _ | refine blk_drew ?_ | refine blk_alloc ?_ _)); exact BK187.out) hb)
       have n2_ := Aside0.mk (blk_below (g := gb188) (o := .cells #[.int .i64 0, .int .i64 0, .int .i64 0, .int .i64 0, .int .i64 0, .int .i32 0] 25 (0, 0)) (by (with_reducible repeat (first | refine blk_drewN ?_ _ | refine blk_drew ?_ | refine blk_alloc ?_ _)); exact BK188.out) hb)
       have n3_ := Aside0.mk (below_step (by repeat (first | (with_reducible first | exact HB.out | apply below_alloc | apply pw_below_drewN | apply below_drew1 | refine below_set ?_ GE186.out | refine below_set ?_ GE187.out | refine below_set ?_ GE188.out) | exact HB.out)) hb)
       clear BK186
       clear BK187
       clear BK188
       clear HB
       have BK186 := n0_
       have BK187 := n1_
       have BK188 := n2_
       have HB := n3_
       clear n0_ n1_ n2_ n3_
       (try clear hb)
       (try clear hb2)
       (try clear hk)
       (try clear hi)
       refine hK.out _ _ ⟨(blk_cell BK186.out 0).trans rfl, (blk_cell BK186.out 1).trans rfl, (blk_cell BK186.out 2).trans rfl, (blk_cell BK186.out 3).trans rfl, (blk_cell BK186.out 4).trans rfl, (blk_cell BK186.out 5).trans rfl, (blk_cell BK187.out 0).trans rfl, (blk_cell BK187.out 1).trans rfl, (blk_cell BK187.out 2).trans rfl, (blk_cell BK187.out 3).trans rfl, (blk_cell BK187.out 4).trans rfl, (blk_cell BK187.out 5).trans rfl⟩ (fun hHeld => ?_)
       clear hK K
       refine norm_ (a' := ?_) ?_ ?_
       rotate_left
       ·
        show Act.put _ (some 17) _ = _
        simp only [Act.put, List.setIfInBounds_toArray, List.set_cons_zero, List.set_cons_succ, i64_w, i32_w]
        rfl
       refine pure_ (i := 11) (N := some 18) (v := ?_) (a' := ?_) #[true, true, true, true, true, true, true, true, true, true, true, true, false, false, false, false, false, false, false, false, false, false, false, false, false, false, false] rfl rfl (any_of HT_.out (by kernel_rfl)) (fun _ _ _ h => h) (Or.inl ⟨by rfl, ?_⟩) ?_ ?_
       rotate_left
       ·
        intro w'
        go_simp
        with_reducible rfl
       rotate_left
       ·
        simp only [Act.put, List.setIfInBounds_toArray, List.set_cons_zero, List.set_cons_succ, i64_w, i32_w]
        rfl
       refine pure_ (i := 12) (N := some 19) (v := ?_) (a' := ?_) #[true, true, true, true, true, true, true, true, true, true, true, true, true, false, false, false, false, false, false, false, false, false, false, false, false, false, false] rfl rfl (any_of HT_.out (by kernel_rfl)) (fun _ _ _ h => h) (Or.inl ⟨by rfl, ?_⟩) ?_ ?_
       rotate_left
       ·
        intro w'
        go_simp
        with_reducible rfl
       rotate_left
       ·
        simp only [Act.put, List.setIfInBounds_toArray, List.set_cons_zero, List.set_cons_succ, i64_w, i32_w]
        rfl
       refine one_ (i := 13) (N := some 20) #[true, true, true, true, true, true, true, true, true, true, true, true, true, true, false, false, false, false, false, false, false, false, false, false, false, false, false] rfl rfl (one_of HT_.out (by kernel_rfl)) (by decide) (fun K hK => ?_)
       refine goes_ Tryz.func24 (by kernel_rfl) rfl #[.int .i64 1, .int .i64 1, .int .i64 0, .int .i64 0, .int .i32 0] (by rfl) rfl rfl (by (try simp only [List.map_toArray, List.map_cons, List.map_nil]); first | done | rfl | (simp only [List.length_drop, List.length_take]; rfl)) ?_
       with_reducible refine (redpencillaw09_of.calls 1 1 0 0 0 t204 t205 t206 t207 t208 t209 _ A30.out).mono ?_
       rintro e w53 ⟨rfl, hb⟩
       refine ⟨_, rfl, ?_⟩
       have n0_ := Aside0.mk (blk_below (g := gb186) (o := .cells #[.int .i64 t174, .int .i64 t175, .int .i64 t176, .int .i64 t177, .int .i64 t178, .int .i32 t179] 25 (0, 0)) (by (with_reducible repeat (first | refine blk_drewN ?_ _ | refine blk_drew ?_ | refine blk_alloc ?_ _)); exact BK186.out) hb)
       have n1_ := Aside0.mk (blk_below (g := gb187) (o := .cells #[.int .i64 t180, .int .i64 t181, .int .i64 t182, .int .i64 t183, .int .i64 t184, .int .i32 t185] 25 (0, 0)) (by (with_reducible repeat (first | refine blk_drewN ?_ _ | refine blk_drew ?_ | refine blk_alloc ?_ _)); exact BK187.out) hb)
       have n2_ := Aside0.mk (blk_below (g := gb188) (o := .cells #[.int .i64 0, .int .i64 0, .int .i64 0, .int .i64 0, .int .i64 0, .int .i32 0] 25 (0, 0)) (by (with_reducible repeat (first | refine blk_drewN ?_ _ | refine blk_drew ?_ | refine blk_alloc ?_ _)); exact BK188.out) hb)
       have n3_ := Aside0.mk (below_step (by repeat (first | (with_reducible first | exact HB.out | apply below_alloc | apply pw_below_drewN | apply below_drew1 | refine below_set ?_ GE186.out | refine below_set ?_ GE187.out | refine below_set ?_ GE188.out) | exact HB.out)) hb)
       clear BK186
       clear BK187
       clear BK188
       clear HB
       have BK186 := n0_
       have BK187 := n1_
       have BK188 := n2_
       have HB := n3_
       clear n0_ n1_ n2_ n3_
       (try clear hb)
       (try clear hb2)
       (try clear hk)
       (try clear hi)
       refine hK.out _ _ ⟨(blk_cell BK186.out 0).trans rfl, (blk_cell BK186.out 1).trans rfl, (blk_cell BK186.out 2).trans rfl, (blk_cell BK186.out 3).trans rfl, (blk_cell BK186.out 4).trans rfl, (blk_cell BK186.out 5).trans rfl, (blk_cell BK187.out 0).trans rfl, (blk_cell BK187.out 1).trans rfl, (blk_cell BK187.out 2).trans rfl, (blk_cell BK187.out 3).trans rfl, (blk_cell BK187.out 4).trans rfl, (blk_cell BK187.out 5).trans rfl⟩ (fun hHeld => ?_)
       clear hK K
       refine norm_ (a' := ?_) ?_ ?_
       rotate_left
       ·
        show Act.put _ (some 20) _ = _
        simp only [Act.put, List.setIfInBounds_toArray, List.set_cons_zero, List.set_cons_succ, i64_w, i32_w]
        rfl
       refine one_ (i := 14) (N := some 21) #[true, true, true, true, true, true, true, true, true, true, true, true, true, true, true, false, false, false, false, false, false, false, false, false, false, false, false] rfl rfl (one_of HT_.out (by kernel_rfl)) (by decide) (fun K hK => ?_)
       refine goes_ Tryz.func16 (by kernel_rfl) rfl #[.agg #[.int .i64 t204, .int .i64 t205, .int .i64 t206, .int .i64 t207, .int .i64 t208, .int .i32 t209]] (by rfl) rfl rfl (by (try simp only [List.map_toArray, List.map_cons, List.map_nil]); first | done | rfl | (simp only [List.length_drop, List.length_take]; rfl)) ?_
       with_reducible refine (node_Valid.calls k t204 t205 t206 t207 t208 t209 false _ A31.out).mono ?_
       rintro e w54 ⟨rfl, hb⟩
       refine ⟨_, rfl, ?_⟩
       have n0_ := Aside0.mk (blk_below (g := gb186) (o := .cells #[.int .i64 t174, .int .i64 t175, .int .i64 t176, .int .i64 t177, .int .i64 t178, .int .i32 t179] 25 (0, 0)) (by (with_reducible repeat (first | refine blk_drewN ?_ _ | refine blk_drew ?_ | refine blk_alloc ?_ _)); exact BK186.out) hb)
       have n1_ := Aside0.mk (blk_below (g := gb187) (o := .cells #[.int .i64 t180, .int .i64 t181, .int .i64 t182, .int .i64 t183, .int .i64 t184, .int .i32 t185] 25 (0, 0)) (by (with_reducible repeat (first | refine blk_drewN ?_ _ | refine blk_drew ?_ | refine blk_alloc ?_ _)); exact BK187.out) hb)
       have n2_ := Aside0.mk (blk_below (g := gb188) (o := .cells #[.int .i64 0, .int .i64 0, .int .i64 0, .int .i64 0, .int .i64 0, .int .i32 0] 25 (0, 0)) (by (with_reducible repeat (first | refine blk_drewN ?_ _ | refine blk_drew ?_ | refine blk_alloc ?_ _)); exact BK188.out) hb)
       have n3_ := Aside0.mk (below_step (by repeat (first | (with_reducible first | exact HB.out | apply below_alloc | apply pw_below_drewN | apply below_drew1 | refine below_set ?_ GE186.out | refine below_set ?_ GE187.out | refine below_set ?_ GE188.out) | exact HB.out)) hb)
       clear BK186
       clear BK187
       clear BK188
       clear HB
       have BK186 := n0_
       have BK187 := n1_
       have BK188 := n2_
       have HB := n3_
       clear n0_ n1_ n2_ n3_
       (try clear hb)
       (try clear hb2)
       (try clear hk)
       (try clear hi)
       refine hK.out _ _ ⟨(blk_cell BK186.out 0).trans rfl, (blk_cell BK186.out 1).trans rfl, (blk_cell BK186.out 2).trans rfl, (blk_cell BK186.out 3).trans rfl, (blk_cell BK186.out 4).trans rfl, (blk_cell BK186.out 5).trans rfl, (blk_cell BK187.out 0).trans rfl, (blk_cell BK187.out 1).trans rfl, (blk_cell BK187.out 2).trans rfl, (blk_cell BK187.out 3).trans rfl, (blk_cell BK187.out 4).trans rfl, (blk_cell BK187.out 5).trans rfl⟩ (fun hHeld => ?_)
       clear hK K
       refine norm_ (a' := ?_) ?_ ?_
       rotate_left
       ·
        show Act.put _ (some 21) _ = _
        simp only [Act.put, List.setIfInBounds_toArray, List.set_cons_zero, List.set_cons_succ, i64_w, i32_w]
        rfl
       refine pure_ (i := 15) (N := some 22) (v := ?_) (a' := ?_) #[true, true, true, true, true, true, true, true, true, true, true, true, true, true, true, true, false, false, false, false, false, false, false, false, false, false, false] rfl rfl (any_of HT_.out (by kernel_rfl)) (fun _ _ _ h => h) (Or.inl ⟨by rfl, ?_⟩) ?_ ?_
       rotate_left
       ·
        intro w'
        go_simp
        with_reducible rfl
       rotate_left
       ·
        simp only [Act.put, List.setIfInBounds_toArray, List.set_cons_zero, List.set_cons_succ, i64_w, i32_w]
        rfl
       refine pure_ (i := 16) (N := some 23) (v := ?_) (a' := ?_) #[true, true, true, true, true, true, true, true, true, true, true, true, true, true, true, true, true, false, false, false, false, false, false, false, false, false, false] rfl rfl (any_of HT_.out (by kernel_rfl)) (fun _ _ _ h => h) (Or.inl ⟨by rfl, ?_⟩) ?_ ?_
       rotate_left
       ·
        intro w'
        go_simp
        with_reducible rfl
       rotate_left
       ·
        simp only [Act.put, List.setIfInBounds_toArray, List.set_cons_zero, List.set_cons_succ, i64_w, i32_w]
        rfl
       refine one_ (i := 17) (N := some 24) #[true, true, true, true, true, true, true, true, true, true, true, true, true, true, true, true, true, true, false, false, false, false, false, false, false, false, false] rfl rfl (one_of HT_.out (by kernel_rfl)) (by decide) (fun K hK => ?_)
       refine goes_ Tryz.func24 (by kernel_rfl) rfl #[.int .i64 1, .int .i64 2, .int .i64 1, .int .i64 2, .int .i32 0] (by rfl) rfl rfl (by (try simp only [List.map_toArray, List.map_cons, List.map_nil]); first | done | rfl | (simp only [List.length_drop, List.length_take]; rfl)) ?_
       with_reducible refine (redpencillaw09_of.calls 1 2 1 2 0 t211 t212 t213 t214 t215 t216 _ A42.out).mono ?_
       rintro e w55 ⟨rfl, hb⟩
       refine ⟨_, rfl, ?_⟩
       have n0_ := Aside0.mk (blk_below (g := gb186) (o := .cells #[.int .i64 t174, .int .i64 t175, .int .i64 t176, .int .i64 t177, .int .i64 t178, .int .i32 t179] 25 (0, 0)) (by (with_reducible repeat (first | refine blk_drewN ?_ _ | refine blk_drew ?_ | refine blk_alloc ?_ _)); exact BK186.out) hb)
       have n1_ := Aside0.mk (blk_below (g := gb187) (o := .cells #[.int .i64 t180, .int .i64 t181, .int .i64 t182, .int .i64 t183, .int .i64 t184, .int .i32 t185] 25 (0, 0)) (by (with_reducible repeat (first | refine blk_drewN ?_ _ | refine blk_drew ?_ | refine blk_alloc ?_ _)); exact BK187.out) hb)
       have n2_ := Aside0.mk (blk_below (g := gb188) (o := .cells #[.int .i64 0, .int .i64 0, .int .i64 0, .int .i64 0, .int .i64 0, .int .i32 0] 25 (0, 0)) (by (with_reducible repeat (first | refine blk_drewN ?_ _ | refine blk_drew ?_ | refine blk_alloc ?_ _)); exact BK188.out) hb)
       have n3_ := Aside0.mk (below_step (by repeat (first | (with_reducible first | exact HB.out | apply below_alloc | apply pw_below_drewN | apply below_drew1 | refine below_set ?_ GE186.out | refine below_set ?_ GE187.out | refine below_set ?_ GE188.out) | exact HB.out)) hb)
       clear BK186
       clear BK187
       clear BK188
       clear HB
       have BK186 := n0_
       have BK187 := n1_
       have BK188 := n2_
       have HB := n3_
       clear n0_ n1_ n2_ n3_
       (try clear hb)
       (try clear hb2)
       (try clear hk)
       (try clear hi)
       refine hK.out _ _ ⟨(blk_cell BK186.out 0).trans rfl, (blk_cell BK186.out 1).trans rfl, (blk_cell BK186.out 2).trans rfl, (blk_cell BK186.out 3).trans rfl, (blk_cell BK186.out 4).trans rfl, (blk_cell BK186.out 5).trans rfl, (blk_cell BK187.out 0).trans rfl, (blk_cell BK187.out 1).trans rfl, (blk_cell BK187.out 2).trans rfl, (blk_cell BK187.out 3).trans rfl, (blk_cell BK187.out 4).trans rfl, (blk_cell BK187.out 5).trans rfl⟩ (fun hHeld => ?_)
       clear hK K
       refine norm_ (a' := ?_) ?_ ?_
       rotate_left
       ·
        show Act.put _ (some 24) _ = _
        simp only [Act.put, List.setIfInBounds_toArray, List.set_cons_zero, List.set_cons_succ, i64_w, i32_w]
        rfl
       refine one_ (i := 18) (N := some 25) #[true, true, true, true, true, true, true, true, true, true, true, true, true, true, true, true, true, true, true, false, false, false, false, false, false, false, false] rfl rfl (one_of HT_.out (by kernel_rfl)) (by decide) (fun K hK => ?_)
       refine goes_ Tryz.func19 (by kernel_rfl) rfl #[.agg #[.int .i64 t211, .int .i64 t212, .int .i64 t213, .int .i64 t214, .int .i64 t215, .int .i32 t216]] (by rfl) rfl rfl (by (try simp only [List.map_toArray, List.map_cons, List.map_nil]); first | done | rfl | (simp only [List.length_drop, List.length_take]; rfl)) ?_
       with_reducible refine (node_Dead.calls t211 t212 t213 t214 t215 t216 true _ A43.out).mono ?_
       rintro e w56 ⟨rfl, hb⟩
       refine ⟨_, rfl, ?_⟩
       have n0_ := Aside0.mk (blk_below (g := gb186) (o := .cells #[.int .i64 t174, .int .i64 t175, .int .i64 t176, .int .i64 t177, .int .i64 t178, .int .i32 t179] 25 (0, 0)) (by (with_reducible repeat (first | refine blk_drewN ?_ _ | refine blk_drew ?_ | refine blk_alloc ?_ _)); exact BK186.out) hb)
       have n1_ := Aside0.mk (blk_below (g := gb187) (o := .cells #[.int .i64 t180, .int .i64 t181, .int .i64 t182, .int .i64 t183, .int .i64 t184, .int .i32 t185] 25 (0, 0)) (by (with_reducible repeat (first | refine blk_drewN ?_ _ | refine blk_drew ?_ | refine blk_alloc ?_ _)); exact BK187.out) hb)
       have n2_ := Aside0.mk (blk_below (g := gb188) (o := .cells #[.int .i64 0, .int .i64 0, .int .i64 0, .int .i64 0, .int .i64 0, .int .i32 0] 25 (0, 0)) (by (with_reducible repeat (first | refine blk_drewN ?_ _ | refine blk_drew ?_ | refine blk_alloc ?_ _)); exact BK188.out) hb)
       have n3_ := Aside0.mk (below_step (by repeat (first | (with_reducible first | exact HB.out | apply below_alloc | apply pw_below_drewN | apply below_drew1 | refine below_set ?_ GE186.out | refine below_set ?_ GE187.out | refine below_set ?_ GE188.out) | exact HB.out)) hb)
       clear BK186
       clear BK187
       clear BK188
       clear HB
       have BK186 := n0_
       have BK187 := n1_
       have BK188 := n2_
       have HB := n3_
       clear n0_ n1_ n2_ n3_
       (try clear hb)
       (try clear hb2)
       (try clear hk)
       (try clear hi)
       refine hK.out _ _ ⟨(blk_cell BK186.out 0).trans rfl, (blk_cell BK186.out 1).trans rfl, (blk_cell BK186.out 2).trans rfl, (blk_cell BK186.out 3).trans rfl, (blk_cell BK186.out 4).trans rfl, (blk_cell BK186.out 5).trans rfl, (blk_cell BK187.out 0).trans rfl, (blk_cell BK187.out 1).trans rfl, (blk_cell BK187.out 2).trans rfl, (blk_cell BK187.out 3).trans rfl, (blk_cell BK187.out 4).trans rfl, (blk_cell BK187.out 5).trans rfl⟩ (fun hHeld => ?_)
       clear hK K
       refine norm_ (a' := ?_) ?_ ?_
       rotate_left
       ·
        show Act.put _ (some 25) _ = _
        simp only [Act.put, List.setIfInBounds_toArray, List.set_cons_zero, List.set_cons_succ, i64_w, i32_w]
        rfl
       refine pure_ (i := 19) (N := some 26) (v := ?_) (a' := ?_) #[true, true, true, true, true, true, true, true, true, true, true, true, true, true, true, true, true, true, true, true, false, false, false, false, false, false, false] rfl rfl (any_of HT_.out (by kernel_rfl)) (fun _ _ _ h => h) (Or.inl ⟨by rfl, ?_⟩) ?_ ?_
       rotate_left
       ·
        intro w'
        go_simp
        with_reducible rfl
       rotate_left
       ·
        simp only [Act.put, List.setIfInBounds_toArray, List.set_cons_zero, List.set_cons_succ, i64_w, i32_w]
        rfl
       refine pure_ (i := 20) (N := some 27) (v := ?_) (a' := ?_) #[true, true, true, true, true, true, true, true, true, true, true, true, true, true, true, true, true, true, true, true, true, false, false, false, false, false, false] rfl rfl (any_of HT_.out (by kernel_rfl)) (fun _ _ _ h => h) (Or.inl ⟨by rfl, ?_⟩) ?_ ?_
       rotate_left
       ·
        intro w'
        go_simp
        with_reducible rfl
       rotate_left
       ·
        simp only [Act.put, List.setIfInBounds_toArray, List.set_cons_zero, List.set_cons_succ, i64_w, i32_w]
        rfl
       refine pure_ (i := 21) (N := some 28) (v := ?_) (a' := ?_) #[true, true, true, true, true, true, true, true, true, true, true, true, true, true, true, true, true, true, true, true, true, true, false, false, false, false, false] rfl rfl (any_of HT_.out (by kernel_rfl)) (fun _ _ _ h => h) (Or.inl ⟨by rfl, ?_⟩) ?_ ?_
       rotate_left
       ·
        intro w'
        go_simp
        with_reducible rfl
       rotate_left
       ·
        simp only [Act.put, List.setIfInBounds_toArray, List.set_cons_zero, List.set_cons_succ, i64_w, i32_w]
        rfl
       refine take_ (i := 22) (N := some 29) (v := ?_) (a' := ?_) #[true, true, true, true, true, true, true, true, true, true, true, true, true, true, true, true, true, true, true, true, true, true, true, false, false, false, false] rfl rfl (take_ofW HT_.out HW_.out (by kernel_rfl)) (fun _ _ _ h => h) (Or.inl ⟨by rfl, ?_⟩) hHeld ?_ ?_
       rotate_left
       ·
        rintro w' ⟨s0, s1, s2, s3, s4, s5, s6, s7, s8, s9, s10, s11⟩
        go_simp
        with_reducible rfl
       rotate_left
       ·
        simp only [Act.put, List.setIfInBounds_toArray, List.set_cons_zero, List.set_cons_succ, i64_w, i32_w]
        rfl
       refine take_ (i := 24) (N := some 31) (v := ?_) (a' := ?_) #[true, true, true, true, true, true, true, true, true, true, true, true, true, true, true, true, true, true, true, true, true, true, true, false, true, false, false] rfl rfl (take_ofW HT_.out HW_.out (by kernel_rfl)) (fun _ _ _ h => h) (Or.inl ⟨by rfl, ?_⟩) hHeld ?_ ?_
       rotate_left
       ·
        rintro w' ⟨s0, s1, s2, s3, s4, s5, s6, s7, s8, s9, s10, s11⟩
        go_simp
        with_reducible rfl
       rotate_left
       ·
        simp only [Act.put, List.setIfInBounds_toArray, List.set_cons_zero, List.set_cons_succ, i64_w, i32_w]
        rfl
       refine one_ (i := 23) (N := some 30) #[true, true, true, true, true, true, true, true, true, true, true, true, true, true, true, true, true, true, true, true, true, true, true, true, true, false, false] rfl rfl (one_of HT_.out (by kernel_rfl)) (by decide) (fun K hK => ?_)
       refine goes_ Tryz.func20 (by kernel_rfl) rfl #[.agg #[.int .i64 t174, .int .i64 t175, .int .i64 t176, .int .i64 t177, .int .i64 t178, .int .i32 t179]] (by rfl) rfl rfl (by (try simp only [List.map_toArray, List.map_cons, List.map_nil]); first | done | rfl | (simp only [List.length_drop, List.length_take]; rfl)) ?_
       with_reducible refine (node_Kill.calls t174 t175 t176 t177 t178 t179 t218 t219 t220 t221 t222 t223 _ A45.out).mono ?_
       rintro e w57 ⟨rfl, hb⟩
       refine ⟨_, rfl, ?_⟩
       have n0_ := Aside0.mk (blk_below (g := gb186) (o := .cells #[.int .i64 t174, .int .i64 t175, .int .i64 t176, .int .i64 t177, .int .i64 t178, .int .i32 t179] 25 (0, 0)) (by (with_reducible repeat (first | refine blk_drewN ?_ _ | refine blk_drew ?_ | refine blk_alloc ?_ _)); exact BK186.out) hb)
       have n1_ := Aside0.mk (blk_below (g := gb187) (o := .cells #[.int .i64 t180, .int .i64 t181, .int .i64 t182, .int .i64 t183, .int .i64 t184, .int .i32 t185] 25 (0, 0)) (by (with_reducible repeat (first | refine blk_drewN ?_ _ | refine blk_drew ?_ | refine blk_alloc ?_ _)); exact BK187.out) hb)
       have n2_ := Aside0.mk (blk_below (g := gb188) (o := .cells #[.int .i64 0, .int .i64 0, .int .i64 0, .int .i64 0, .int .i64 0, .int .i32 0] 25 (0, 0)) (by (with_reducible repeat (first | refine blk_drewN ?_ _ | refine blk_drew ?_ | refine blk_alloc ?_ _)); exact BK188.out) hb)
       have n3_ := Aside0.mk (below_step (by repeat (first | (with_reducible first | exact HB.out | apply below_alloc | apply pw_below_drewN | apply below_drew1 | refine below_set ?_ GE186.out | refine below_set ?_ GE187.out | refine below_set ?_ GE188.out) | exact HB.out)) hb)
       clear BK186
       clear BK187
       clear BK188
       clear HB
       have BK186 := n0_
       have BK187 := n1_
       have BK188 := n2_
       have HB := n3_
       clear n0_ n1_ n2_ n3_
       (try clear hb)
       (try clear hb2)
       (try clear hk)
       (try clear hi)
       refine hK.out _ _ ⟨(blk_cell BK186.out 0).trans rfl, (blk_cell BK186.out 1).trans rfl, (blk_cell BK186.out 2).trans rfl, (blk_cell BK186.out 3).trans rfl, (blk_cell BK186.out 4).trans rfl, (blk_cell BK186.out 5).trans rfl, (blk_cell BK187.out 0).trans rfl, (blk_cell BK187.out 1).trans rfl, (blk_cell BK187.out 2).trans rfl, (blk_cell BK187.out 3).trans rfl, (blk_cell BK187.out 4).trans rfl, (blk_cell BK187.out 5).trans rfl⟩ (fun hHeld => ?_)
       clear hK K
       refine norm_ (a' := ?_) ?_ ?_
       rotate_left
       ·
        show Act.put _ (some 30) _ = _
        simp only [Act.put, List.setIfInBounds_toArray, List.set_cons_zero, List.set_cons_succ, i64_w, i32_w]
        rfl
       refine pure_ (i := 25) (N := some 32) (v := ?_) (a' := ?_) #[true, true, true, true, true, true, true, true, true, true, true, true, true, true, true, true, true, true, true, true, true, true, true, true, true, true, false] rfl rfl (any_of HT_.out (by kernel_rfl)) (fun _ _ _ h => h) (Or.inl ⟨by rfl, ?_⟩) ?_ ?_
       rotate_left
       ·
        intro w'
        go_simp
        with_reducible rfl
       rotate_left
       ·
        simp only [Act.put, List.setIfInBounds_toArray, List.set_cons_zero, List.set_cons_succ, i64_w, i32_w]
        rfl
       refine pure_ (i := 26) (N := some 33) (v := ?_) (a' := ?_) #[true, true, true, true, true, true, true, true, true, true, true, true, true, true, true, true, true, true, true, true, true, true, true, true, true, true, true] rfl rfl (any_of HT_.out (by kernel_rfl)) (fun _ _ _ h => h) (Or.inl ⟨by rfl, ?_⟩) ?_ ?_
       rotate_left
       ·
        intro w'
        go_simp
        with_reducible rfl
       rotate_left
       ·
        simp only [Act.put, List.setIfInBounds_toArray, List.set_cons_zero, List.set_cons_succ, i64_w, i32_w]
        rfl
       refine done_ (done_of HT_.out (by kernel_rfl)) ?_
       try go_wp2
       go_meet
       case rel => exact ⟨_, (((!(t218 == t180) || (!(t219 == t181))) || ((!(t220 == t182) || (!(t221 == t183))) || (!(t222 == t184) || (!(t223 == t185)))))), (by first | rfl | (simp; done) | (simp [*]; done)), H', ⟨by first | omega | exact Nat.le_refl _⟩, ⟨by (with_reducible repeat (first | refine blk_drewN ?_ _ | refine blk_drew ?_ | refine blk_alloc ?_ _)); exact BK186.out⟩, ⟨by (with_reducible repeat (first | refine blk_drewN ?_ _ | refine blk_drew ?_ | refine blk_alloc ?_ _)); exact BK187.out⟩, ⟨by (with_reducible repeat (first | refine blk_drewN ?_ _ | refine blk_drew ?_ | refine blk_alloc ?_ _)); exact BK188.out⟩, ⟨by repeat (first | (with_reducible first | exact HB.out | apply below_alloc | apply pw_below_drewN | apply below_drew1 | refine below_set ?_ GE186.out | refine below_set ?_ GE187.out | refine below_set ?_ GE188.out) | exact HB.out)⟩⟩
      ·
       replace c44 := Bool.eq_false_iff.mpr c44
       subst c44
       have H1 : (redpencillaw09_known.j0 k true t174 t175 t176 t177 t178 t179 t180 t181 t182 t183 t184 t185 0 0 0 0 0 0) = some true := by rw [if_neg (show ¬ (false = true) by decide)] at H; exact H
       exact absurd H1 (redpencillaw09_known.j0_no _ _ _ _ _ _ _ _ _ _ _ _ _ _ _ _ _ _ _)
   ·
    replace c19 := Bool.eq_false_iff.mpr c19
    subst c19
    have H1 : (redpencillaw09_known.j0 k true t174 t175 t176 t177 t178 t179 t180 t181 t182 t183 t184 t185 0 0 0 0 0 0) = some true := by rw [if_neg (show ¬ (false = true) by decide)] at H; exact H
    exact absurd H1 (redpencillaw09_known.j0_no _ _ _ _ _ _ _ _ _ _ _ _ _ _ _ _ _ _ _)
  ·
   replace c16 := Bool.eq_false_iff.mpr c16
   subst c16
   have H1 : (redpencillaw09_known.j0 k true t174 t175 t176 t177 t178 t179 t180 t181 t182 t183 t184 t185 0 0 0 0 0 0) = some true := by rw [if_neg (show ¬ (false = true) by decide)] at H; exact H
   exact absurd H1 (redpencillaw09_known.j0_no _ _ _ _ _ _ _ _ _ _ _ _ _ _ _ _ _ _ _)
 case rest =>
  clear HC3
  try clear c1
  try clear c2
  try clear p2
  try clear c16
  try clear c19
  try clear c24
  obtain ⟨kq, x33_2, rfl, HA, HJ2, BK186, BK187, BK188, HB⟩ := hcut
  cases kq with
  | zero => exact absurd HA.out (by simp [redpencillaw09_known.j0])
  | succ kj2 =>
   have H := HA.out
   clear HA
   simp only [redpencillaw09_known.j0] at H
   by_cases c77 : x33_2 = true
   ·
    subst c77
    have H1 : (some false) = some true := by rw [if_pos rfl] at H; exact H
    exact absurd H1 (by simp)
   ·
    replace c77 := Bool.eq_false_iff.mpr c77
    subst c77
    have H1 : ((redpencillaw09_of.f 1 2 0 5 0).bind fun bt224 => ((redpencillaw09_of.f 9 1 0 4 0).bind fun bt230 => ((node_Before.f kj2 bt224.1 bt224.2.1 bt224.2.2.1 bt224.2.2.2.1 bt224.2.2.2.2.1 bt224.2.2.2.2.2 bt230.1 bt230.2.1 bt230.2.2.1 bt230.2.2.2.1 bt230.2.2.2.2.1 bt230.2.2.2.2.2).bind fun t236 => (if t236 = true then ((redpencillaw09_of.f 1 2 0 5 0).bind fun bt237 => ((redpencillaw09_of.f 2 2 0 5 0).bind fun bt243 => ((node_Before.f kj2 bt237.1 bt237.2.1 bt237.2.2.1 bt237.2.2.2.1 bt237.2.2.2.2.1 bt237.2.2.2.2.2 bt243.1 bt243.2.1 bt243.2.2.1 bt243.2.2.2.1 bt243.2.2.2.2.1 bt243.2.2.2.2.2).bind fun t249 => (if t249 = true then (redpencillaw09_known.j1 kj2 true t174 t175 t176 t177 t178 t179 t180 t181 t182 t183 t184 t185 0 0 0 0 0 0) else ((redpencillaw09_of.f 1 1 0 5 0).bind fun bt250 => ((redpencillaw09_of.f 1 1 0 5 0).bind fun bt256 => ((node_Before.f kj2 bt250.1 bt250.2.1 bt250.2.2.1 bt250.2.2.2.1 bt250.2.2.2.2.1 bt250.2.2.2.2.2 bt256.1 bt256.2.1 bt256.2.2.1 bt256.2.2.2.1 bt256.2.2.2.2.1 bt256.2.2.2.2.2).bind fun t262 => (redpencillaw09_known.j1 kj2 t262 t174 t175 t176 t177 t178 t179 t180 t181 t182 t183 t184 t185 0 0 0 0 0 0)))))))) else (redpencillaw09_known.j1 kj2 true t174 t175 t176 t177 t178 t179 t180 t181 t182 t183 t184 t185 0 0 0 0 0 0))))) = some true := by rw [if_neg (show ¬ (false = true) by decide)] at H; exact H
    clear H
    have H := H1
    clear H1
    have HC78 := Aside0.mk H
    clear H
    go_upto_region 4 with (fail)
    go_cut [47] (fun v47 wc => ∃ (kq : Nat) (x47_77 : Bool), v47 = .bool x47_77 ∧ Aside0 (redpencillaw09_known.j1 kq x47_77 t174 t175 t176 t177 t178 t179 t180 t181 t182 t183 t184 t185 0 0 0 0 0 0 = some true) ∧ Aside0 (kq ≤ kj2) ∧ Aside0 (wc.heap[gb186]? = some (.cells #[.int .i64 t174, .int .i64 t175, .int .i64 t176, .int .i64 t177, .int .i64 t178, .int .i32 t179] 25 (0, 0))) ∧ Aside0 (wc.heap[gb187]? = some (.cells #[.int .i64 t180, .int .i64 t181, .int .i64 t182, .int .i64 t183, .int .i64 t184, .int .i32 t185] 25 (0, 0))) ∧ Aside0 (wc.heap[gb188]? = some (.cells #[.int .i64 0, .int .i64 0, .int .i64 0, .int .i64 0, .int .i64 0, .int .i32 0] 25 (0, 0))) ∧ Aside0 (Below w.heap.size w wc))
    case first =>
     have H := HC78.out
     clear HC78
     replace H := Option.bind_eq_some_iff.mp H
     obtain ⟨⟨t224, t225, t226, t227, t228, t229⟩, A790, H⟩ := H
     replace H : ((redpencillaw09_of.f 9 1 0 4 0).bind fun bt230 => ((node_Before.f kj2 t224 t225 t226 t227 t228 t229 bt230.1 bt230.2.1 bt230.2.2.1 bt230.2.2.2.1 bt230.2.2.2.2.1 bt230.2.2.2.2.2).bind fun t236 => (if t236 = true then ((redpencillaw09_of.f 1 2 0 5 0).bind fun bt237 => ((redpencillaw09_of.f 2 2 0 5 0).bind fun bt243 => ((node_Before.f kj2 bt237.1 bt237.2.1 bt237.2.2.1 bt237.2.2.2.1 bt237.2.2.2.2.1 bt237.2.2.2.2.2 bt243.1 bt243.2.1 bt243.2.2.1 bt243.2.2.2.1 bt243.2.2.2.2.1 bt243.2.2.2.2.2).bind fun t249 => (if t249 = true then (redpencillaw09_known.j1 kj2 true t174 t175 t176 t177 t178 t179 t180 t181 t182 t183 t184 t185 0 0 0 0 0 0) else ((redpencillaw09_of.f 1 1 0 5 0).bind fun bt250 => ((redpencillaw09_of.f 1 1 0 5 0).bind fun bt256 => ((node_Before.f kj2 bt250.1 bt250.2.1 bt250.2.2.1 bt250.2.2.2.1 bt250.2.2.2.2.1 bt250.2.2.2.2.2 bt256.1 bt256.2.1 bt256.2.2.1 bt256.2.2.2.1 bt256.2.2.2.2.1 bt256.2.2.2.2.2).bind fun t262 => (redpencillaw09_known.j1 kj2 t262 t174 t175 t176 t177 t178 t179 t180 t181 t182 t183 t184 t185 0 0 0 0 0 0)))))))) else (redpencillaw09_known.j1 kj2 true t174 t175 t176 t177 t178 t179 t180 t181 t182 t183 t184 t185 0 0 0 0 0 0)))) = some true := H
     have A79 := Aside0.mk A790
     clear A790
     replace H := Option.bind_eq_some_iff.mp H
     obtain ⟨⟨t230, t231, t232, t233, t234, t235⟩, A800, H⟩ := H
     replace H : ((node_Before.f kj2 t224 t225 t226 t227 t228 t229 t230 t231 t232 t233 t234 t235).bind fun t236 => (if t236 = true then ((redpencillaw09_of.f 1 2 0 5 0).bind fun bt237 => ((redpencillaw09_of.f 2 2 0 5 0).bind fun bt243 => ((node_Before.f kj2 bt237.1 bt237.2.1 bt237.2.2.1 bt237.2.2.2.1 bt237.2.2.2.2.1 bt237.2.2.2.2.2 bt243.1 bt243.2.1 bt243.2.2.1 bt243.2.2.2.1 bt243.2.2.2.2.1 bt243.2.2.2.2.2).bind fun t249 => (if t249 = true then (redpencillaw09_known.j1 kj2 true t174 t175 t176 t177 t178 t179 t180 t181 t182 t183 t184 t185 0 0 0 0 0 0) else ((redpencillaw09_of.f 1 1 0 5 0).bind fun bt250 => ((redpencillaw09_of.f 1 1 0 5 0).bind fun bt256 => ((node_Before.f kj2 bt250.1 bt250.2.1 bt250.2.2.1 bt250.2.2.2.1 bt250.2.2.2.2.1 bt250.2.2.2.2.2 bt256.1 bt256.2.1 bt256.2.2.1 bt256.2.2.2.1 bt256.2.2.2.2.1 bt256.2.2.2.2.2).bind fun t262 => (redpencillaw09_known.j1 kj2 t262 t174 t175 t176 t177 t178 t179 t180 t181 t182 t183 t184 t185 0 0 0 0 0 0)))))))) else (redpencillaw09_known.j1 kj2 true t174 t175 t176 t177 t178 t179 t180 t181 t182 t183 t184 t185 0 0 0 0 0 0))) = some true := H
     have A80 := Aside0.mk A800
     clear A800
     replace H := Option.bind_eq_some_iff.mp H
     obtain ⟨t236, A810, H⟩ := H
     replace H : (if t236 = true then ((redpencillaw09_of.f 1 2 0 5 0).bind fun bt237 => ((redpencillaw09_of.f 2 2 0 5 0).bind fun bt243 => ((node_Before.f kj2 bt237.1 bt237.2.1 bt237.2.2.1 bt237.2.2.2.1 bt237.2.2.2.2.1 bt237.2.2.2.2.2 bt243.1 bt243.2.1 bt243.2.2.1 bt243.2.2.2.1 bt243.2.2.2.2.1 bt243.2.2.2.2.2).bind fun t249 => (if t249 = true then (redpencillaw09_known.j1 kj2 true t174 t175 t176 t177 t178 t179 t180 t181 t182 t183 t184 t185 0 0 0 0 0 0) else ((redpencillaw09_of.f 1 1 0 5 0).bind fun bt250 => ((redpencillaw09_of.f 1 1 0 5 0).bind fun bt256 => ((node_Before.f kj2 bt250.1 bt250.2.1 bt250.2.2.1 bt250.2.2.2.1 bt250.2.2.2.2.1 bt250.2.2.2.2.2 bt256.1 bt256.2.1 bt256.2.2.1 bt256.2.2.2.1 bt256.2.2.2.2.1 bt256.2.2.2.2.2).bind fun t262 => (redpencillaw09_known.j1 kj2 t262 t174 t175 t176 t177 t178 t179 t180 t181 t182 t183 t184 t185 0 0 0 0 0 0)))))))) else (redpencillaw09_known.j1 kj2 true t174 t175 t176 t177 t178 t179 t180 t181 t182 t183 t184 t185 0 0 0 0 0 0)) = some true := H
     have A81 := Aside0.mk A810
     clear A810
     by_cases c82 : t236 = true
     ·
      subst c82
      have H1 : ((redpencillaw09_of.f 1 2 0 5 0).bind fun bt237 => ((redpencillaw09_of.f 2 2 0 5 0).bind fun bt243 => ((node_Before.f kj2 bt237.1 bt237.2.1 bt237.2.2.1 bt237.2.2.2.1 bt237.2.2.2.2.1 bt237.2.2.2.2.2 bt243.1 bt243.2.1 bt243.2.2.1 bt243.2.2.2.1 bt243.2.2.2.2.1 bt243.2.2.2.2.2).bind fun t249 => (if t249 = true then (redpencillaw09_known.j1 kj2 true t174 t175 t176 t177 t178 t179 t180 t181 t182 t183 t184 t185 0 0 0 0 0 0) else ((redpencillaw09_of.f 1 1 0 5 0).bind fun bt250 => ((redpencillaw09_of.f 1 1 0 5 0).bind fun bt256 => ((node_Before.f kj2 bt250.1 bt250.2.1 bt250.2.2.1 bt250.2.2.2.1 bt250.2.2.2.2.1 bt250.2.2.2.2.2 bt256.1 bt256.2.1 bt256.2.2.1 bt256.2.2.2.1 bt256.2.2.2.2.1 bt256.2.2.2.2.2).bind fun t262 => (redpencillaw09_known.j1 kj2 t262 t174 t175 t176 t177 t178 t179 t180 t181 t182 t183 t184 t185 0 0 0 0 0 0)))))))) = some true := by rw [if_pos rfl] at H; exact H
      clear H
      have H := H1
      clear H1
      replace H := Option.bind_eq_some_iff.mp H
      obtain ⟨⟨t237, t238, t239, t240, t241, t242⟩, A830, H⟩ := H
      replace H : ((redpencillaw09_of.f 2 2 0 5 0).bind fun bt243 => ((node_Before.f kj2 t237 t238 t239 t240 t241 t242 bt243.1 bt243.2.1 bt243.2.2.1 bt243.2.2.2.1 bt243.2.2.2.2.1 bt243.2.2.2.2.2).bind fun t249 => (if t249 = true then (redpencillaw09_known.j1 kj2 true t174 t175 t176 t177 t178 t179 t180 t181 t182 t183 t184 t185 0 0 0 0 0 0) else ((redpencillaw09_of.f 1 1 0 5 0).bind fun bt250 => ((redpencillaw09_of.f 1 1 0 5 0).bind fun bt256 => ((node_Before.f kj2 bt250.1 bt250.2.1 bt250.2.2.1 bt250.2.2.2.1 bt250.2.2.2.2.1 bt250.2.2.2.2.2 bt256.1 bt256.2.1 bt256.2.2.1 bt256.2.2.2.1 bt256.2.2.2.2.1 bt256.2.2.2.2.2).bind fun t262 => (redpencillaw09_known.j1 kj2 t262 t174 t175 t176 t177 t178 t179 t180 t181 t182 t183 t184 t185 0 0 0 0 0 0))))))) = some true := H
      have A83 := Aside0.mk A830
      clear A830
      replace H := Option.bind_eq_some_iff.mp H
      obtain ⟨⟨t243, t244, t245, t246, t247, t248⟩, A840, H⟩ := H
      replace H : ((node_Before.f kj2 t237 t238 t239 t240 t241 t242 t243 t244 t245 t246 t247 t248).bind fun t249 => (if t249 = true then (redpencillaw09_known.j1 kj2 true t174 t175 t176 t177 t178 t179 t180 t181 t182 t183 t184 t185 0 0 0 0 0 0) else ((redpencillaw09_of.f 1 1 0 5 0).bind fun bt250 => ((redpencillaw09_of.f 1 1 0 5 0).bind fun bt256 => ((node_Before.f kj2 bt250.1 bt250.2.1 bt250.2.2.1 bt250.2.2.2.1 bt250.2.2.2.2.1 bt250.2.2.2.2.2 bt256.1 bt256.2.1 bt256.2.2.1 bt256.2.2.2.1 bt256.2.2.2.2.1 bt256.2.2.2.2.2).bind fun t262 => (redpencillaw09_known.j1 kj2 t262 t174 t175 t176 t177 t178 t179 t180 t181 t182 t183 t184 t185 0 0 0 0 0 0)))))) = some true := H
      have A84 := Aside0.mk A840
      clear A840
      replace H := Option.bind_eq_some_iff.mp H
      obtain ⟨t249, A850, H⟩ := H
      replace H : (if t249 = true then (redpencillaw09_known.j1 kj2 true t174 t175 t176 t177 t178 t179 t180 t181 t182 t183 t184 t185 0 0 0 0 0 0) else ((redpencillaw09_of.f 1 1 0 5 0).bind fun bt250 => ((redpencillaw09_of.f 1 1 0 5 0).bind fun bt256 => ((node_Before.f kj2 bt250.1 bt250.2.1 bt250.2.2.1 bt250.2.2.2.1 bt250.2.2.2.2.1 bt250.2.2.2.2.2 bt256.1 bt256.2.1 bt256.2.2.1 bt256.2.2.2.1 bt256.2.2.2.2.1 bt256.2.2.2.2.2).bind fun t262 => (redpencillaw09_known.j1 kj2 t262 t174 t175 t176 t177 t178 t179 t180 t181 t182 t183 t184 t185 0 0 0 0 0 0))))) = some true := H
      have A85 := Aside0.mk A850
      clear A850
      by_cases c86 : t249 = true
      ·
       subst c86
       have H1 : (redpencillaw09_known.j1 kj2 true t174 t175 t176 t177 t178 t179 t180 t181 t182 t183 t184 t185 0 0 0 0 0 0) = some true := by rw [if_pos rfl] at H; exact H
       exact absurd H1 (redpencillaw09_known.j1_no _ _ _ _ _ _ _ _ _ _ _ _ _ _ _ _ _ _ _)
      ·
       replace c86 := Bool.eq_false_iff.mpr c86
       subst c86
       have H1 : ((redpencillaw09_of.f 1 1 0 5 0).bind fun bt250 => ((redpencillaw09_of.f 1 1 0 5 0).bind fun bt256 => ((node_Before.f kj2 bt250.1 bt250.2.1 bt250.2.2.1 bt250.2.2.2.1 bt250.2.2.2.2.1 bt250.2.2.2.2.2 bt256.1 bt256.2.1 bt256.2.2.1 bt256.2.2.2.1 bt256.2.2.2.2.1 bt256.2.2.2.2.2).bind fun t262 => (redpencillaw09_known.j1 kj2 t262 t174 t175 t176 t177 t178 t179 t180 t181 t182 t183 t184 t185 0 0 0 0 0 0)))) = some true := by rw [if_neg (show ¬ (false = true) by decide)] at H; exact H
       clear H
       have H := H1
       clear H1
       replace H := Option.bind_eq_some_iff.mp H
       obtain ⟨⟨t250, t251, t252, t253, t254, t255⟩, A930, H⟩ := H
       replace H : ((redpencillaw09_of.f 1 1 0 5 0).bind fun bt256 => ((node_Before.f kj2 t250 t251 t252 t253 t254 t255 bt256.1 bt256.2.1 bt256.2.2.1 bt256.2.2.2.1 bt256.2.2.2.2.1 bt256.2.2.2.2.2).bind fun t262 => (redpencillaw09_known.j1 kj2 t262 t174 t175 t176 t177 t178 t179 t180 t181 t182 t183 t184 t185 0 0 0 0 0 0))) = some true := H
       have A93 := Aside0.mk A930
       clear A930
       replace H := Option.bind_eq_some_iff.mp H
       obtain ⟨⟨t256, t257, t258, t259, t260, t261⟩, A940, H⟩ := H
       have q_ := A93.out.symm.trans A940
       simp only [Option.some.injEq, Prod.mk.injEq] at q_
       obtain ⟨rfl, rfl, rfl, rfl, rfl, rfl⟩ := q_
       replace H : ((node_Before.f kj2 t250 t251 t252 t253 t254 t255 t250 t251 t252 t253 t254 t255).bind fun t262 => (redpencillaw09_known.j1 kj2 t262 t174 t175 t176 t177 t178 t179 t180 t181 t182 t183 t184 t185 0 0 0 0 0 0)) = some true := H
       have A94 := Aside0.mk A940
       clear A940
       replace H := Option.bind_eq_some_iff.mp H
       obtain ⟨t262, A950, H⟩ := H
       replace H : (redpencillaw09_known.j1 kj2 t262 t174 t175 t176 t177 t178 t179 t180 t181 t182 t183 t184 t185 0 0 0 0 0 0) = some true := H
       have A95 := Aside0.mk A950
       clear A950
       have H' := Aside0.mk H
       clear H
       go_wp2_with (first | ((with_reducible refine gate_callee (f := 24) rfl ?_); refine goesL_ (some 34) rfl rfl Tryz.func24 (by kernel_rfl) rfl #[.int .i64 1, .int .i64 2, .int .i64 0, .int .i64 5, .int .i32 0] rfl (by (try simp only [List.map_toArray, List.map_cons, List.map_nil]); first | done | rfl | (simp only [List.length_drop, List.length_take]; rfl)) ?_; (with_reducible refine (redpencillaw09_of.calls 1 2 0 5 0 t224 t225 t226 t227 t228 t229 _ A79.out).mono ?_); rintro e w96 ⟨rfl, hb⟩; refine ⟨_, rfl, ?_⟩; have n0_ := Aside0.mk (blk_below (g := gb186) (o := .cells #[.int .i64 t174, .int .i64 t175, .int .i64 t176, .int .i64 t177, .int .i64 t178, .int .i32 t179] 25 (0, 0)) (by (with_reducible repeat (first | refine blk_drewN ?_ _ | refine blk_drew ?_ | refine blk_alloc ?_ _)); exact BK186.out) hb); have n1_ := Aside0.mk (blk_below (g := gb187) (o := .cells #[.int .i64 t180, .int .i64 t181, .int .i64 t182, .int .i64 t183, .int .i64 t184, .int .i32 t185] 25 (0, 0)) (by (with_reducible repeat (first | refine blk_drewN ?_ _ | refine blk_drew ?_ | refine blk_alloc ?_ _)); exact BK187.out) hb); have n2_ := Aside0.mk (blk_below (g := gb188) (o := .cells #[.int .i64 0, .int .i64 0, .int .i64 0, .int .i64 0, .int .i64 0, .int .i32 0] 25 (0, 0)) (by (with_reducible repeat (first | refine blk_drewN ?_ _ | refine blk_drew ?_ | refine blk_alloc ?_ _)); exact BK188.out) hb); have n3_ := Aside0.mk (below_step (by repeat (first | (with_reducible first | exact HB.out | apply below_alloc | apply pw_below_drewN | apply below_drew1 | refine below_set ?_ GE186.out | refine below_set ?_ GE187.out | refine below_set ?_ GE188.out) | exact HB.out)) hb); clear BK186; clear BK187; clear BK188; clear HB; have BK186 := n0_; have BK187 := n1_; have BK188 := n2_; have HB := n3_; clear n0_ n1_ n2_ n3_; (try clear hb); (try clear hb2); (try clear hk); (try clear hi)) | ((with_reducible refine gate_callee (f := 24) rfl ?_); refine goesL_ (some 35) rfl rfl Tryz.func24 (by kernel_rfl) rfl #[.int .i64 9, .int .i64 1, .int .i64 0, .int .i64 4, .int .i32 0] rfl (by (try simp only [List.map_toArray, List.map_cons, List.map_nil]); first | done | rfl | (simp only [List.length_drop, List.length_take]; rfl)) ?_; (with_reducible refine (redpencillaw09_of.calls 9 1 0 4 0 t230 t231 t232 t233 t234 t235 _ A80.out).mono ?_); rintro e w97 ⟨rfl, hb⟩; refine ⟨_, rfl, ?_⟩; have n0_ := Aside0.mk (blk_below (g := gb186) (o := .cells #[.int .i64 t174, .int .i64 t175, .int .i64 t176, .int .i64 t177, .int .i64 t178, .int .i32 t179] 25 (0, 0)) (by (with_reducible repeat (first | refine blk_drewN ?_ _ | refine blk_drew ?_ | refine blk_alloc ?_ _)); exact BK186.out) hb); have n1_ := Aside0.mk (blk_below (g := gb187) (o := .cells #[.int .i64 t180, .int .i64 t181, .int .i64 t182, .int .i64 t183, .int .i64 t184, .int .i32 t185] 25 (0, 0)) (by (with_reducible repeat (first | refine blk_drewN ?_ _ | refine blk_drew ?_ | refine blk_alloc ?_ _)); exact BK187.out) hb); have n2_ := Aside0.mk (blk_below (g := gb188) (o := .cells #[.int .i64 0, .int .i64 0, .int .i64 0, .int .i64 0, .int .i64 0, .int .i32 0] 25 (0, 0)) (by (with_reducible repeat (first | refine blk_drewN ?_ _ | refine blk_drew ?_ | refine blk_alloc ?_ _)); exact BK188.out) hb); have n3_ := Aside0.mk (below_step (by repeat (first | (with_reducible first | exact HB.out | apply below_alloc | apply pw_below_drewN | apply below_drew1 | refine below_set ?_ GE186.out | refine below_set ?_ GE187.out | refine below_set ?_ GE188.out) | exact HB.out)) hb); clear BK186; clear BK187; clear BK188; clear HB; have BK186 := n0_; have BK187 := n1_; have BK188 := n2_; have HB := n3_; clear n0_ n1_ n2_ n3_; (try clear hb); (try clear hb2); (try clear hk); (try clear hi)) | ((with_reducible refine gate_callee (f := 14) rfl ?_); refine goesL_ (some 36) rfl rfl Tryz.func14 (by kernel_rfl) rfl #[.agg #[.int .i64 t224, .int .i64 t225, .int .i64 t226, .int .i64 t227, .int .i64 t228, .int .i32 t229], .agg #[.int .i64 t230, .int .i64 t231, .int .i64 t232, .int .i64 t233, .int .i64 t234, .int .i32 t235]] rfl (by (try simp only [List.map_toArray, List.map_cons, List.map_nil]); first | done | rfl | (simp only [List.length_drop, List.length_take]; rfl)) ?_; (with_reducible refine (node_Before.calls kj2 t224 t225 t226 t227 t228 t229 t230 t231 t232 t233 t234 t235 true _ A81.out).mono ?_); rintro e w98 ⟨rfl, hb⟩; refine ⟨_, rfl, ?_⟩; have n0_ := Aside0.mk (blk_below (g := gb186) (o := .cells #[.int .i64 t174, .int .i64 t175, .int .i64 t176, .int .i64 t177, .int .i64 t178, .int .i32 t179] 25 (0, 0)) (by (with_reducible repeat (first | refine blk_drewN ?_ _ | refine blk_drew ?_ | refine blk_alloc ?_ _)); exact BK186.out) hb); have n1_ := Aside0.mk (blk_below (g := gb187) (o := .cells #[.int .i64 t180, .int .i64 t181, .int .i64 t182, .int .i64 t183, .int .i64 t184, .int .i32 t185] 25 (0, 0)) (by (with_reducible repeat (first | refine blk_drewN ?_ _ | refine blk_drew ?_ | refine blk_alloc ?_ _)); exact BK187.out) hb); have n2_ := Aside0.mk (blk_below (g := gb188) (o := .cells #[.int .i64 0, .int .i64 0, .int .i64 0, .int .i64 0, .int .i64 0, .int .i32 0] 25 (0, 0)) (by (with_reducible repeat (first | refine blk_drewN ?_ _ | refine blk_drew ?_ | refine blk_alloc ?_ _)); exact BK188.out) hb); have n3_ := Aside0.mk (below_step (by repeat (first | (with_reducible first | exact HB.out | apply below_alloc | apply pw_below_drewN | apply below_drew1 | refine below_set ?_ GE186.out | refine below_set ?_ GE187.out | refine below_set ?_ GE188.out) | exact HB.out)) hb); clear BK186; clear BK187; clear BK188; clear HB; have BK186 := n0_; have BK187 := n1_; have BK188 := n2_; have HB := n3_; clear n0_ n1_ n2_ n3_; (try clear hb); (try clear hb2); (try clear hk); (try clear hi)) | (go_at_call 24; (with_reducible refine (redpencillaw09_of.calls 1 2 0 5 0 t237 t238 t239 t240 t241 t242 _ A83.out).mono ?_); rintro e w99 ⟨rfl, hb⟩; have n0_ := Aside0.mk (blk_below (g := gb186) (o := .cells #[.int .i64 t174, .int .i64 t175, .int .i64 t176, .int .i64 t177, .int .i64 t178, .int .i32 t179] 25 (0, 0)) (by (with_reducible repeat (first | refine blk_drewN ?_ _ | refine blk_drew ?_ | refine blk_alloc ?_ _)); exact BK186.out) hb); have n1_ := Aside0.mk (blk_below (g := gb187) (o := .cells #[.int .i64 t180, .int .i64 t181, .int .i64 t182, .int .i64 t183, .int .i64 t184, .int .i32 t185] 25 (0, 0)) (by (with_reducible repeat (first | refine blk_drewN ?_ _ | refine blk_drew ?_ | refine blk_alloc ?_ _)); exact BK187.out) hb); have n2_ := Aside0.mk (blk_below (g := gb188) (o := .cells #[.int .i64 0, .int .i64 0, .int .i64 0, .int .i64 0, .int .i64 0, .int .i32 0] 25 (0, 0)) (by (with_reducible repeat (first | refine blk_drewN ?_ _ | refine blk_drew ?_ | refine blk_alloc ?_ _)); exact BK188.out) hb); have n3_ := Aside0.mk (below_step (by repeat (first | (with_reducible first | exact HB.out | apply below_alloc | apply pw_below_drewN | apply below_drew1 | refine below_set ?_ GE186.out | refine below_set ?_ GE187.out | refine below_set ?_ GE188.out) | exact HB.out)) hb); clear BK186; clear BK187; clear BK188; clear HB; have BK186 := n0_; have BK187 := n1_; have BK188 := n2_; have HB := n3_; clear n0_ n1_ n2_ n3_; (try clear hb); (try clear hb2); (try clear hk); (try clear hi)) | (go_at_call 24; (with_reducible refine (redpencillaw09_of.calls 2 2 0 5 0 t243 t244 t245 t246 t247 t248 _ A84.out).mono ?_); rintro e w100 ⟨rfl, hb⟩; have n0_ := Aside0.mk (blk_below (g := gb186) (o := .cells #[.int .i64 t174, .int .i64 t175, .int .i64 t176, .int .i64 t177, .int .i64 t178, .int .i32 t179] 25 (0, 0)) (by (with_reducible repeat (first | refine blk_drewN ?_ _ | refine blk_drew ?_ | refine blk_alloc ?_ _)); exact BK186.out) hb); have n1_ := Aside0.mk (blk_below (g := gb187) (o := .cells #[.int .i64 t180, .int .i64 t181, .int .i64 t182, .int .i64 t183, .int .i64 t184, .int .i32 t185] 25 (0, 0)) (by (with_reducible repeat (first | refine blk_drewN ?_ _ | refine blk_drew ?_ | refine blk_alloc ?_ _)); exact BK187.out) hb); have n2_ := Aside0.mk (blk_below (g := gb188) (o := .cells #[.int .i64 0, .int .i64 0, .int .i64 0, .int .i64 0, .int .i64 0, .int .i32 0] 25 (0, 0)) (by (with_reducible repeat (first | refine blk_drewN ?_ _ | refine blk_drew ?_ | refine blk_alloc ?_ _)); exact BK188.out) hb); have n3_ := Aside0.mk (below_step (by repeat (first | (with_reducible first | exact HB.out | apply below_alloc | apply pw_below_drewN | apply below_drew1 | refine below_set ?_ GE186.out | refine below_set ?_ GE187.out | refine below_set ?_ GE188.out) | exact HB.out)) hb); clear BK186; clear BK187; clear BK188; clear HB; have BK186 := n0_; have BK187 := n1_; have BK188 := n2_; have HB := n3_; clear n0_ n1_ n2_ n3_; (try clear hb); (try clear hb2); (try clear hk); (try clear hi)) | (go_at_call 14; (with_reducible refine (node_Before.calls kj2 t237 t238 t239 t240 t241 t242 t243 t244 t245 t246 t247 t248 false _ A85.out).mono ?_); rintro e w101 ⟨rfl, hb⟩; have n0_ := Aside0.mk (blk_below (g := gb186) (o := .cells #[.int .i64 t174, .int .i64 t175, .int .i64 t176, .int .i64 t177, .int .i64 t178, .int .i32 t179] 25 (0, 0)) (by (with_reducible repeat (first | refine blk_drewN ?_ _ | refine blk_drew ?_ | refine blk_alloc ?_ _)); exact BK186.out) hb); have n1_ := Aside0.mk (blk_below (g := gb187) (o := .cells #[.int .i64 t180, .int .i64 t181, .int .i64 t182, .int .i64 t183, .int .i64 t184, .int .i32 t185] 25 (0, 0)) (by (with_reducible repeat (first | refine blk_drewN ?_ _ | refine blk_drew ?_ | refine blk_alloc ?_ _)); exact BK187.out) hb); have n2_ := Aside0.mk (blk_below (g := gb188) (o := .cells #[.int .i64 0, .int .i64 0, .int .i64 0, .int .i64 0, .int .i64 0, .int .i32 0] 25 (0, 0)) (by (with_reducible repeat (first | refine blk_drewN ?_ _ | refine blk_drew ?_ | refine blk_alloc ?_ _)); exact BK188.out) hb); have n3_ := Aside0.mk (below_step (by repeat (first | (with_reducible first | exact HB.out | apply below_alloc | apply pw_below_drewN | apply below_drew1 | refine below_set ?_ GE186.out | refine below_set ?_ GE187.out | refine below_set ?_ GE188.out) | exact HB.out)) hb); clear BK186; clear BK187; clear BK188; clear HB; have BK186 := n0_; have BK187 := n1_; have BK188 := n2_; have HB := n3_; clear n0_ n1_ n2_ n3_; (try clear hb); (try clear hb2); (try clear hk); (try clear hi)) | (go_at_call 24; (with_reducible refine (redpencillaw09_of.calls 1 1 0 5 0 t250 t251 t252 t253 t254 t255 _ A93.out).mono ?_); rintro e w102 ⟨rfl, hb⟩; have n0_ := Aside0.mk (blk_below (g := gb186) (o := .cells #[.int .i64 t174, .int .i64 t175, .int .i64 t176, .int .i64 t177, .int .i64 t178, .int .i32 t179] 25 (0, 0)) (by (with_reducible repeat (first | refine blk_drewN ?_ _ | refine blk_drew ?_ | refine blk_alloc ?_ _)); exact BK186.out) hb); have n1_ := Aside0.mk (blk_below (g := gb187) (o := .cells #[.int .i64 t180, .int .i64 t181, .int .i64 t182, .int .i64 t183, .int .i64 t184, .int .i32 t185] 25 (0, 0)) (by (with_reducible repeat (first | refine blk_drewN ?_ _ | refine blk_drew ?_ | refine blk_alloc ?_ _)); exact BK187.out) hb); have n2_ := Aside0.mk (blk_below (g := gb188) (o := .cells #[.int .i64 0, .int .i64 0, .int .i64 0, .int .i64 0, .int .i64 0, .int .i32 0] 25 (0, 0)) (by (with_reducible repeat (first | refine blk_drewN ?_ _ | refine blk_drew ?_ | refine blk_alloc ?_ _)); exact BK188.out) hb); have n3_ := Aside0.mk (below_step (by repeat (first | (with_reducible first | exact HB.out | apply below_alloc | apply pw_below_drewN | apply below_drew1 | refine below_set ?_ GE186.out | refine below_set ?_ GE187.out | refine below_set ?_ GE188.out) | exact HB.out)) hb); clear BK186; clear BK187; clear BK188; clear HB; have BK186 := n0_; have BK187 := n1_; have BK188 := n2_; have HB := n3_; clear n0_ n1_ n2_ n3_; (try clear hb); (try clear hb2); (try clear hk); (try clear hi)) | (go_at_call 24; (with_reducible refine (redpencillaw09_of.calls 1 1 0 5 0 t250 t251 t252 t253 t254 t255 _ A94.out).mono ?_); rintro e w103 ⟨rfl, hb⟩; have n0_ := Aside0.mk (blk_below (g := gb186) (o := .cells #[.int .i64 t174, .int .i64 t175, .int .i64 t176, .int .i64 t177, .int .i64 t178, .int .i32 t179] 25 (0, 0)) (by (with_reducible repeat (first | refine blk_drewN ?_ _ | refine blk_drew ?_ | refine blk_alloc ?_ _)); exact BK186.out) hb); have n1_ := Aside0.mk (blk_below (g := gb187) (o := .cells #[.int .i64 t180, .int .i64 t181, .int .i64 t182, .int .i64 t183, .int .i64 t184, .int .i32 t185] 25 (0, 0)) (by (with_reducible repeat (first | refine blk_drewN ?_ _ | refine blk_drew ?_ | refine blk_alloc ?_ _)); exact BK187.out) hb); have n2_ := Aside0.mk (blk_below (g := gb188) (o := .cells #[.int .i64 0, .int .i64 0, .int .i64 0, .int .i64 0, .int .i64 0, .int .i32 0] 25 (0, 0)) (by (with_reducible repeat (first | refine blk_drewN ?_ _ | refine blk_drew ?_ | refine blk_alloc ?_ _)); exact BK188.out) hb); have n3_ := Aside0.mk (below_step (by repeat (first | (with_reducible first | exact HB.out | apply below_alloc | apply pw_below_drewN | apply below_drew1 | refine below_set ?_ GE186.out | refine below_set ?_ GE187.out | refine below_set ?_ GE188.out) | exact HB.out)) hb); clear BK186; clear BK187; clear BK188; clear HB; have BK186 := n0_; have BK187 := n1_; have BK188 := n2_; have HB := n3_; clear n0_ n1_ n2_ n3_; (try clear hb); (try clear hb2); (try clear hk); (try clear hi)) | (go_at_call 14; (with_reducible refine (node_Before.calls kj2 t250 t251 t252 t253 t254 t255 t250 t251 t252 t253 t254 t255 t262 _ A95.out).mono ?_); rintro e w104 ⟨rfl, hb⟩; have n0_ := Aside0.mk (blk_below (g := gb186) (o := .cells #[.int .i64 t174, .int .i64 t175, .int .i64 t176, .int .i64 t177, .int .i64 t178, .int .i32 t179] 25 (0, 0)) (by (with_reducible repeat (first | refine blk_drewN ?_ _ | refine blk_drew ?_ | refine blk_alloc ?_ _)); exact BK186.out) hb); have n1_ := Aside0.mk (blk_below (g := gb187) (o := .cells #[.int .i64 t180, .int .i64 t181, .int .i64 t182, .int .i64 t183, .int .i64 t184, .int .i32 t185] 25 (0, 0)) (by (with_reducible repeat (first | refine blk_drewN ?_ _ | refine blk_drew ?_ | refine blk_alloc ?_ _)); exact BK187.out) hb); have n2_ := Aside0.mk (blk_below (g := gb188) (o := .cells #[.int .i64 0, .int .i64 0, .int .i64 0, .int .i64 0, .int .i64 0, .int .i32 0] 25 (0, 0)) (by (with_reducible repeat (first | refine blk_drewN ?_ _ | refine blk_drew ?_ | refine blk_alloc ?_ _)); exact BK188.out) hb); have n3_ := Aside0.mk (below_step (by repeat (first | (with_reducible first | exact HB.out | apply below_alloc | apply pw_below_drewN | apply below_drew1 | refine below_set ?_ GE186.out | refine below_set ?_ GE187.out | refine below_set ?_ GE188.out) | exact HB.out)) hb); clear BK186; clear BK187; clear BK188; clear HB; have BK186 := n0_; have BK187 := n1_; have BK188 := n2_; have HB := n3_; clear n0_ n1_ n2_ n3_; (try clear hb); (try clear hb2); (try clear hk); (try clear hi)))
       go_meet
       case rel => exact ⟨_, (t262), (by first | rfl | (simp; done) | (simp [*]; done)), H', ⟨by have := HJ2.out; first | omega | exact Nat.le_refl _⟩, ⟨by (with_reducible repeat (first | refine blk_drewN ?_ _ | refine blk_drew ?_ | refine blk_alloc ?_ _)); exact BK186.out⟩, ⟨by (with_reducible repeat (first | refine blk_drewN ?_ _ | refine blk_drew ?_ | refine blk_alloc ?_ _)); exact BK187.out⟩, ⟨by (with_reducible repeat (first | refine blk_drewN ?_ _ | refine blk_drew ?_ | refine blk_alloc ?_ _)); exact BK188.out⟩, ⟨by repeat (first | (with_reducible first | exact HB.out | apply below_alloc | apply pw_below_drewN | apply below_drew1 | refine below_set ?_ GE186.out | refine below_set ?_ GE187.out | refine below_set ?_ GE188.out) | exact HB.out)⟩⟩
     ·
      replace c82 := Bool.eq_false_iff.mpr c82
      subst c82
      have H1 : (redpencillaw09_known.j1 kj2 true t174 t175 t176 t177 t178 t179 t180 t181 t182 t183 t184 t185 0 0 0 0 0 0) = some true := by rw [if_neg (show ¬ (false = true) by decide)] at H; exact H
      exact absurd H1 (redpencillaw09_known.j1_no _ _ _ _ _ _ _ _ _ _ _ _ _ _ _ _ _ _ _)
    case rest =>
     clear HC78
     try clear c1
     try clear c2
     try clear p2
     try clear c7
     try clear c8
     try clear c14
     try clear c16
     try clear c19
     try clear c24
     try clear c77
     try clear c82
     try clear c86
     try clear p2
     obtain ⟨kq, x47_77, rfl, HA, HJ77, BK186, BK187, BK188, HB⟩ := hcut
     cases kq with
     | zero => exact absurd HA.out (by simp [redpencillaw09_known.j1])
     | succ kj77 =>
      have H := HA.out
      clear HA
      simp only [redpencillaw09_known.j1] at H
      by_cases c108 : x47_77 = true
      ·
       subst c108
       have H1 : (some false) = some true := by rw [if_pos rfl] at H; exact H
       exact absurd H1 (by simp)
      ·
       replace c108 := Bool.eq_false_iff.mpr c108
       subst c108
       have H1 : ((redpencillaw09_merges.f kj77 t174 t175 t176 t177 t178 t179 t180 t181 t182 t183 t184 t185 t180 t181 t182 t183 t184 t185 0).bind fun t263 => (if t263 = true then ((redpencillaw09_of.f 1 1 0 1 98).bind fun bt264 => ((redpencillaw09_merges.f kj77 t174 t175 t176 t177 t178 t179 bt264.1 bt264.2.1 bt264.2.2.1 bt264.2.2.2.1 bt264.2.2.2.2.1 bt264.2.2.2.2.2 0 0 0 0 0 0 15).bind fun t270 => (if t270 = true then ((redpencillaw09_of.f 1 1 0 2 0).bind fun bt271 => ((redpencillaw09_merges.f kj77 t180 t181 t182 t183 t184 t185 bt271.1 bt271.2.1 bt271.2.2.1 bt271.2.2.2.1 bt271.2.2.2.2.1 bt271.2.2.2.2.2 0 0 0 0 0 0 15).bind fun t277 => (if t277 = true then ((redpencillaw09_of.f 1 1 0 0 0).bind fun bt278 => ((redpencillaw09_merges.f kj77 t180 t181 t182 t183 t184 t185 bt278.1 bt278.2.1 bt278.2.2.1 bt278.2.2.2.1 bt278.2.2.2.2.1 bt278.2.2.2.2.2 0 0 0 0 0 0 2).bind fun t284 => (redpencillaw09_known.j2 kj77 (!t284) 0 0 0 0 0 0))) else (redpencillaw09_known.j2 kj77 true 0 0 0 0 0 0)))) else (redpencillaw09_known.j2 kj77 true 0 0 0 0 0 0)))) else (redpencillaw09_known.j2 kj77 true 0 0 0 0 0 0))) = some true := by rw [if_neg (show ¬ (false = true) by decide)] at H; exact H
       clear H
       have H := H1
       clear H1
       have HC109 := Aside0.mk H
       clear H
       go_upto_region 6 with (fail)
       go_cut [73] (fun v73 wc => ∃ (kq : Nat) (x73_108 : Bool), v73 = .bool x73_108 ∧ Aside0 (redpencillaw09_known.j2 kq x73_108 0 0 0 0 0 0 = some true) ∧ Aside0 (kq ≤ kj77) ∧ Aside0 (wc.heap[gb186]? = some (.cells #[.int .i64 t174, .int .i64 t175, .int .i64 t176, .int .i64 t177, .int .i64 t178, .int .i32 t179] 25 (0, 0))) ∧ Aside0 (wc.heap[gb187]? = some (.cells #[.int .i64 t180, .int .i64 t181, .int .i64 t182, .int .i64 t183, .int .i64 t184, .int .i32 t185] 25 (0, 0))) ∧ Aside0 (wc.heap[gb188]? = some (.cells #[.int .i64 0, .int .i64 0, .int .i64 0, .int .i64 0, .int .i64 0, .int .i32 0] 25 (0, 0))) ∧ Aside0 (Below w.heap.size w wc))
       case first =>
        have H := HC109.out
        clear HC109
        replace H := Option.bind_eq_some_iff.mp H
        obtain ⟨t263, A1100, H⟩ := H
        replace H : (if t263 = true then ((redpencillaw09_of.f 1 1 0 1 98).bind fun bt264 => ((redpencillaw09_merges.f kj77 t174 t175 t176 t177 t178 t179 bt264.1 bt264.2.1 bt264.2.2.1 bt264.2.2.2.1 bt264.2.2.2.2.1 bt264.2.2.2.2.2 0 0 0 0 0 0 15).bind fun t270 => (if t270 = true then ((redpencillaw09_of.f 1 1 0 2 0).bind fun bt271 => ((redpencillaw09_merges.f kj77 t180 t181 t182 t183 t184 t185 bt271.1 bt271.2.1 bt271.2.2.1 bt271.2.2.2.1 bt271.2.2.2.2.1 bt271.2.2.2.2.2 0 0 0 0 0 0 15).bind fun t277 => (if t277 = true then ((redpencillaw09_of.f 1 1 0 0 0).bind fun bt278 => ((redpencillaw09_merges.f kj77 t180 t181 t182 t183 t184 t185 bt278.1 bt278.2.1 bt278.2.2.1 bt278.2.2.2.1 bt278.2.2.2.2.1 bt278.2.2.2.2.2 0 0 0 0 0 0 2).bind fun t284 => (redpencillaw09_known.j2 kj77 (!t284) 0 0 0 0 0 0))) else (redpencillaw09_known.j2 kj77 true 0 0 0 0 0 0)))) else (redpencillaw09_known.j2 kj77 true 0 0 0 0 0 0)))) else (redpencillaw09_known.j2 kj77 true 0 0 0 0 0 0)) = some true := H
        have A110 := Aside0.mk A1100
        clear A1100
        by_cases c111 : t263 = true
        ·
         subst c111
         have H1 : ((redpencillaw09_of.f 1 1 0 1 98).bind fun bt264 => ((redpencillaw09_merges.f kj77 t174 t175 t176 t177 t178 t179 bt264.1 bt264.2.1 bt264.2.2.1 bt264.2.2.2.1 bt264.2.2.2.2.1 bt264.2.2.2.2.2 0 0 0 0 0 0 15).bind fun t270 => (if t270 = true then ((redpencillaw09_of.f 1 1 0 2 0).bind fun bt271 => ((redpencillaw09_merges.f kj77 t180 t181 t182 t183 t184 t185 bt271.1 bt271.2.1 bt271.2.2.1 bt271.2.2.2.1 bt271.2.2.2.2.1 bt271.2.2.2.2.2 0 0 0 0 0 0 15).bind fun t277 => (if t277 = true then ((redpencillaw09_of.f 1 1 0 0 0).bind fun bt278 => ((redpencillaw09_merges.f kj77 t180 t181 t182 t183 t184 t185 bt278.1 bt278.2.1 bt278.2.2.1 bt278.2.2.2.1 bt278.2.2.2.2.1 bt278.2.2.2.2.2 0 0 0 0 0 0 2).bind fun t284 => (redpencillaw09_known.j2 kj77 (!t284) 0 0 0 0 0 0))) else (redpencillaw09_known.j2 kj77 true 0 0 0 0 0 0)))) else (redpencillaw09_known.j2 kj77 true 0 0 0 0 0 0)))) = some true := by rw [if_pos rfl] at H; exact H
         clear H
         have H := H1
         clear H1
         replace H := Option.bind_eq_some_iff.mp H
         obtain ⟨⟨t264, t265, t266, t267, t268, t269⟩, A1120, H⟩ := H
         replace H : ((redpencillaw09_merges.f kj77 t174 t175 t176 t177 t178 t179 t264 t265 t266 t267 t268 t269 0 0 0 0 0 0 15).bind fun t270 => (if t270 = true then ((redpencillaw09_of.f 1 1 0 2 0).bind fun bt271 => ((redpencillaw09_merges.f kj77 t180 t181 t182 t183 t184 t185 bt271.1 bt271.2.1 bt271.2.2.1 bt271.2.2.2.1 bt271.2.2.2.2.1 bt271.2.2.2.2.2 0 0 0 0 0 0 15).bind fun t277 => (if t277 = true then ((redpencillaw09_of.f 1 1 0 0 0).bind fun bt278 => ((redpencillaw09_merges.f kj77 t180 t181 t182 t183 t184 t185 bt278.1 bt278.2.1 bt278.2.2.1 bt278.2.2.2.1 bt278.2.2.2.2.1 bt278.2.2.2.2.2 0 0 0 0 0 0 2).bind fun t284 => (redpencillaw09_known.j2 kj77 (!t284) 0 0 0 0 0 0))) else (redpencillaw09_known.j2 kj77 true 0 0 0 0 0 0)))) else (redpencillaw09_known.j2 kj77 true 0 0 0 0 0 0))) = some true := H
         have A112 := Aside0.mk A1120
         clear A1120
         replace H := Option.bind_eq_some_iff.mp H
         obtain ⟨t270, A1130, H⟩ := H
         replace H : (if t270 = true then ((redpencillaw09_of.f 1 1 0 2 0).bind fun bt271 => ((redpencillaw09_merges.f kj77 t180 t181 t182 t183 t184 t185 bt271.1 bt271.2.1 bt271.2.2.1 bt271.2.2.2.1 bt271.2.2.2.2.1 bt271.2.2.2.2.2 0 0 0 0 0 0 15).bind fun t277 => (if t277 = true then ((redpencillaw09_of.f 1 1 0 0 0).bind fun bt278 => ((redpencillaw09_merges.f kj77 t180 t181 t182 t183 t184 t185 bt278.1 bt278.2.1 bt278.2.2.1 bt278.2.2.2.1 bt278.2.2.2.2.1 bt278.2.2.2.2.2 0 0 0 0 0 0 2).bind fun t284 => (redpencillaw09_known.j2 kj77 (!t284) 0 0 0 0 0 0))) else (redpencillaw09_known.j2 kj77 true 0 0 0 0 0 0)))) else (redpencillaw09_known.j2 kj77 true 0 0 0 0 0 0)) = some true := H
         have A113 := Aside0.mk A1130
         clear A1130
         by_cases c114 : t270 = true
         ·
          subst c114
          have H1 : ((redpencillaw09_of.f 1 1 0 2 0).bind fun bt271 => ((redpencillaw09_merges.f kj77 t180 t181 t182 t183 t184 t185 bt271.1 bt271.2.1 bt271.2.2.1 bt271.2.2.2.1 bt271.2.2.2.2.1 bt271.2.2.2.2.2 0 0 0 0 0 0 15).bind fun t277 => (if t277 = true then ((redpencillaw09_of.f 1 1 0 0 0).bind fun bt278 => ((redpencillaw09_merges.f kj77 t180 t181 t182 t183 t184 t185 bt278.1 bt278.2.1 bt278.2.2.1 bt278.2.2.2.1 bt278.2.2.2.2.1 bt278.2.2.2.2.2 0 0 0 0 0 0 2).bind fun t284 => (redpencillaw09_known.j2 kj77 (!t284) 0 0 0 0 0 0))) else (redpencillaw09_known.j2 kj77 true 0 0 0 0 0 0)))) = some true := by rw [if_pos rfl] at H; exact H
          clear H
          have H := H1
          clear H1
          replace H := Option.bind_eq_some_iff.mp H
          obtain ⟨⟨t271, t272, t273, t274, t275, t276⟩, A1150, H⟩ := H
          replace H : ((redpencillaw09_merges.f kj77 t180 t181 t182 t183 t184 t185 t271 t272 t273 t274 t275 t276 0 0 0 0 0 0 15).bind fun t277 => (if t277 = true then ((redpencillaw09_of.f 1 1 0 0 0).bind fun bt278 => ((redpencillaw09_merges.f kj77 t180 t181 t182 t183 t184 t185 bt278.1 bt278.2.1 bt278.2.2.1 bt278.2.2.2.1 bt278.2.2.2.2.1 bt278.2.2.2.2.2 0 0 0 0 0 0 2).bind fun t284 => (redpencillaw09_known.j2 kj77 (!t284) 0 0 0 0 0 0))) else (redpencillaw09_known.j2 kj77 true 0 0 0 0 0 0))) = some true := H
          have A115 := Aside0.mk A1150
          clear A1150
          replace H := Option.bind_eq_some_iff.mp H
          obtain ⟨t277, A1160, H⟩ := H
          replace H : (if t277 = true then ((redpencillaw09_of.f 1 1 0 0 0).bind fun bt278 => ((redpencillaw09_merges.f kj77 t180 t181 t182 t183 t184 t185 bt278.1 bt278.2.1 bt278.2.2.1 bt278.2.2.2.1 bt278.2.2.2.2.1 bt278.2.2.2.2.2 0 0 0 0 0 0 2).bind fun t284 => (redpencillaw09_known.j2 kj77 (!t284) 0 0 0 0 0 0))) else (redpencillaw09_known.j2 kj77 true 0 0 0 0 0 0)) = some true := H
          have A116 := Aside0.mk A1160
          clear A1160
          by_cases c117 : t277 = true
          ·
           subst c117
           have H1 : ((redpencillaw09_of.f 1 1 0 0 0).bind fun bt278 => ((redpencillaw09_merges.f kj77 t180 t181 t182 t183 t184 t185 bt278.1 bt278.2.1 bt278.2.2.1 bt278.2.2.2.1 bt278.2.2.2.2.1 bt278.2.2.2.2.2 0 0 0 0 0 0 2).bind fun t284 => (redpencillaw09_known.j2 kj77 (!t284) 0 0 0 0 0 0))) = some true := by rw [if_pos rfl] at H; exact H
           clear H
           have H := H1
           clear H1
           replace H := Option.bind_eq_some_iff.mp H
           obtain ⟨⟨t278, t279, t280, t281, t282, t283⟩, A1180, H⟩ := H
           replace H : ((redpencillaw09_merges.f kj77 t180 t181 t182 t183 t184 t185 t278 t279 t280 t281 t282 t283 0 0 0 0 0 0 2).bind fun t284 => (redpencillaw09_known.j2 kj77 (!t284) 0 0 0 0 0 0)) = some true := H
           have A118 := Aside0.mk A1180
           clear A1180
           replace H := Option.bind_eq_some_iff.mp H
           obtain ⟨t284, A1190, H⟩ := H
           replace H : (redpencillaw09_known.j2 kj77 (!t284) 0 0 0 0 0 0) = some true := H
           have A119 := Aside0.mk A1190
           clear A1190
           have H' := Aside0.mk H
           clear H
           try go_wp2
           have n0_ := Aside0.mk (blk_drew BK186.out)
           have n1_ := Aside0.mk (blk_drew BK187.out)
           have n2_ := Aside0.mk (blk_drew BK188.out)
           have n3_ := Aside0.mk (below_drew1 HB.out)
           clear BK186
           clear BK187
           clear BK188
           clear HB
           have BK186 := n0_
           have BK187 := n1_
           have BK188 := n2_
           have HB := n3_
           clear n0_ n1_ n2_ n3_
           refine start_ (n := 26) (S := fun w' => w'.cell? ⟨gb186, 0, none⟩ = some (.int .i64 t174) ∧ w'.cell? ⟨gb186, 1, none⟩ = some (.int .i64 t175) ∧ w'.cell? ⟨gb186, 2, none⟩ = some (.int .i64 t176) ∧ w'.cell? ⟨gb186, 3, none⟩ = some (.int .i64 t177) ∧ w'.cell? ⟨gb186, 4, none⟩ = some (.int .i64 t178) ∧ w'.cell? ⟨gb186, 5, none⟩ = some (.int .i32 t179) ∧ w'.cell? ⟨gb187, 0, none⟩ = some (.int .i64 t180) ∧ w'.cell? ⟨gb187, 1, none⟩ = some (.int .i64 t181) ∧ w'.cell? ⟨gb187, 2, none⟩ = some (.int .i64 t182) ∧ w'.cell? ⟨gb187, 3, none⟩ = some (.int .i64 t183) ∧ w'.cell? ⟨gb187, 4, none⟩ = some (.int .i64 t184) ∧ w'.cell? ⟨gb187, 5, none⟩ = some (.int .i32 t185) ∧ w'.cell? ⟨gb188, 0, none⟩ = some (.int .i64 0) ∧ w'.cell? ⟨gb188, 1, none⟩ = some (.int .i64 0) ∧ w'.cell? ⟨gb188, 2, none⟩ = some (.int .i64 0) ∧ w'.cell? ⟨gb188, 3, none⟩ = some (.int .i64 0) ∧ w'.cell? ⟨gb188, 4, none⟩ = some (.int .i64 0) ∧ w'.cell? ⟨gb188, 5, none⟩ = some (.int .i32 0)) (ds := []) #[false, false, false, false, false, false, false, false, false, false, false, false, false, false, false, false, false, false, false, false, false, false, false, false, false, false] (by kernel_rfl) rfl rfl ⟨(blk_cell BK186.out 0).trans rfl, (blk_cell BK186.out 1).trans rfl, (blk_cell BK186.out 2).trans rfl, (blk_cell BK186.out 3).trans rfl, (blk_cell BK186.out 4).trans rfl, (blk_cell BK186.out 5).trans rfl, (blk_cell BK187.out 0).trans rfl, (blk_cell BK187.out 1).trans rfl, (blk_cell BK187.out 2).trans rfl, (blk_cell BK187.out 3).trans rfl, (blk_cell BK187.out 4).trans rfl, (blk_cell BK187.out 5).trans rfl, (blk_cell BK188.out 0).trans rfl, (blk_cell BK188.out 1).trans rfl, (blk_cell BK188.out 2).trans rfl, (blk_cell BK188.out 3).trans rfl, (blk_cell BK188.out 4).trans rfl, (blk_cell BK188.out 5).trans rfl⟩ (fun hHeld => ?_); refine with_tabW redpencillaw09_known.tab6 redpencillaw09_known.bits6 (fun HT_ HW_ => ?_)
           generalize wc.drew = w120 at BK186 BK187 BK188 HB hHeld ⊢
           refine take_ (i := 0) (N := some 48) (v := ?_) (a' := ?_) #[true, false, false, false, false, false, false, false, false, false, false, false, false, false, false, false, false, false, false, false, false, false, false, false, false, false] rfl rfl (take_ofW HT_.out HW_.out (by kernel_rfl)) (fun _ _ _ h => h) (Or.inl ⟨by rfl, ?_⟩) hHeld ?_ ?_
           rotate_left
           ·
            rintro w' ⟨s0, s1, s2, s3, s4, s5, s6, s7, s8, s9, s10, s11, s12, s13, s14, s15, s16, s17⟩
            go_simp
            with_reducible rfl
           rotate_left
           ·
            simp only [Act.put, List.setIfInBounds_toArray, List.set_cons_zero, List.set_cons_succ, i64_w, i32_w]
            rfl
           refine take_ (i := 1) (N := some 49) (v := ?_) (a' := ?_) #[true, true, false, false, false, false, false, false, false, false, false, false, false, false, false, false, false, false, false, false, false, false, false, false, false, false] rfl rfl (take_ofW HT_.out HW_.out (by kernel_rfl)) (fun _ _ _ h => h) (Or.inl ⟨by rfl, ?_⟩) hHeld ?_ ?_
           rotate_left
           ·
            rintro w' ⟨s0, s1, s2, s3, s4, s5, s6, s7, s8, s9, s10, s11, s12, s13, s14, s15, s16, s17⟩
            go_simp
            with_reducible rfl
           rotate_left
           ·
            simp only [Act.put, List.setIfInBounds_toArray, List.set_cons_zero, List.set_cons_succ, i64_w, i32_w]
            rfl
           refine take_ (i := 2) (N := some 50) (v := ?_) (a' := ?_) #[true, true, true, false, false, false, false, false, false, false, false, false, false, false, false, false, false, false, false, false, false, false, false, false, false, false] rfl rfl (take_ofW HT_.out HW_.out (by kernel_rfl)) (fun _ _ _ h => h) (Or.inl ⟨by rfl, ?_⟩) hHeld ?_ ?_
           rotate_left
           ·
            rintro w' ⟨s0, s1, s2, s3, s4, s5, s6, s7, s8, s9, s10, s11, s12, s13, s14, s15, s16, s17⟩
            go_simp
            with_reducible rfl
           rotate_left
           ·
            simp only [Act.put, List.setIfInBounds_toArray, List.set_cons_zero, List.set_cons_succ, i64_w, i32_w]
            rfl
           refine one_ (i := 3) (N := some 51) #[true, true, true, true, false, false, false, false, false, false, false, false, false, false, false, false, false, false, false, false, false, false, false, false, false, false] rfl rfl (one_of HT_.out (by kernel_rfl)) (by decide) (fun K hK => ?_)
           refine goes_ Tryz.func17 (by kernel_rfl) rfl #[.agg #[.int .i64 t174, .int .i64 t175, .int .i64 t176, .int .i64 t177, .int .i64 t178, .int .i32 t179], .agg #[.int .i64 t180, .int .i64 t181, .int .i64 t182, .int .i64 t183, .int .i64 t184, .int .i32 t185], .agg #[.int .i64 t180, .int .i64 t181, .int .i64 t182, .int .i64 t183, .int .i64 t184, .int .i32 t185], .int .i64 0] (by rfl) rfl rfl (by (try simp only [List.map_toArray, List.map_cons, List.map_nil]); first | done | rfl | (simp only [List.length_drop, List.length_take]; rfl)) ?_
           with_reducible refine (redpencillaw09_merges.calls kj77 t174 t175 t176 t177 t178 t179 t180 t181 t182 t183 t184 t185 t180 t181 t182 t183 t184 t185 0 true _ A110.out).mono ?_
           rintro e w121 ⟨rfl, hb⟩
           refine ⟨_, rfl, ?_⟩
           have n0_ := Aside0.mk (blk_below (g := gb186) (o := .cells #[.int .i64 t174, .int .i64 t175, .int .i64 t176, .int .i64 t177, .int .i64 t178, .int .i32 t179] 25 (0, 0)) (by (with_reducible repeat (first | refine blk_drewN ?_ _ | refine blk_drew ?_ | refine blk_alloc ?_ _)); exact BK186.out) hb)
           have n1_ := Aside0.mk (blk_below (g := gb187) (o := .cells #[.int .i64 t180, .int .i64 t181, .int .i64 t182, .int .i64 t183, .int .i64 t184, .int .i32 t185] 25 (0, 0)) (by (with_reducible repeat (first | refine blk_drewN ?_ _ | refine blk_drew ?_ | refine blk_alloc ?_ _)); exact BK187.out) hb)
           have n2_ := Aside0.mk (blk_below (g := gb188) (o := .cells #[.int .i64 0, .int .i64 0, .int .i64 0, .int .i64 0, .int .i64 0, .int .i32 0] 25 (0, 0)) (by (with_reducible repeat (first | refine blk_drewN ?_ _ | refine blk_drew ?_ | refine blk_alloc ?_ _)); exact BK188.out) hb)
           have n3_ := Aside0.mk (below_step (by repeat (first | (with_reducible first | exact HB.out | apply below_alloc | apply pw_below_drewN | apply below_drew1 | refine below_set ?_ GE186.out | refine below_set ?_ GE187.out | refine below_set ?_ GE188.out) | exact HB.out)) hb)
           clear BK186
           clear BK187
           clear BK188
           clear HB
           have BK186 := n0_
           have BK187 := n1_
           have BK188 := n2_
           have HB := n3_
           clear n0_ n1_ n2_ n3_
           (try clear hb)
           (try clear hb2)
           (try clear hk)
           (try clear hi)
           refine hK.out _ _ ⟨(blk_cell BK186.out 0).trans rfl, (blk_cell BK186.out 1).trans rfl, (blk_cell BK186.out 2).trans rfl, (blk_cell BK186.out 3).trans rfl, (blk_cell BK186.out 4).trans rfl, (blk_cell BK186.out 5).trans rfl, (blk_cell BK187.out 0).trans rfl, (blk_cell BK187.out 1).trans rfl, (blk_cell BK187.out 2).trans rfl, (blk_cell BK187.out 3).trans rfl, (blk_cell BK187.out 4).trans rfl, (blk_cell BK187.out 5).trans rfl, (blk_cell BK188.out 0).trans rfl, (blk_cell BK188.out 1).trans rfl, (blk_cell BK188.out 2).trans rfl, (blk_cell BK188.out 3).trans rfl, (blk_cell BK188.out 4).trans rfl, (blk_cell BK188.out 5).trans rfl⟩ (fun hHeld => ?_)
           clear hK K
           refine norm_ (a' := ?_) ?_ ?_
           rotate_left
           ·
            show Act.put _ (some 51) _ = _
            simp only [Act.put, List.setIfInBounds_toArray, List.set_cons_zero, List.set_cons_succ, i64_w, i32_w]
            rfl
           refine pure_ (i := 4) (N := some 52) (v := ?_) (a' := ?_) #[true, true, true, true, true, false, false, false, false, false, false, false, false, false, false, false, false, false, false, false, false, false, false, false, false, false] rfl rfl (any_of HT_.out (by kernel_rfl)) (fun _ _ _ h => h) (Or.inl ⟨by rfl, ?_⟩) ?_ ?_
           rotate_left
           ·
            intro w'
            go_simp
            with_reducible rfl
           rotate_left
           ·
            simp only [Act.put, List.setIfInBounds_toArray, List.set_cons_zero, List.set_cons_succ, i64_w, i32_w]
            rfl
           refine pure_ (i := 5) (N := some 53) (v := ?_) (a' := ?_) #[true, true, true, true, true, true, false, false, false, false, false, false, false, false, false, false, false, false, false, false, false, false, false, false, false, false] rfl rfl (any_of HT_.out (by kernel_rfl)) (fun _ _ _ h => h) (Or.inl ⟨by rfl, ?_⟩) ?_ ?_
           rotate_left
           ·
            intro w'
            go_simp
            with_reducible rfl
           rotate_left
           ·
            simp only [Act.put, List.setIfInBounds_toArray, List.set_cons_zero, List.set_cons_succ, i64_w, i32_w]
            rfl
           refine take_ (i := 6) (N := some 54) (v := ?_) (a' := ?_) #[true, true, true, true, true, true, true, false, false, false, false, false, false, false, false, false, false, false, false, false, false, false, false, false, false, false] rfl rfl (take_ofW HT_.out HW_.out (by kernel_rfl)) (fun _ _ _ h => h) (Or.inl ⟨by rfl, ?_⟩) hHeld ?_ ?_
           rotate_left
           ·
            rintro w' ⟨s0, s1, s2, s3, s4, s5, s6, s7, s8, s9, s10, s11, s12, s13, s14, s15, s16, s17⟩
            go_simp
            with_reducible rfl
           rotate_left
           ·
            simp only [Act.put, List.setIfInBounds_toArray, List.set_cons_zero, List.set_cons_succ, i64_w, i32_w]
            rfl
           refine take_ (i := 8) (N := some 56) (v := ?_) (a' := ?_) #[true, true, true, true, true, true, true, false, true, false, false, false, false, false, false, false, false, false, false, false, false, false, false, false, false, false] rfl rfl (take_ofW HT_.out HW_.out (by kernel_rfl)) (fun _ _ _ h => h) (Or.inl ⟨by rfl, ?_⟩) hHeld ?_ ?_
           rotate_left
           ·
            rintro w' ⟨s0, s1, s2, s3, s4, s5, s6, s7, s8, s9, s10, s11, s12, s13, s14, s15, s16, s17⟩
            go_simp
            with_reducible rfl
           rotate_left
           ·
            simp only [Act.put, List.setIfInBounds_toArray, List.set_cons_zero, List.set_cons_succ, i64_w, i32_w]
            rfl
           refine one_ (i := 7) (N := some 55) #[true, true, true, true, true, true, true, true, true, false, false, false, false, false, false, false, false, false, false, false, false, false, false, false, false, false] rfl rfl (one_of HT_.out (by kernel_rfl)) (by decide) (fun K hK => ?_)
           refine goes_ Tryz.func24 (by kernel_rfl) rfl #[.int .i64 1, .int .i64 1, .int .i64 0, .int .i64 1, .int .i32 98] (by rfl) rfl rfl (by (try simp only [List.map_toArray, List.map_cons, List.map_nil]); first | done | rfl | (simp only [List.length_drop, List.length_take]; rfl)) ?_
           with_reducible refine (redpencillaw09_of.calls 1 1 0 1 98 t264 t265 t266 t267 t268 t269 _ A112.out).mono ?_
           rintro e w122 ⟨rfl, hb⟩
           refine ⟨_, rfl, ?_⟩
           have n0_ := Aside0.mk (blk_below (g := gb186) (o := .cells #[.int .i64 t174, .int .i64 t175, .int .i64 t176, .int .i64 t177, .int .i64 t178, .int .i32 t179] 25 (0, 0)) (by (with_reducible repeat (first | refine blk_drewN ?_ _ | refine blk_drew ?_ | refine blk_alloc ?_ _)); exact BK186.out) hb)
           have n1_ := Aside0.mk (blk_below (g := gb187) (o := .cells #[.int .i64 t180, .int .i64 t181, .int .i64 t182, .int .i64 t183, .int .i64 t184, .int .i32 t185] 25 (0, 0)) (by (with_reducible repeat (first | refine blk_drewN ?_ _ | refine blk_drew ?_ | refine blk_alloc ?_ _)); exact BK187.out) hb)
           have n2_ := Aside0.mk (blk_below (g := gb188) (o := .cells #[.int .i64 0, .int .i64 0, .int .i64 0, .int .i64 0, .int .i64 0, .int .i32 0] 25 (0, 0)) (by (with_reducible repeat (first | refine blk_drewN ?_ _ | refine blk_drew ?_ | refine blk_alloc ?_ _)); exact BK188.out) hb)
           have n3_ := Aside0.mk (below_step (by repeat (first | (with_reducible first | exact HB.out | apply below_alloc | apply pw_below_drewN | apply below_drew1 | refine below_set ?_ GE186.out | refine below_set ?_ GE187.out | refine below_set ?_ GE188.out) | exact HB.out)) hb)
           clear BK186
           clear BK187
           clear BK188
           clear HB
           have BK186 := n0_
           have BK187 := n1_
           have BK188 := n2_
           have HB := n3_
           clear n0_ n1_ n2_ n3_
           (try clear hb)
           (try clear hb2)
           (try clear hk)
           (try clear hi)
           refine hK.out _ _ ⟨(blk_cell BK186.out 0).trans rfl, (blk_cell BK186.out 1).trans rfl, (blk_cell BK186.out 2).trans rfl, (blk_cell BK186.out 3).trans rfl, (blk_cell BK186.out 4).trans rfl, (blk_cell BK186.out 5).trans rfl, (blk_cell BK187.out 0).trans rfl, (blk_cell BK187.out 1).trans rfl, (blk_cell BK187.out 2).trans rfl, (blk_cell BK187.out 3).trans rfl, (blk_cell BK187.out 4).trans rfl, (blk_cell BK187.out 5).trans rfl, (blk_cell BK188.out 0).trans rfl, (blk_cell BK188.out 1).trans rfl, (blk_cell BK188.out 2).trans rfl, (blk_cell BK188.out 3).trans rfl, (blk_cell BK188.out 4).trans rfl, (blk_cell BK188.out 5).trans rfl⟩ (fun hHeld => ?_)
           clear hK K
           refine norm_ (a' := ?_) ?_ ?_
           rotate_left
           ·
            show Act.put _ (some 55) _ = _
            simp only [Act.put, List.setIfInBounds_toArray, List.set_cons_zero, List.set_cons_succ, i64_w, i32_w]
            rfl
           refine one_ (i := 9) (N := some 57) #[true, true, true, true, true, true, true, true, true, true, false, false, false, false, false, false, false, false, false, false, false, false, false, false, false, false] rfl rfl (one_of HT_.out (by kernel_rfl)) (by decide) (fun K hK => ?_)
           refine goes_ Tryz.func17 (by kernel_rfl) rfl #[.agg #[.int .i64 t174, .int .i64 t175, .int .i64 t176, .int .i64 t177, .int .i64 t178, .int .i32 t179], .agg #[.int .i64 t264, .int .i64 t265, .int .i64 t266, .int .i64 t267, .int .i64 t268, .int .i32 t269], .agg #[.int .i64 0, .int .i64 0, .int .i64 0, .int .i64 0, .int .i64 0, .int .i32 0], .int .i64 15] (by rfl) rfl rfl (by (try simp only [List.map_toArray, List.map_cons, List.map_nil]); first | done | rfl | (simp only [List.length_drop, List.length_take]; rfl)) ?_
           with_reducible refine (redpencillaw09_merges.calls kj77 t174 t175 t176 t177 t178 t179 t264 t265 t266 t267 t268 t269 0 0 0 0 0 0 15 true _ A113.out).mono ?_
           rintro e w123 ⟨rfl, hb⟩
           refine ⟨_, rfl, ?_⟩
           have n0_ := Aside0.mk (blk_below (g := gb186) (o := .cells #[.int .i64 t174, .int .i64 t175, .int .i64 t176, .int .i64 t177, .int .i64 t178, .int .i32 t179] 25 (0, 0)) (by (with_reducible repeat (first | refine blk_drewN ?_ _ | refine blk_drew ?_ | refine blk_alloc ?_ _)); exact BK186.out) hb)
           have n1_ := Aside0.mk (blk_below (g := gb187) (o := .cells #[.int .i64 t180, .int .i64 t181, .int .i64 t182, .int .i64 t183, .int .i64 t184, .int .i32 t185] 25 (0, 0)) (by (with_reducible repeat (first | refine blk_drewN ?_ _ | refine blk_drew ?_ | refine blk_alloc ?_ _)); exact BK187.out) hb)
           have n2_ := Aside0.mk (blk_below (g := gb188) (o := .cells #[.int .i64 0, .int .i64 0, .int .i64 0, .int .i64 0, .int .i64 0, .int .i32 0] 25 (0, 0)) (by (with_reducible repeat (first | refine blk_drewN ?_ _ | refine blk_drew ?_ | refine blk_alloc ?_ _)); exact BK188.out) hb)
           have n3_ := Aside0.mk (below_step (by repeat (first | (with_reducible first | exact HB.out | apply below_alloc | apply pw_below_drewN | apply below_drew1 | refine below_set ?_ GE186.out | refine below_set ?_ GE187.out | refine below_set ?_ GE188.out) | exact HB.out)) hb)
           clear BK186
           clear BK187
           clear BK188
           clear HB
           have BK186 := n0_
           have BK187 := n1_
           have BK188 := n2_
           have HB := n3_
           clear n0_ n1_ n2_ n3_
           (try clear hb)
           (try clear hb2)
           (try clear hk)
           (try clear hi)
           refine hK.out _ _ ⟨(blk_cell BK186.out 0).trans rfl, (blk_cell BK186.out 1).trans rfl, (blk_cell BK186.out 2).trans rfl, (blk_cell BK186.out 3).trans rfl, (blk_cell BK186.out 4).trans rfl, (blk_cell BK186.out 5).trans rfl, (blk_cell BK187.out 0).trans rfl, (blk_cell BK187.out 1).trans rfl, (blk_cell BK187.out 2).trans rfl, (blk_cell BK187.out 3).trans rfl, (blk_cell BK187.out 4).trans rfl, (blk_cell BK187.out 5).trans rfl, (blk_cell BK188.out 0).trans rfl, (blk_cell BK188.out 1).trans rfl, (blk_cell BK188.out 2).trans rfl, (blk_cell BK188.out 3).trans rfl, (blk_cell BK188.out 4).trans rfl, (blk_cell BK188.out 5).trans rfl⟩ (fun hHeld => ?_)
           clear hK K
           refine norm_ (a' := ?_) ?_ ?_
           rotate_left
           ·
            show Act.put _ (some 57) _ = _
            simp only [Act.put, List.setIfInBounds_toArray, List.set_cons_zero, List.set_cons_succ, i64_w, i32_w]
            rfl
           refine pure_ (i := 10) (N := some 58) (v := ?_) (a' := ?_) #[true, true, true, true, true, true, true, true, true, true, true, false, false, false, false, false, false, false, false, false, false, false, false, false, false, false] rfl rfl (any_of HT_.out (by kernel_rfl)) (fun _ _ _ h => h) (Or.inl ⟨by rfl, ?_⟩) ?_ ?_
           rotate_left
           ·
            intro w'
            go_simp
            with_reducible rfl
           rotate_left
           ·
            simp only [Act.put, List.setIfInBounds_toArray, List.set_cons_zero, List.set_cons_succ, i64_w, i32_w]
            rfl
           refine pure_ (i := 11) (N := some 59) (v := ?_) (a' := ?_) #[true, true, true, true, true, true, true, true, true, true, true, true, false, false, false, false, false, false, false, false, false, false, false, false, false, false] rfl rfl (any_of HT_.out (by kernel_rfl)) (fun _ _ _ h => h) (Or.inl ⟨by rfl, ?_⟩) ?_ ?_
           rotate_left
           ·
            intro w'
            go_simp
            with_reducible rfl
           rotate_left
           ·
            simp only [Act.put, List.setIfInBounds_toArray, List.set_cons_zero, List.set_cons_succ, i64_w, i32_w]
            rfl
           refine pure_ (i := 12) (N := some 60) (v := ?_) (a' := ?_) #[true, true, true, true, true, true, true, true, true, true, true, true, true, false, false, false, false, false, false, false, false, false, false, false, false, false] rfl rfl (any_of HT_.out (by kernel_rfl)) (fun _ _ _ h => h) (Or.inl ⟨by rfl, ?_⟩) ?_ ?_
           rotate_left
           ·
            intro w'
            go_simp
            with_reducible rfl
           rotate_left
           ·
            simp only [Act.put, List.setIfInBounds_toArray, List.set_cons_zero, List.set_cons_succ, i64_w, i32_w]
            rfl
           refine take_ (i := 13) (N := some 61) (v := ?_) (a' := ?_) #[true, true, true, true, true, true, true, true, true, true, true, true, true, true, false, false, false, false, false, false, false, false, false, false, false, false] rfl rfl (take_ofW HT_.out HW_.out (by kernel_rfl)) (fun _ _ _ h => h) (Or.inl ⟨by rfl, ?_⟩) hHeld ?_ ?_
           rotate_left
           ·
            rintro w' ⟨s0, s1, s2, s3, s4, s5, s6, s7, s8, s9, s10, s11, s12, s13, s14, s15, s16, s17⟩
            go_simp
            with_reducible rfl
           rotate_left
           ·
            simp only [Act.put, List.setIfInBounds_toArray, List.set_cons_zero, List.set_cons_succ, i64_w, i32_w]
            rfl
           refine take_ (i := 15) (N := some 63) (v := ?_) (a' := ?_) #[true, true, true, true, true, true, true, true, true, true, true, true, true, true, false, true, false, false, false, false, false, false, false, false, false, false] rfl rfl (take_ofW HT_.out HW_.out (by kernel_rfl)) (fun _ _ _ h => h) (Or.inl ⟨by rfl, ?_⟩) hHeld ?_ ?_
           rotate_left
           ·
            rintro w' ⟨s0, s1, s2, s3, s4, s5, s6, s7, s8, s9, s10, s11, s12, s13, s14, s15, s16, s17⟩
            go_simp
            with_reducible rfl
           rotate_left
           ·
            simp only [Act.put, List.setIfInBounds_toArray, List.set_cons_zero, List.set_cons_succ, i64_w, i32_w]
            rfl
           refine one_ (i := 14) (N := some 62) #[true, true, true, true, true, true, true, true, true, true, true, true, true, true, true, true, false, false, false, false, false, false, false, false, false, false] rfl rfl (one_of HT_.out (by kernel_rfl)) (by decide) (fun K hK => ?_)
           refine goes_ Tryz.func24 (by kernel_rfl) rfl #[.int .i64 1, .int .i64 1, .int .i64 0, .int .i64 2, .int .i32 0] (by rfl) rfl rfl (by (try simp only [List.map_toArray, List.map_cons, List.map_nil]); first | done | rfl | (simp only [List.length_drop, List.length_take]; rfl)) ?_
           with_reducible refine (redpencillaw09_of.calls 1 1 0 2 0 t271 t272 t273 t274 t275 t276 _ A115.out).mono ?_
           rintro e w124 ⟨rfl, hb⟩
           refine ⟨_, rfl, ?_⟩
           have n0_ := Aside0.mk (blk_below (g := gb186) (o := .cells #[.int .i64 t174, .int .i64 t175, .int .i64 t176, .int .i64 t177, .int .i64 t178, .int .i32 t179] 25 (0, 0)) (by (with_reducible repeat (first | refine blk_drewN ?_ _ | refine blk_drew ?_ | refine blk_alloc ?_ _)); exact BK186.out) hb)
           have n1_ := Aside0.mk (blk_below (g := gb187) (o := .cells #[.int .i64 t180, .int .i64 t181, .int .i64 t182, .int .i64 t183, .int .i64 t184, .int .i32 t185] 25 (0, 0)) (by (with_reducible repeat (first | refine blk_drewN ?_ _ | refine blk_drew ?_ | refine blk_alloc ?_ _)); exact BK187.out) hb)
           have n2_ := Aside0.mk (blk_below (g := gb188) (o := .cells #[.int .i64 0, .int .i64 0, .int .i64 0, .int .i64 0, .int .i64 0, .int .i32 0] 25 (0, 0)) (by (with_reducible repeat (first | refine blk_drewN ?_ _ | refine blk_drew ?_ | refine blk_alloc ?_ _)); exact BK188.out) hb)
           have n3_ := Aside0.mk (below_step (by repeat (first | (with_reducible first | exact HB.out | apply below_alloc | apply pw_below_drewN | apply below_drew1 | refine below_set ?_ GE186.out | refine below_set ?_ GE187.out | refine below_set ?_ GE188.out) | exact HB.out)) hb)
           clear BK186
           clear BK187
           clear BK188
           clear HB
           have BK186 := n0_
           have BK187 := n1_
           have BK188 := n2_
           have HB := n3_
           clear n0_ n1_ n2_ n3_
           (try clear hb)
           (try clear hb2)
           (try clear hk)
           (try clear hi)
           refine hK.out _ _ ⟨(blk_cell BK186.out 0).trans rfl, (blk_cell BK186.out 1).trans rfl, (blk_cell BK186.out 2).trans rfl, (blk_cell BK186.out 3).trans rfl, (blk_cell BK186.out 4).trans rfl, (blk_cell BK186.out 5).trans rfl, (blk_cell BK187.out 0).trans rfl, (blk_cell BK187.out 1).trans rfl, (blk_cell BK187.out 2).trans rfl, (blk_cell BK187.out 3).trans rfl, (blk_cell BK187.out 4).trans rfl, (blk_cell BK187.out 5).trans rfl, (blk_cell BK188.out 0).trans rfl, (blk_cell BK188.out 1).trans rfl, (blk_cell BK188.out 2).trans rfl, (blk_cell BK188.out 3).trans rfl, (blk_cell BK188.out 4).trans rfl, (blk_cell BK188.out 5).trans rfl⟩ (fun hHeld => ?_)
           clear hK K
           refine norm_ (a' := ?_) ?_ ?_
           rotate_left
           ·
            show Act.put _ (some 62) _ = _
            simp only [Act.put, List.setIfInBounds_toArray, List.set_cons_zero, List.set_cons_succ, i64_w, i32_w]
            rfl
           refine one_ (i := 16) (N := some 64) #[true, true, true, true, true, true, true, true, true, true, true, true, true, true, true, true, true, false, false, false, false, false, false, false, false, false] rfl rfl (one_of HT_.out (by kernel_rfl)) (by decide) (fun K hK => ?_)
           refine goes_ Tryz.func17 (by kernel_rfl) rfl #[.agg #[.int .i64 t180, .int .i64 t181, .int .i64 t182, .int .i64 t183, .int .i64 t184, .int .i32 t185], .agg #[.int .i64 t271, .int .i64 t272, .int .i64 t273, .int .i64 t274, .int .i64 t275, .int .i32 t276], .agg #[.int .i64 0, .int .i64 0, .int .i64 0, .int .i64 0, .int .i64 0, .int .i32 0], .int .i64 15] (by rfl) rfl rfl (by (try simp only [List.map_toArray, List.map_cons, List.map_nil]); first | done | rfl | (simp only [List.length_drop, List.length_take]; rfl)) ?_
           with_reducible refine (redpencillaw09_merges.calls kj77 t180 t181 t182 t183 t184 t185 t271 t272 t273 t274 t275 t276 0 0 0 0 0 0 15 true _ A116.out).mono ?_
           rintro e w125 ⟨rfl, hb⟩
           refine ⟨_, rfl, ?_⟩
           have n0_ := Aside0.mk (blk_below (g := gb186) (o := .cells #[.int .i64 t174, .int .i64 t175, .int .i64 t176, .int .i64 t177, .int .i64 t178, .int .i32 t179] 25 (0, 0)) (by (with_reducible repeat (first | refine blk_drewN ?_ _ | refine blk_drew ?_ | refine blk_alloc ?_ _)); exact BK186.out) hb)
           have n1_ := Aside0.mk (blk_below (g := gb187) (o := .cells #[.int .i64 t180, .int .i64 t181, .int .i64 t182, .int .i64 t183, .int .i64 t184, .int .i32 t185] 25 (0, 0)) (by (with_reducible repeat (first | refine blk_drewN ?_ _ | refine blk_drew ?_ | refine blk_alloc ?_ _)); exact BK187.out) hb)
           have n2_ := Aside0.mk (blk_below (g := gb188) (o := .cells #[.int .i64 0, .int .i64 0, .int .i64 0, .int .i64 0, .int .i64 0, .int .i32 0] 25 (0, 0)) (by (with_reducible repeat (first | refine blk_drewN ?_ _ | refine blk_drew ?_ | refine blk_alloc ?_ _)); exact BK188.out) hb)
           have n3_ := Aside0.mk (below_step (by repeat (first | (with_reducible first | exact HB.out | apply below_alloc | apply pw_below_drewN | apply below_drew1 | refine below_set ?_ GE186.out | refine below_set ?_ GE187.out | refine below_set ?_ GE188.out) | exact HB.out)) hb)
           clear BK186
           clear BK187
           clear BK188
           clear HB
           have BK186 := n0_
           have BK187 := n1_
           have BK188 := n2_
           have HB := n3_
           clear n0_ n1_ n2_ n3_
           (try clear hb)
           (try clear hb2)
           (try clear hk)
           (try clear hi)
           refine hK.out _ _ ⟨(blk_cell BK186.out 0).trans rfl, (blk_cell BK186.out 1).trans rfl, (blk_cell BK186.out 2).trans rfl, (blk_cell BK186.out 3).trans rfl, (blk_cell BK186.out 4).trans rfl, (blk_cell BK186.out 5).trans rfl, (blk_cell BK187.out 0).trans rfl, (blk_cell BK187.out 1).trans rfl, (blk_cell BK187.out 2).trans rfl, (blk_cell BK187.out 3).trans rfl, (blk_cell BK187.out 4).trans rfl, (blk_cell BK187.out 5).trans rfl, (blk_cell BK188.out 0).trans rfl, (blk_cell BK188.out 1).trans rfl, (blk_cell BK188.out 2).trans rfl, (blk_cell BK188.out 3).trans rfl, (blk_cell BK188.out 4).trans rfl, (blk_cell BK188.out 5).trans rfl⟩ (fun hHeld => ?_)
           clear hK K
           refine norm_ (a' := ?_) ?_ ?_
           rotate_left
           ·
            show Act.put _ (some 64) _ = _
            simp only [Act.put, List.setIfInBounds_toArray, List.set_cons_zero, List.set_cons_succ, i64_w, i32_w]
            rfl
           refine pure_ (i := 17) (N := some 65) (v := ?_) (a' := ?_) #[true, true, true, true, true, true, true, true, true, true, true, true, true, true, true, true, true, true, false, false, false, false, false, false, false, false] rfl rfl (any_of HT_.out (by kernel_rfl)) (fun _ _ _ h => h) (Or.inl ⟨by rfl, ?_⟩) ?_ ?_
           rotate_left
           ·
            intro w'
            go_simp
            with_reducible rfl
           rotate_left
           ·
            simp only [Act.put, List.setIfInBounds_toArray, List.set_cons_zero, List.set_cons_succ, i64_w, i32_w]
            rfl
           refine pure_ (i := 18) (N := some 66) (v := ?_) (a' := ?_) #[true, true, true, true, true, true, true, true, true, true, true, true, true, true, true, true, true, true, true, false, false, false, false, false, false, false] rfl rfl (any_of HT_.out (by kernel_rfl)) (fun _ _ _ h => h) (Or.inl ⟨by rfl, ?_⟩) ?_ ?_
           rotate_left
           ·
            intro w'
            go_simp
            with_reducible rfl
           rotate_left
           ·
            simp only [Act.put, List.setIfInBounds_toArray, List.set_cons_zero, List.set_cons_succ, i64_w, i32_w]
            rfl
           refine pure_ (i := 19) (N := some 67) (v := ?_) (a' := ?_) #[true, true, true, true, true, true, true, true, true, true, true, true, true, true, true, true, true, true, true, true, false, false, false, false, false, false] rfl rfl (any_of HT_.out (by kernel_rfl)) (fun _ _ _ h => h) (Or.inl ⟨by rfl, ?_⟩) ?_ ?_
           rotate_left
           ·
            intro w'
            go_simp
            with_reducible rfl
           rotate_left
           ·
            simp only [Act.put, List.setIfInBounds_toArray, List.set_cons_zero, List.set_cons_succ, i64_w, i32_w]
            rfl
           refine take_ (i := 20) (N := some 68) (v := ?_) (a' := ?_) #[true, true, true, true, true, true, true, true, true, true, true, true, true, true, true, true, true, true, true, true, true, false, false, false, false, false] rfl rfl (take_ofW HT_.out HW_.out (by kernel_rfl)) (fun _ _ _ h => h) (Or.inl ⟨by rfl, ?_⟩) hHeld ?_ ?_
           rotate_left
           ·
            rintro w' ⟨s0, s1, s2, s3, s4, s5, s6, s7, s8, s9, s10, s11, s12, s13, s14, s15, s16, s17⟩
            go_simp
            with_reducible rfl
           rotate_left
           ·
            simp only [Act.put, List.setIfInBounds_toArray, List.set_cons_zero, List.set_cons_succ, i64_w, i32_w]
            rfl
           refine take_ (i := 22) (N := some 70) (v := ?_) (a' := ?_) #[true, true, true, true, true, true, true, true, true, true, true, true, true, true, true, true, true, true, true, true, true, false, true, false, false, false] rfl rfl (take_ofW HT_.out HW_.out (by kernel_rfl)) (fun _ _ _ h => h) (Or.inl ⟨by rfl, ?_⟩) hHeld ?_ ?_
           rotate_left
           ·
            rintro w' ⟨s0, s1, s2, s3, s4, s5, s6, s7, s8, s9, s10, s11, s12, s13, s14, s15, s16, s17⟩
            go_simp
            with_reducible rfl
           rotate_left
           ·
            simp only [Act.put, List.setIfInBounds_toArray, List.set_cons_zero, List.set_cons_succ, i64_w, i32_w]
            rfl
           refine one_ (i := 21) (N := some 69) #[true, true, true, true, true, true, true, true, true, true, true, true, true, true, true, true, true, true, true, true, true, true, true, false, false, false] rfl rfl (one_of HT_.out (by kernel_rfl)) (by decide) (fun K hK => ?_)
           refine goes_ Tryz.func24 (by kernel_rfl) rfl #[.int .i64 1, .int .i64 1, .int .i64 0, .int .i64 0, .int .i32 0] (by rfl) rfl rfl (by (try simp only [List.map_toArray, List.map_cons, List.map_nil]); first | done | rfl | (simp only [List.length_drop, List.length_take]; rfl)) ?_
           with_reducible refine (redpencillaw09_of.calls 1 1 0 0 0 t278 t279 t280 t281 t282 t283 _ A118.out).mono ?_
           rintro e w126 ⟨rfl, hb⟩
           refine ⟨_, rfl, ?_⟩
           have n0_ := Aside0.mk (blk_below (g := gb186) (o := .cells #[.int .i64 t174, .int .i64 t175, .int .i64 t176, .int .i64 t177, .int .i64 t178, .int .i32 t179] 25 (0, 0)) (by (with_reducible repeat (first | refine blk_drewN ?_ _ | refine blk_drew ?_ | refine blk_alloc ?_ _)); exact BK186.out) hb)
           have n1_ := Aside0.mk (blk_below (g := gb187) (o := .cells #[.int .i64 t180, .int .i64 t181, .int .i64 t182, .int .i64 t183, .int .i64 t184, .int .i32 t185] 25 (0, 0)) (by (with_reducible repeat (first | refine blk_drewN ?_ _ | refine blk_drew ?_ | refine blk_alloc ?_ _)); exact BK187.out) hb)
           have n2_ := Aside0.mk (blk_below (g := gb188) (o := .cells #[.int .i64 0, .int .i64 0, .int .i64 0, .int .i64 0, .int .i64 0, .int .i32 0] 25 (0, 0)) (by (with_reducible repeat (first | refine blk_drewN ?_ _ | refine blk_drew ?_ | refine blk_alloc ?_ _)); exact BK188.out) hb)
           have n3_ := Aside0.mk (below_step (by repeat (first | (with_reducible first | exact HB.out | apply below_alloc | apply pw_below_drewN | apply below_drew1 | refine below_set ?_ GE186.out | refine below_set ?_ GE187.out | refine below_set ?_ GE188.out) | exact HB.out)) hb)
           clear BK186
           clear BK187
           clear BK188
           clear HB
           have BK186 := n0_
           have BK187 := n1_
           have BK188 := n2_
           have HB := n3_
           clear n0_ n1_ n2_ n3_
           (try clear hb)
           (try clear hb2)
           (try clear hk)
           (try clear hi)
           refine hK.out _ _ ⟨(blk_cell BK186.out 0).trans rfl, (blk_cell BK186.out 1).trans rfl, (blk_cell BK186.out 2).trans rfl, (blk_cell BK186.out 3).trans rfl, (blk_cell BK186.out 4).trans rfl, (blk_cell BK186.out 5).trans rfl, (blk_cell BK187.out 0).trans rfl, (blk_cell BK187.out 1).trans rfl, (blk_cell BK187.out 2).trans rfl, (blk_cell BK187.out 3).trans rfl, (blk_cell BK187.out 4).trans rfl, (blk_cell BK187.out 5).trans rfl, (blk_cell BK188.out 0).trans rfl, (blk_cell BK188.out 1).trans rfl, (blk_cell BK188.out 2).trans rfl, (blk_cell BK188.out 3).trans rfl, (blk_cell BK188.out 4).trans rfl, (blk_cell BK188.out 5).trans rfl⟩ (fun hHeld => ?_)
           clear hK K
           refine norm_ (a' := ?_) ?_ ?_
           rotate_left
           ·
            show Act.put _ (some 69) _ = _
            simp only [Act.put, List.setIfInBounds_toArray, List.set_cons_zero, List.set_cons_succ, i64_w, i32_w]
            rfl
           refine one_ (i := 23) (N := some 71) #[true, true, true, true, true, true, true, true, true, true, true, true, true, true, true, true, true, true, true, true, true, true, true, true, false, false] rfl rfl (one_of HT_.out (by kernel_rfl)) (by decide) (fun K hK => ?_)
           refine goes_ Tryz.func17 (by kernel_rfl) rfl #[.agg #[.int .i64 t180, .int .i64 t181, .int .i64 t182, .int .i64 t183, .int .i64 t184, .int .i32 t185], .agg #[.int .i64 t278, .int .i64 t279, .int .i64 t280, .int .i64 t281, .int .i64 t282, .int .i32 t283], .agg #[.int .i64 0, .int .i64 0, .int .i64 0, .int .i64 0, .int .i64 0, .int .i32 0], .int .i64 2] (by rfl) rfl rfl (by (try simp only [List.map_toArray, List.map_cons, List.map_nil]); first | done | rfl | (simp only [List.length_drop, List.length_take]; rfl)) ?_
           with_reducible refine (redpencillaw09_merges.calls kj77 t180 t181 t182 t183 t184 t185 t278 t279 t280 t281 t282 t283 0 0 0 0 0 0 2 t284 _ A119.out).mono ?_
           rintro e w127 ⟨rfl, hb⟩
           refine ⟨_, rfl, ?_⟩
           have n0_ := Aside0.mk (blk_below (g := gb186) (o := .cells #[.int .i64 t174, .int .i64 t175, .int .i64 t176, .int .i64 t177, .int .i64 t178, .int .i32 t179] 25 (0, 0)) (by (with_reducible repeat (first | refine blk_drewN ?_ _ | refine blk_drew ?_ | refine blk_alloc ?_ _)); exact BK186.out) hb)
           have n1_ := Aside0.mk (blk_below (g := gb187) (o := .cells #[.int .i64 t180, .int .i64 t181, .int .i64 t182, .int .i64 t183, .int .i64 t184, .int .i32 t185] 25 (0, 0)) (by (with_reducible repeat (first | refine blk_drewN ?_ _ | refine blk_drew ?_ | refine blk_alloc ?_ _)); exact BK187.out) hb)
           have n2_ := Aside0.mk (blk_below (g := gb188) (o := .cells #[.int .i64 0, .int .i64 0, .int .i64 0, .int .i64 0, .int .i64 0, .int .i32 0] 25 (0, 0)) (by (with_reducible repeat (first | refine blk_drewN ?_ _ | refine blk_drew ?_ | refine blk_alloc ?_ _)); exact BK188.out) hb)
           have n3_ := Aside0.mk (below_step (by repeat (first | (with_reducible first | exact HB.out | apply below_alloc | apply pw_below_drewN | apply below_drew1 | refine below_set ?_ GE186.out | refine below_set ?_ GE187.out | refine below_set ?_ GE188.out) | exact HB.out)) hb)
           clear BK186
           clear BK187
           clear BK188
           clear HB
           have BK186 := n0_
           have BK187 := n1_
           have BK188 := n2_
           have HB := n3_
           clear n0_ n1_ n2_ n3_
           (try clear hb)
           (try clear hb2)
           (try clear hk)
           (try clear hi)
           refine hK.out _ _ ⟨(blk_cell BK186.out 0).trans rfl, (blk_cell BK186.out 1).trans rfl, (blk_cell BK186.out 2).trans rfl, (blk_cell BK186.out 3).trans rfl, (blk_cell BK186.out 4).trans rfl, (blk_cell BK186.out 5).trans rfl, (blk_cell BK187.out 0).trans rfl, (blk_cell BK187.out 1).trans rfl, (blk_cell BK187.out 2).trans rfl, (blk_cell BK187.out 3).trans rfl, (blk_cell BK187.out 4).trans rfl, (blk_cell BK187.out 5).trans rfl, (blk_cell BK188.out 0).trans rfl, (blk_cell BK188.out 1).trans rfl, (blk_cell BK188.out 2).trans rfl, (blk_cell BK188.out 3).trans rfl, (blk_cell BK188.out 4).trans rfl, (blk_cell BK188.out 5).trans rfl⟩ (fun hHeld => ?_)
           clear hK K
           refine norm_ (a' := ?_) ?_ ?_
           rotate_left
           ·
            show Act.put _ (some 71) _ = _
            simp only [Act.put, List.setIfInBounds_toArray, List.set_cons_zero, List.set_cons_succ, i64_w, i32_w]
            rfl
           refine pure_ (i := 24) (N := some 72) (v := ?_) (a' := ?_) #[true, true, true, true, true, true, true, true, true, true, true, true, true, true, true, true, true, true, true, true, true, true, true, true, true, false] rfl rfl (any_of HT_.out (by kernel_rfl)) (fun _ _ _ h => h) (Or.inl ⟨by rfl, ?_⟩) ?_ ?_
           rotate_left
           ·
            intro w'
            go_simp
            with_reducible rfl
           rotate_left
           ·
            simp only [Act.put, List.setIfInBounds_toArray, List.set_cons_zero, List.set_cons_succ, i64_w, i32_w]
            rfl
           refine pure_ (i := 25) (N := some 73) (v := ?_) (a' := ?_) #[true, true, true, true, true, true, true, true, true, true, true, true, true, true, true, true, true, true, true, true, true, true, true, true, true, true] rfl rfl (any_of HT_.out (by kernel_rfl)) (fun _ _ _ h => h) (Or.inl ⟨by rfl, ?_⟩) ?_ ?_
           rotate_left
           ·
            intro w'
            go_simp
            with_reducible rfl
           rotate_left
           ·
            simp only [Act.put, List.setIfInBounds_toArray, List.set_cons_zero, List.set_cons_succ, i64_w, i32_w]
            rfl
           refine done_ (done_of HT_.out (by kernel_rfl)) ?_
           try go_wp2
           go_meet
           case rel => exact ⟨_, (!t284), (by first | rfl | (simp; done) | (simp [*]; done)), H', ⟨by have := HJ2.out; have := HJ77.out; first | omega | exact Nat.le_refl _⟩, ⟨by (with_reducible repeat (first | refine blk_drewN ?_ _ | refine blk_drew ?_ | refine blk_alloc ?_ _)); exact BK186.out⟩, ⟨by (with_reducible repeat (first | refine blk_drewN ?_ _ | refine blk_drew ?_ | refine blk_alloc ?_ _)); exact BK187.out⟩, ⟨by (with_reducible repeat (first | refine blk_drewN ?_ _ | refine blk_drew ?_ | refine blk_alloc ?_ _)); exact BK188.out⟩, ⟨by repeat (first | (with_reducible first | exact HB.out | apply below_alloc | apply pw_below_drewN | apply below_drew1 | refine below_set ?_ GE186.out | refine below_set ?_ GE187.out | refine below_set ?_ GE188.out) | exact HB.out)⟩⟩
          ·
           replace c117 := Bool.eq_false_iff.mpr c117
           subst c117
           have H1 : (redpencillaw09_known.j2 kj77 true 0 0 0 0 0 0) = some true := by rw [if_neg (show ¬ (false = true) by decide)] at H; exact H
           exact absurd H1 (redpencillaw09_known.j2_no _ _ _ _ _ _ _)
         ·
          replace c114 := Bool.eq_false_iff.mpr c114
          subst c114
          have H1 : (redpencillaw09_known.j2 kj77 true 0 0 0 0 0 0) = some true := by rw [if_neg (show ¬ (false = true) by decide)] at H; exact H
          exact absurd H1 (redpencillaw09_known.j2_no _ _ _ _ _ _ _)
        ·
         replace c111 := Bool.eq_false_iff.mpr c111
         subst c111
         have H1 : (redpencillaw09_known.j2 kj77 true 0 0 0 0 0 0) = some true := by rw [if_neg (show ¬ (false = true) by decide)] at H; exact H
         exact absurd H1 (redpencillaw09_known.j2_no _ _ _ _ _ _ _)
       case rest =>
        clear HC109
        try clear c1
        try clear c2
        try clear p2
        try clear c11
        try clear c17
        try clear c24
        try clear c111
        try clear c114
        obtain ⟨kq, x73_108, rfl, HA, HJ108, BK186, BK187, BK188, HB⟩ := hcut
        cases kq with
        | zero => exact absurd HA.out (by simp [redpencillaw09_known.j2])
        | succ kj108 =>
         have H := HA.out
         clear HA
         simp only [redpencillaw09_known.j2] at H
         by_cases c140 : x73_108 = true
         ·
          subst c140
          have H1 : (some false) = some true := by rw [if_pos rfl] at H; exact H
          exact absurd H1 (by simp)
         ·
          replace c140 := Bool.eq_false_iff.mpr c140
          subst c140
          have H1 : ((redpencillaw09_of.f 3 7 2 5 65).bind fun bt285 => ((redpencillaw09_parses.f (⟨#[51, 46, 55, 32, 49, 46, 50, 32, 53, 32, 85, 43, 48, 48, 52, 49]⟩ : ByteArray) bt285.1 bt285.2.1 bt285.2.2.1 bt285.2.2.2.1 bt285.2.2.2.2.1 bt285.2.2.2.2.2 0).bind fun t291 => (if t291 = true then ((redpencillaw09_of.f 3 7 0 5 0).bind fun bt292 => ((redpencillaw09_parses.f (⟨#[51, 46, 55, 32, 114, 111, 111, 116, 32, 53, 32, 45]⟩ : ByteArray) bt292.1 bt292.2.1 bt292.2.2.1 bt292.2.2.2.1 bt292.2.2.2.2.1 bt292.2.2.2.2.2 0).bind fun t298 => (if t298 = true then ((redpencillaw09_parses.f (⟨#[114, 111, 111, 116, 32, 114, 111, 111, 116, 32, 53, 32, 45]⟩ : ByteArray) 0 0 0 0 0 0 6).bind fun t299 => (if t299 = true then ((redpencillaw09_parses.f (⟨#[51, 46, 55, 32, 114, 111, 111, 116, 32, 48, 53, 32, 45]⟩ : ByteArray) 0 0 0 0 0 0 6).bind fun t300 => (if t300 = true then ((redpencillaw09_parses.f (⟨#[51, 46, 55, 32, 114, 111, 111, 116, 32, 53]⟩ : ByteArray) 0 0 0 0 0 0 6).bind fun t301 => (some t301)) else (some false))) else (some false))) else (some false)))) else (some false)))) = some true := by rw [if_neg (show ¬ (false = true) by decide)] at H; exact H
          clear H
          have H := H1
          clear H1
          replace H := Option.bind_eq_some_iff.mp H
          obtain ⟨⟨t285, t286, t287, t288, t289, t290⟩, A1410, H⟩ := H
          replace H : ((redpencillaw09_parses.f (⟨#[51, 46, 55, 32, 49, 46, 50, 32, 53, 32, 85, 43, 48, 48, 52, 49]⟩ : ByteArray) t285 t286 t287 t288 t289 t290 0).bind fun t291 => (if t291 = true then ((redpencillaw09_of.f 3 7 0 5 0).bind fun bt292 => ((redpencillaw09_parses.f (⟨#[51, 46, 55, 32, 114, 111, 111, 116, 32, 53, 32, 45]⟩ : ByteArray) bt292.1 bt292.2.1 bt292.2.2.1 bt292.2.2.2.1 bt292.2.2.2.2.1 bt292.2.2.2.2.2 0).bind fun t298 => (if t298 = true then ((redpencillaw09_parses.f (⟨#[114, 111, 111, 116, 32, 114, 111, 111, 116, 32, 53, 32, 45]⟩ : ByteArray) 0 0 0 0 0 0 6).bind fun t299 => (if t299 = true then ((redpencillaw09_parses.f (⟨#[51, 46, 55, 32, 114, 111, 111, 116, 32, 48, 53, 32, 45]⟩ : ByteArray) 0 0 0 0 0 0 6).bind fun t300 => (if t300 = true then ((redpencillaw09_parses.f (⟨#[51, 46, 55, 32, 114, 111, 111, 116, 32, 53]⟩ : ByteArray) 0 0 0 0 0 0 6).bind fun t301 => (some t301)) else (some false))) else (some false))) else (some false)))) else (some false))) = some true := H
          have A141 := Aside0.mk A1410
          clear A1410
          replace H := Option.bind_eq_some_iff.mp H
          obtain ⟨t291, A1420, H⟩ := H
          replace H : (if t291 = true then ((redpencillaw09_of.f 3 7 0 5 0).bind fun bt292 => ((redpencillaw09_parses.f (⟨#[51, 46, 55, 32, 114, 111, 111, 116, 32, 53, 32, 45]⟩ : ByteArray) bt292.1 bt292.2.1 bt292.2.2.1 bt292.2.2.2.1 bt292.2.2.2.2.1 bt292.2.2.2.2.2 0).bind fun t298 => (if t298 = true then ((redpencillaw09_parses.f (⟨#[114, 111, 111, 116, 32, 114, 111, 111, 116, 32, 53, 32, 45]⟩ : ByteArray) 0 0 0 0 0 0 6).bind fun t299 => (if t299 = true then ((redpencillaw09_parses.f (⟨#[51, 46, 55, 32, 114, 111, 111, 116, 32, 48, 53, 32, 45]⟩ : ByteArray) 0 0 0 0 0 0 6).bind fun t300 => (if t300 = true then ((redpencillaw09_parses.f (⟨#[51, 46, 55, 32, 114, 111, 111, 116, 32, 53]⟩ : ByteArray) 0 0 0 0 0 0 6).bind fun t301 => (some t301)) else (some false))) else (some false))) else (some false)))) else (some false)) = some true := H
          have A142 := Aside0.mk A1420
          clear A1420
          by_cases c143 : t291 = true
          ·
           subst c143
           have H1 : ((redpencillaw09_of.f 3 7 0 5 0).bind fun bt292 => ((redpencillaw09_parses.f (⟨#[51, 46, 55, 32, 114, 111, 111, 116, 32, 53, 32, 45]⟩ : ByteArray) bt292.1 bt292.2.1 bt292.2.2.1 bt292.2.2.2.1 bt292.2.2.2.2.1 bt292.2.2.2.2.2 0).bind fun t298 => (if t298 = true then ((redpencillaw09_parses.f (⟨#[114, 111, 111, 116, 32, 114, 111, 111, 116, 32, 53, 32, 45]⟩ : ByteArray) 0 0 0 0 0 0 6).bind fun t299 => (if t299 = true then ((redpencillaw09_parses.f (⟨#[51, 46, 55, 32, 114, 111, 111, 116, 32, 48, 53, 32, 45]⟩ : ByteArray) 0 0 0 0 0 0 6).bind fun t300 => (if t300 = true then ((redpencillaw09_parses.f (⟨#[51, 46, 55, 32, 114, 111, 111, 116, 32, 53]⟩ : ByteArray) 0 0 0 0 0 0 6).bind fun t301 => (some t301)) else (some false))) else (some false))) else (some false)))) = some true := by rw [if_pos rfl] at H; exact H
           clear H
           have H := H1
           clear H1
           replace H := Option.bind_eq_some_iff.mp H
           obtain ⟨⟨t292, t293, t294, t295, t296, t297⟩, A1440, H⟩ := H
           replace H : ((redpencillaw09_parses.f (⟨#[51, 46, 55, 32, 114, 111, 111, 116, 32, 53, 32, 45]⟩ : ByteArray) t292 t293 t294 t295 t296 t297 0).bind fun t298 => (if t298 = true then ((redpencillaw09_parses.f (⟨#[114, 111, 111, 116, 32, 114, 111, 111, 116, 32, 53, 32, 45]⟩ : ByteArray) 0 0 0 0 0 0 6).bind fun t299 => (if t299 = true then ((redpencillaw09_parses.f (⟨#[51, 46, 55, 32, 114, 111, 111, 116, 32, 48, 53, 32, 45]⟩ : ByteArray) 0 0 0 0 0 0 6).bind fun t300 => (if t300 = true then ((redpencillaw09_parses.f (⟨#[51, 46, 55, 32, 114, 111, 111, 116, 32, 53]⟩ : ByteArray) 0 0 0 0 0 0 6).bind fun t301 => (some t301)) else (some false))) else (some false))) else (some false))) = some true := H
           have A144 := Aside0.mk A1440
           clear A1440
           replace H := Option.bind_eq_some_iff.mp H
           obtain ⟨t298, A1450, H⟩ := H
           replace H : (if t298 = true then ((redpencillaw09_parses.f (⟨#[114, 111, 111, 116, 32, 114, 111, 111, 116, 32, 53, 32, 45]⟩ : ByteArray) 0 0 0 0 0 0 6).bind fun t299 => (if t299 = true then ((redpencillaw09_parses.f (⟨#[51, 46, 55, 32, 114, 111, 111, 116, 32, 48, 53, 32, 45]⟩ : ByteArray) 0 0 0 0 0 0 6).bind fun t300 => (if t300 = true then ((redpencillaw09_parses.f (⟨#[51, 46, 55, 32, 114, 111, 111, 116, 32, 53]⟩ : ByteArray) 0 0 0 0 0 0 6).bind fun t301 => (some t301)) else (some false))) else (some false))) else (some false)) = some true := H
           have A145 := Aside0.mk A1450
           clear A1450
           by_cases c146 : t298 = true
           ·
            subst c146
            have H1 : ((redpencillaw09_parses.f (⟨#[114, 111, 111, 116, 32, 114, 111, 111, 116, 32, 53, 32, 45]⟩ : ByteArray) 0 0 0 0 0 0 6).bind fun t299 => (if t299 = true then ((redpencillaw09_parses.f (⟨#[51, 46, 55, 32, 114, 111, 111, 116, 32, 48, 53, 32, 45]⟩ : ByteArray) 0 0 0 0 0 0 6).bind fun t300 => (if t300 = true then ((redpencillaw09_parses.f (⟨#[51, 46, 55, 32, 114, 111, 111, 116, 32, 53]⟩ : ByteArray) 0 0 0 0 0 0 6).bind fun t301 => (some t301)) else (some false))) else (some false))) = some true := by rw [if_pos rfl] at H; exact H
            clear H
            have H := H1
            clear H1
            replace H := Option.bind_eq_some_iff.mp H
            obtain ⟨t299, A1470, H⟩ := H
            replace H : (if t299 = true then ((redpencillaw09_parses.f (⟨#[51, 46, 55, 32, 114, 111, 111, 116, 32, 48, 53, 32, 45]⟩ : ByteArray) 0 0 0 0 0 0 6).bind fun t300 => (if t300 = true then ((redpencillaw09_parses.f (⟨#[51, 46, 55, 32, 114, 111, 111, 116, 32, 53]⟩ : ByteArray) 0 0 0 0 0 0 6).bind fun t301 => (some t301)) else (some false))) else (some false)) = some true := H
            have A147 := Aside0.mk A1470
            clear A1470
            by_cases c148 : t299 = true
            ·
             subst c148
             have H1 : ((redpencillaw09_parses.f (⟨#[51, 46, 55, 32, 114, 111, 111, 116, 32, 48, 53, 32, 45]⟩ : ByteArray) 0 0 0 0 0 0 6).bind fun t300 => (if t300 = true then ((redpencillaw09_parses.f (⟨#[51, 46, 55, 32, 114, 111, 111, 116, 32, 53]⟩ : ByteArray) 0 0 0 0 0 0 6).bind fun t301 => (some t301)) else (some false))) = some true := by rw [if_pos rfl] at H; exact H
             clear H
             have H := H1
             clear H1
             replace H := Option.bind_eq_some_iff.mp H
             obtain ⟨t300, A1490, H⟩ := H
             replace H : (if t300 = true then ((redpencillaw09_parses.f (⟨#[51, 46, 55, 32, 114, 111, 111, 116, 32, 53]⟩ : ByteArray) 0 0 0 0 0 0 6).bind fun t301 => (some t301)) else (some false)) = some true := H
             have A149 := Aside0.mk A1490
             clear A1490
             by_cases c150 : t300 = true
             ·
              subst c150
              have H1 : ((redpencillaw09_parses.f (⟨#[51, 46, 55, 32, 114, 111, 111, 116, 32, 53]⟩ : ByteArray) 0 0 0 0 0 0 6).bind fun t301 => (some t301)) = some true := by rw [if_pos rfl] at H; exact H
              clear H
              have H := H1
              clear H1
              replace H := Option.bind_eq_some_iff.mp H
              obtain ⟨t301, A1510, H⟩ := H
              replace H : (some t301) = some true := H
              have A151 := Aside0.mk A1510
              clear A1510
              obtain rfl := Option.some.inj H
              go_wp2_with (first | ((with_reducible refine gate_callee (f := 24) rfl ?_); refine goesL_ (some 74) rfl rfl Tryz.func24 (by kernel_rfl) rfl #[.int .i64 3, .int .i64 7, .int .i64 2, .int .i64 5, .int .i32 65] rfl (by (try simp only [List.map_toArray, List.map_cons, List.map_nil]); first | done | rfl | (simp only [List.length_drop, List.length_take]; rfl)) ?_; (with_reducible refine (redpencillaw09_of.calls 3 7 2 5 65 t285 t286 t287 t288 t289 t290 _ A141.out).mono ?_); rintro e w152 ⟨rfl, hb⟩; refine ⟨_, rfl, ?_⟩; have n0_ := Aside0.mk (blk_below (g := gb186) (o := .cells #[.int .i64 t174, .int .i64 t175, .int .i64 t176, .int .i64 t177, .int .i64 t178, .int .i32 t179] 25 (0, 0)) (by (with_reducible repeat (first | refine blk_drewN ?_ _ | refine blk_drew ?_ | refine blk_alloc ?_ _)); exact BK186.out) hb); have n1_ := Aside0.mk (blk_below (g := gb187) (o := .cells #[.int .i64 t180, .int .i64 t181, .int .i64 t182, .int .i64 t183, .int .i64 t184, .int .i32 t185] 25 (0, 0)) (by (with_reducible repeat (first | refine blk_drewN ?_ _ | refine blk_drew ?_ | refine blk_alloc ?_ _)); exact BK187.out) hb); have n2_ := Aside0.mk (blk_below (g := gb188) (o := .cells #[.int .i64 0, .int .i64 0, .int .i64 0, .int .i64 0, .int .i64 0, .int .i32 0] 25 (0, 0)) (by (with_reducible repeat (first | refine blk_drewN ?_ _ | refine blk_drew ?_ | refine blk_alloc ?_ _)); exact BK188.out) hb); have n3_ := Aside0.mk (below_step (by repeat (first | (with_reducible first | exact HB.out | apply below_alloc | apply pw_below_drewN | apply below_drew1 | refine below_set ?_ GE186.out | refine below_set ?_ GE187.out | refine below_set ?_ GE188.out) | exact HB.out)) hb); clear BK186; clear BK187; clear BK188; clear HB; have BK186 := n0_; have BK187 := n1_; have BK188 := n2_; have HB := n3_; clear n0_ n1_ n2_ n3_; (try clear hb); (try clear hb2); (try clear hk); (try clear hi)) | ((with_reducible refine gate_callee (f := 13) rfl ?_); refine goesL_ (some 75) rfl rfl Tryz.func13 (by kernel_rfl) rfl #[.string (⟨#[51, 46, 55, 32, 49, 46, 50, 32, 53, 32, 85, 43, 48, 48, 52, 49]⟩ : ByteArray), .agg #[.int .i64 t285, .int .i64 t286, .int .i64 t287, .int .i64 t288, .int .i64 t289, .int .i32 t290], .int .i64 0] rfl (by (try simp only [List.map_toArray, List.map_cons, List.map_nil]); first | done | rfl | (simp only [List.length_drop, List.length_take]; rfl)) ?_; (with_reducible refine (redpencillaw09_parses.calls (⟨#[51, 46, 55, 32, 49, 46, 50, 32, 53, 32, 85, 43, 48, 48, 52, 49]⟩ : ByteArray) t285 t286 t287 t288 t289 t290 0 true _ ?side1 A142.out).mono ?_); (case side1 => exact GOK_below HG.out (by repeat (first | (with_reducible first | exact HB.out | apply below_alloc | apply pw_below_drewN | apply below_drew1 | refine below_set ?_ GE186.out | refine below_set ?_ GE187.out | refine below_set ?_ GE188.out) | exact HB.out))); rintro e w153 ⟨rfl, hb⟩; refine ⟨_, rfl, ?_⟩; have n0_ := Aside0.mk (blk_below (g := gb186) (o := .cells #[.int .i64 t174, .int .i64 t175, .int .i64 t176, .int .i64 t177, .int .i64 t178, .int .i32 t179] 25 (0, 0)) (by (with_reducible repeat (first | refine blk_drewN ?_ _ | refine blk_drew ?_ | refine blk_alloc ?_ _)); exact BK186.out) hb); have n1_ := Aside0.mk (blk_below (g := gb187) (o := .cells #[.int .i64 t180, .int .i64 t181, .int .i64 t182, .int .i64 t183, .int .i64 t184, .int .i32 t185] 25 (0, 0)) (by (with_reducible repeat (first | refine blk_drewN ?_ _ | refine blk_drew ?_ | refine blk_alloc ?_ _)); exact BK187.out) hb); have n2_ := Aside0.mk (blk_below (g := gb188) (o := .cells #[.int .i64 0, .int .i64 0, .int .i64 0, .int .i64 0, .int .i64 0, .int .i32 0] 25 (0, 0)) (by (with_reducible repeat (first | refine blk_drewN ?_ _ | refine blk_drew ?_ | refine blk_alloc ?_ _)); exact BK188.out) hb); have n3_ := Aside0.mk (below_step (by repeat (first | (with_reducible first | exact HB.out | apply below_alloc | apply pw_below_drewN | apply below_drew1 | refine below_set ?_ GE186.out | refine below_set ?_ GE187.out | refine below_set ?_ GE188.out) | exact HB.out)) hb); clear BK186; clear BK187; clear BK188; clear HB; have BK186 := n0_; have BK187 := n1_; have BK188 := n2_; have HB := n3_; clear n0_ n1_ n2_ n3_; (try clear hb); (try clear hb2); (try clear hk); (try clear hi)) | (go_at_call 24; (with_reducible refine (redpencillaw09_of.calls 3 7 0 5 0 t292 t293 t294 t295 t296 t297 _ A144.out).mono ?_); rintro e w154 ⟨rfl, hb⟩; have n0_ := Aside0.mk (blk_below (g := gb186) (o := .cells #[.int .i64 t174, .int .i64 t175, .int .i64 t176, .int .i64 t177, .int .i64 t178, .int .i32 t179] 25 (0, 0)) (by (with_reducible repeat (first | refine blk_drewN ?_ _ | refine blk_drew ?_ | refine blk_alloc ?_ _)); exact BK186.out) hb); have n1_ := Aside0.mk (blk_below (g := gb187) (o := .cells #[.int .i64 t180, .int .i64 t181, .int .i64 t182, .int .i64 t183, .int .i64 t184, .int .i32 t185] 25 (0, 0)) (by (with_reducible repeat (first | refine blk_drewN ?_ _ | refine blk_drew ?_ | refine blk_alloc ?_ _)); exact BK187.out) hb); have n2_ := Aside0.mk (blk_below (g := gb188) (o := .cells #[.int .i64 0, .int .i64 0, .int .i64 0, .int .i64 0, .int .i64 0, .int .i32 0] 25 (0, 0)) (by (with_reducible repeat (first | refine blk_drewN ?_ _ | refine blk_drew ?_ | refine blk_alloc ?_ _)); exact BK188.out) hb); have n3_ := Aside0.mk (below_step (by repeat (first | (with_reducible first | exact HB.out | apply below_alloc | apply pw_below_drewN | apply below_drew1 | refine below_set ?_ GE186.out | refine below_set ?_ GE187.out | refine below_set ?_ GE188.out) | exact HB.out)) hb); clear BK186; clear BK187; clear BK188; clear HB; have BK186 := n0_; have BK187 := n1_; have BK188 := n2_; have HB := n3_; clear n0_ n1_ n2_ n3_; (try clear hb); (try clear hb2); (try clear hk); (try clear hi)) | (go_at_call 13; (with_reducible refine (redpencillaw09_parses.calls (⟨#[51, 46, 55, 32, 114, 111, 111, 116, 32, 53, 32, 45]⟩ : ByteArray) t292 t293 t294 t295 t296 t297 0 true _ ?side1 A145.out).mono ?_); (case side1 => exact GOK_below HG.out (by repeat (first | (with_reducible first | exact HB.out | apply below_alloc | apply pw_below_drewN | apply below_drew1 | refine below_set ?_ GE186.out | refine below_set ?_ GE187.out | refine below_set ?_ GE188.out) | exact HB.out))); rintro e w155 ⟨rfl, hb⟩; have n0_ := Aside0.mk (blk_below (g := gb186) (o := .cells #[.int .i64 t174, .int .i64 t175, .int .i64 t176, .int .i64 t177, .int .i64 t178, .int .i32 t179] 25 (0, 0)) (by (with_reducible repeat (first | refine blk_drewN ?_ _ | refine blk_drew ?_ | refine blk_alloc ?_ _)); exact BK186.out) hb); have n1_ := Aside0.mk (blk_below (g := gb187) (o := .cells #[.int .i64 t180, .int .i64 t181, .int .i64 t182, .int .i64 t183, .int .i64 t184, .int .i32 t185] 25 (0, 0)) (by (with_reducible repeat (first | refine blk_drewN ?_ _ | refine blk_drew ?_ | refine blk_alloc ?_ _)); exact BK187.out) hb); have n2_ := Aside0.mk (blk_below (g := gb188) (o := .cells #[.int .i64 0, .int .i64 0, .int .i64 0, .int .i64 0, .int .i64 0, .int .i32 0] 25 (0, 0)) (by (with_reducible repeat (first | refine blk_drewN ?_ _ | refine blk_drew ?_ | refine blk_alloc ?_ _)); exact BK188.out) hb); have n3_ := Aside0.mk (below_step (by repeat (first | (with_reducible first | exact HB.out | apply below_alloc | apply pw_below_drewN | apply below_drew1 | refine below_set ?_ GE186.out | refine below_set ?_ GE187.out | refine below_set ?_ GE188.out) | exact HB.out)) hb); clear BK186; clear BK187; clear BK188; clear HB; have BK186 := n0_; have BK187 := n1_; have BK188 := n2_; have HB := n3_; clear n0_ n1_ n2_ n3_; (try clear hb); (try clear hb2); (try clear hk); (try clear hi); have hnb156 := NB188_186.out; have hnc156 := NB186_188.out; have hnb157 := NB188_187.out; have hnc157 := NB187_188.out; have hcz158_0 : w155.cell? ⟨gb188, 0, none⟩ = some (.int .i64 0) := (blk_cell BK188.out 0).trans rfl; have hcz158_1 : w155.cell? ⟨gb188, 1, none⟩ = some (.int .i64 0) := (blk_cell BK188.out 1).trans rfl; have hcz158_2 : w155.cell? ⟨gb188, 2, none⟩ = some (.int .i64 0) := (blk_cell BK188.out 2).trans rfl; have hcz158_3 : w155.cell? ⟨gb188, 3, none⟩ = some (.int .i64 0) := (blk_cell BK188.out 3).trans rfl; have hcz158_4 : w155.cell? ⟨gb188, 4, none⟩ = some (.int .i64 0) := (blk_cell BK188.out 4).trans rfl; have hcz158_5 : w155.cell? ⟨gb188, 5, none⟩ = some (.int .i32 0) := (blk_cell BK188.out 5).trans rfl; have hfz158_0 := blk_frozen BK188.out 0; have hfz158_1 := blk_frozen BK188.out 1; have hfz158_2 := blk_frozen BK188.out 2; have hfz158_3 := blk_frozen BK188.out 3; have hfz158_4 := blk_frozen BK188.out 4; have hfz158_5 := blk_frozen BK188.out 5) | (go_at_call 13; (with_reducible refine (redpencillaw09_parses.calls (⟨#[114, 111, 111, 116, 32, 114, 111, 111, 116, 32, 53, 32, 45]⟩ : ByteArray) 0 0 0 0 0 0 6 true _ ?side1 A147.out).mono ?_); (case side1 => exact GOK_below HG.out (by repeat (first | (with_reducible first | exact HB.out | apply below_alloc | apply pw_below_drewN | apply below_drew1 | refine below_set ?_ GE186.out | refine below_set ?_ GE187.out | refine below_set ?_ GE188.out) | exact HB.out))); rintro e w159 ⟨rfl, hb⟩; have n0_ := Aside0.mk (blk_below (g := gb186) (o := .cells #[.int .i64 t174, .int .i64 t175, .int .i64 t176, .int .i64 t177, .int .i64 t178, .int .i32 t179] 25 (0, 0)) (by (with_reducible repeat (first | refine blk_drewN ?_ _ | refine blk_drew ?_ | refine blk_alloc ?_ _)); exact BK186.out) hb); have n1_ := Aside0.mk (blk_below (g := gb187) (o := .cells #[.int .i64 t180, .int .i64 t181, .int .i64 t182, .int .i64 t183, .int .i64 t184, .int .i32 t185] 25 (0, 0)) (by (with_reducible repeat (first | refine blk_drewN ?_ _ | refine blk_drew ?_ | refine blk_alloc ?_ _)); exact BK187.out) hb); have n2_ := Aside0.mk (blk_below (g := gb188) (o := .cells #[.int .i64 0, .int .i64 0, .int .i64 0, .int .i64 0, .int .i64 0, .int .i32 0] 25 (0, 0)) (by (with_reducible repeat (first | refine blk_drewN ?_ _ | refine blk_drew ?_ | refine blk_alloc ?_ _)); exact BK188.out) hb); have n3_ := Aside0.mk (below_step (by repeat (first | (with_reducible first | exact HB.out | apply below_alloc | apply pw_below_drewN | apply below_drew1 | refine below_set ?_ GE186.out | refine below_set ?_ GE187.out | refine below_set ?_ GE188.out) | exact HB.out)) hb); clear BK186; clear BK187; clear BK188; clear HB; have BK186 := n0_; have BK187 := n1_; have BK188 := n2_; have HB := n3_; clear n0_ n1_ n2_ n3_; (try clear hb); (try clear hb2); (try clear hk); (try clear hi); have hcz160_0 : w159.cell? ⟨gb188, 0, none⟩ = some (.int .i64 0) := (blk_cell BK188.out 0).trans rfl; have hcz160_1 : w159.cell? ⟨gb188, 1, none⟩ = some (.int .i64 0) := (blk_cell BK188.out 1).trans rfl; have hcz160_2 : w159.cell? ⟨gb188, 2, none⟩ = some (.int .i64 0) := (blk_cell BK188.out 2).trans rfl; have hcz160_3 : w159.cell? ⟨gb188, 3, none⟩ = some (.int .i64 0) := (blk_cell BK188.out 3).trans rfl; have hcz160_4 : w159.cell? ⟨gb188, 4, none⟩ = some (.int .i64 0) := (blk_cell BK188.out 4).trans rfl; have hcz160_5 : w159.cell? ⟨gb188, 5, none⟩ = some (.int .i32 0) := (blk_cell BK188.out 5).trans rfl; have hfz160_0 := blk_frozen BK188.out 0; have hfz160_1 := blk_frozen BK188.out 1; have hfz160_2 := blk_frozen BK188.out 2; have hfz160_3 := blk_frozen BK188.out 3; have hfz160_4 := blk_frozen BK188.out 4; have hfz160_5 := blk_frozen BK188.out 5) | (go_at_call 13; (with_reducible refine (redpencillaw09_parses.calls (⟨#[51, 46, 55, 32, 114, 111, 111, 116, 32, 48, 53, 32, 45]⟩ : ByteArray) 0 0 0 0 0 0 6 true _ ?side1 A149.out).mono ?_); (case side1 => exact GOK_below HG.out (by repeat (first | (with_reducible first | exact HB.out | apply below_alloc | apply pw_below_drewN | apply below_drew1 | refine below_set ?_ GE186.out | refine below_set ?_ GE187.out | refine below_set ?_ GE188.out) | exact HB.out))); rintro e w161 ⟨rfl, hb⟩; have n0_ := Aside0.mk (blk_below (g := gb186) (o := .cells #[.int .i64 t174, .int .i64 t175, .int .i64 t176, .int .i64 t177, .int .i64 t178, .int .i32 t179] 25 (0, 0)) (by (with_reducible repeat (first | refine blk_drewN ?_ _ | refine blk_drew ?_ | refine blk_alloc ?_ _)); exact BK186.out) hb); have n1_ := Aside0.mk (blk_below (g := gb187) (o := .cells #[.int .i64 t180, .int .i64 t181, .int .i64 t182, .int .i64 t183, .int .i64 t184, .int .i32 t185] 25 (0, 0)) (by (with_reducible repeat (first | refine blk_drewN ?_ _ | refine blk_drew ?_ | refine blk_alloc ?_ _)); exact BK187.out) hb); have n2_ := Aside0.mk (blk_below (g := gb188) (o := .cells #[.int .i64 0, .int .i64 0, .int .i64 0, .int .i64 0, .int .i64 0, .int .i32 0] 25 (0, 0)) (by (with_reducible repeat (first | refine blk_drewN ?_ _ | refine blk_drew ?_ | refine blk_alloc ?_ _)); exact BK188.out) hb); have n3_ := Aside0.mk (below_step (by repeat (first | (with_reducible first | exact HB.out | apply below_alloc | apply pw_below_drewN | apply below_drew1 | refine below_set ?_ GE186.out | refine below_set ?_ GE187.out | refine below_set ?_ GE188.out) | exact HB.out)) hb); clear BK186; clear BK187; clear BK188; clear HB; have BK186 := n0_; have BK187 := n1_; have BK188 := n2_; have HB := n3_; clear n0_ n1_ n2_ n3_; (try clear hb); (try clear hb2); (try clear hk); (try clear hi); have hcz162_0 : w161.cell? ⟨gb188, 0, none⟩ = some (.int .i64 0) := (blk_cell BK188.out 0).trans rfl; have hcz162_1 : w161.cell? ⟨gb188, 1, none⟩ = some (.int .i64 0) := (blk_cell BK188.out 1).trans rfl; have hcz162_2 : w161.cell? ⟨gb188, 2, none⟩ = some (.int .i64 0) := (blk_cell BK188.out 2).trans rfl; have hcz162_3 : w161.cell? ⟨gb188, 3, none⟩ = some (.int .i64 0) := (blk_cell BK188.out 3).trans rfl; have hcz162_4 : w161.cell? ⟨gb188, 4, none⟩ = some (.int .i64 0) := (blk_cell BK188.out 4).trans rfl; have hcz162_5 : w161.cell? ⟨gb188, 5, none⟩ = some (.int .i32 0) := (blk_cell BK188.out 5).trans rfl; have hfz162_0 := blk_frozen BK188.out 0; have hfz162_1 := blk_frozen BK188.out 1; have hfz162_2 := blk_frozen BK188.out 2; have hfz162_3 := blk_frozen BK188.out 3; have hfz162_4 := blk_frozen BK188.out 4; have hfz162_5 := blk_frozen BK188.out 5) | (go_at_call 13; (with_reducible refine (redpencillaw09_parses.calls (⟨#[51, 46, 55, 32, 114, 111, 111, 116, 32, 53]⟩ : ByteArray) 0 0 0 0 0 0 6 true _ ?side1 A151.out).mono ?_); (case side1 => exact GOK_below HG.out (by repeat (first | (with_reducible first | exact HB.out | apply below_alloc | apply pw_below_drewN | apply below_drew1 | refine below_set ?_ GE186.out | refine below_set ?_ GE187.out | refine below_set ?_ GE188.out) | exact HB.out))); rintro e w163 ⟨rfl, hb⟩; have n0_ := Aside0.mk (blk_below (g := gb186) (o := .cells #[.int .i64 t174, .int .i64 t175, .int .i64 t176, .int .i64 t177, .int .i64 t178, .int .i32 t179] 25 (0, 0)) (by (with_reducible repeat (first | refine blk_drewN ?_ _ | refine blk_drew ?_ | refine blk_alloc ?_ _)); exact BK186.out) hb); have n1_ := Aside0.mk (blk_below (g := gb187) (o := .cells #[.int .i64 t180, .int .i64 t181, .int .i64 t182, .int .i64 t183, .int .i64 t184, .int .i32 t185] 25 (0, 0)) (by (with_reducible repeat (first | refine blk_drewN ?_ _ | refine blk_drew ?_ | refine blk_alloc ?_ _)); exact BK187.out) hb); have n2_ := Aside0.mk (blk_below (g := gb188) (o := .cells #[.int .i64 0, .int .i64 0, .int .i64 0, .int .i64 0, .int .i64 0, .int .i32 0] 25 (0, 0)) (by (with_reducible repeat (first | refine blk_drewN ?_ _ | refine blk_drew ?_ | refine blk_alloc ?_ _)); exact BK188.out) hb); have n3_ := Aside0.mk (below_step (by repeat (first | (with_reducible first | exact HB.out | apply below_alloc | apply pw_below_drewN | apply below_drew1 | refine below_set ?_ GE186.out | refine below_set ?_ GE187.out | refine below_set ?_ GE188.out) | exact HB.out)) hb); clear BK186; clear BK187; clear BK188; clear HB; have BK186 := n0_; have BK187 := n1_; have BK188 := n2_; have HB := n3_; clear n0_ n1_ n2_ n3_; (try clear hb); (try clear hb2); (try clear hk); (try clear hi)))
              go_ret
              exact ⟨by first | rfl | (simp [errW_none, errW_some] <;> rfl) | (simp [*, errW_none, errW_some] <;> rfl), by repeat (first | (with_reducible first | exact HB.out | apply below_alloc | apply pw_below_drewN | apply below_drew1 | refine below_set ?_ GE186.out | refine below_set ?_ GE187.out | refine below_set ?_ GE188.out) | exact HB.out)⟩
             ·
              replace c150 := Bool.eq_false_iff.mpr c150
              subst c150
              have H1 : (some false) = some true := by rw [if_neg (show ¬ (false = true) by decide)] at H; exact H
              exact absurd H1 (by simp)
            ·
             replace c148 := Bool.eq_false_iff.mpr c148
             subst c148
             have H1 : (some false) = some true := by rw [if_neg (show ¬ (false = true) by decide)] at H; exact H
             exact absurd H1 (by simp)
           ·
            replace c146 := Bool.eq_false_iff.mpr c146
            subst c146
            have H1 : (some false) = some true := by rw [if_neg (show ¬ (false = true) by decide)] at H; exact H
            exact absurd H1 (by simp)
          ·
           replace c143 := Bool.eq_false_iff.mpr c143
           subst c143
           have H1 : (some false) = some true := by rw [if_neg (show ¬ (false = true) by decide)] at H; exact H
           exact absurd H1 (by simp)
theorem redpencillaw09_known.at_ : redpencillaw09_known.f 60 = some true := by decide +kernel
theorem redpencillaw09_known.up_ : ∀ n, redpencillaw09_known.f (60 + n) = some true
  | 0 => redpencillaw09_known.at_
  | n + 1 => redpencillaw09_known.mono (60 + n) _ (redpencillaw09_known.up_ n)
theorem redpencillaw09_known.calls (k : Nat)  (r : Bool) (w : World) (hG : GOK w) (h : redpencillaw09_known.f k  = some r) :
  Calls Tryz.prog 8 #[] w fun e w' => e = .returned (.bool r) ∧ Below w.heap.size w w' := by
  have hr : r = true := by
    have hm : ∀ n, redpencillaw09_known.f (k + n) = some r := by
      intro n
      induction n with
      | zero => exact h
      | succ n ih => exact redpencillaw09_known.mono (k + n) _ ih
    have h1 := hm 60
    have h2 := redpencillaw09_known.up_ k
    rw [Nat.add_comm] at h1
    rw [h1] at h2
    exact Option.some.inj h2
  subst hr
  exact redpencillaw09_known.callsT k w hG h
end Go.Proofs.YtamggklblaigpaaGreatDoor.PAll
