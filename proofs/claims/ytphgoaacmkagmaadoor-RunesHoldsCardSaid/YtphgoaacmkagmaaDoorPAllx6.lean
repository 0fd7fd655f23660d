-- Printed by a program of this session (wip/tools/mkprint2.py) out of the translation; Lean checks it. -- narrowed
import Derived.Test.YtphgoaacmkagmaaDoorPAllx0
import Derived.Test.YtphgoaacmkagmaaDoorPAllx1
import Derived.Test.YtphgoaacmkagmaaDoorPAllx4
import Derived.Test.YtphgoaacmkagmaaDoorPAllx5
import Derived.Test.YtphgoaacmkagmaaDoorUs
namespace Go.Proofs.YtphgoaacmkagmaaDoor.PAll
open Go.RowKit Go.Proofs.YtphgoaacmkagmaaDoorW.PrintWords Go.Proofs.YtphgoaacmkagmaaDoorW.PrintLast Go.Proofs.YtphgoaacmkagmaaDoorW.PrintMore
attribute [local go_sem] max2_int min2_int max_two min_two max_three min_three max_four min_four   -- for this text's walks alone
set_option linter.unusedVariables false
set_option linter.unusedSimpArgs false

/-! ### redpencillaw02_RunesOne: function 3 -/
def redpencillaw02_RunesOne.j0 : Nat → Int → Bool → Option (Bool)
 | 0, _, _ => none
 | k + 1, x0, x15 => if x15 = true then (some false) else ((redpencilref02_Valid.f x0).bind fun t196 => (if t196 = true then ((redpencilref02_Bytes.f (wrap64 (x0))).bind fun t203 => ((redpencilref02_Name.f k x0).bind fun t206 => ((redpencillaw02_named.f x0 t206 0).bind fun t207 => (if t207 = true then ((redpencilref02_Name.f k x0).bind fun t208 => ((redpencillaw02_found.f t208 x0 0).bind fun t209 => (if t209 = true then ((redpencillaw02_encodes.f (([x0] : List Int)) (strOfNums t203) 0).bind fun t213 => (if t213 = true then ((redpencillaw02_decodes.f k (strOfNums t203) (([x0] : List Int)) 0).bind fun t217 => (if t217 = true then ((redpencillaw02_known.f k).bind fun t218 => (some t218)) else (some false))) else (some false))) else (some false)))) else (some false))))) else ((redpencillaw02_named.f x0 (⟨#[]⟩ : ByteArray) 13).bind fun t197 => (if t197 = true then ((redpencillaw02_encodes.f (([97, x0] : List Int)) (⟨#[]⟩ : ByteArray) 13).bind fun t201 => (if t201 = true then ((redpencillaw02_known.f k).bind fun t202 => (some t202)) else (some false))) else (some false)))))
def redpencillaw02_RunesOne.f (k : Nat) (a0 : Int) : Option (Bool) := (runes_Valid.f k a0).bind fun t192 => ((redpencilref02_Valid.f a0).bind fun t193 => (if (t192 != t193) = true then (redpencillaw02_RunesOne.j0 k a0 true) else ((runes_Size.f k a0).bind fun t194 => ((redpencilref02_Size.f a0).bind fun t195 => (redpencillaw02_RunesOne.j0 k a0 (t194 != t195))))))
set_option maxHeartbeats 8000000 in
set_option maxRecDepth 100000 in
theorem redpencillaw02_RunesOne.calls (k : Nat) (a0 : Int) (w : World) (hG : GOK w) (h : redpencillaw02_RunesOne.f k a0 = some true) :
  Calls Tryd.prog 3 #[.int .i32 a0] w fun e w' => e = .returned (.bool true) ∧ Below w.heap.size w w' := by
 have HB := Aside0.mk (Below.refl w.heap.size w)
 have HG := Aside0.mk hG
 clear hG
 have H : ((runes_Valid.f k a0).bind fun t192 => ((redpencilref02_Valid.f a0).bind fun t193 => (if (t192 != t193) = true then (redpencillaw02_RunesOne.j0 k a0 true) else ((runes_Size.f k a0).bind fun t194 => ((redpencilref02_Size.f a0).bind fun t195 => (redpencillaw02_RunesOne.j0 k a0 (t194 != t195))))))) = some true := h
 clear h
 have HC2 := Aside0.mk H
 clear H
 go_enter Tryd.func3, Tryd.ntmps3
 go_upto_region 1 with (fail)
 go_cut [15] (fun v15 wc => ∃ (kq : Nat) (x15_1 : Bool), v15 = .bool x15_1 ∧ Aside0 (redpencillaw02_RunesOne.j0 kq a0 x15_1 = some true) ∧ Aside0 (kq ≤ k) ∧ Aside0 (Below w.heap.size w wc))
 case first =>
  have H := HC2.out
  clear HC2
  replace H := Option.bind_eq_some_iff.mp H
  obtain ⟨t192, A30, H⟩ := H
  replace H : ((redpencilref02_Valid.f a0).bind fun t193 => (if (t192 != t193) = true then (redpencillaw02_RunesOne.j0 k a0 true) else ((runes_Size.f k a0).bind fun t194 => ((redpencilref02_Size.f a0).bind fun t195 => (redpencillaw02_RunesOne.j0 k a0 (t194 != t195)))))) = some true := H
  have A3 := Aside0.mk A30
  clear A30
  replace H := Option.bind_eq_some_iff.mp H
  obtain ⟨t193, A40, H⟩ := H
  replace H : (if (t192 != t193) = true then (redpencillaw02_RunesOne.j0 k a0 true) else ((runes_Size.f k a0).bind fun t194 => ((redpencilref02_Size.f a0).bind fun t195 => (redpencillaw02_RunesOne.j0 k a0 (t194 != t195))))) = some true := H
  have A4 := Aside0.mk A40
  clear A40
  by_cases c5 : (t192 != t193) = true
  ·
   rw [if_pos c5] at H
   have c5b0 : (t192 != t193) = true := c5
   (try (have c5b1 : decide (t192 = t193) = false := by simpa using c5))
   (try (have c5b2 : (t192 == t193) = false := by simpa using c5))
   (try (have c5b3 : ¬ (t192 = t193) := by simpa using c5))
   clear c5
   (first | rw [c5b0] | (simp only [i64_w, i32_w]; rw [c5b0]) | skip)
   have H' := Aside0.mk H
   clear H
   go_wp2_with (first | ((with_reducible refine gate_callee (f := 9) rfl ?_); refine goesL_ (some 5) rfl rfl Tryd.func9 (by kernel_rfl) rfl #[.int .i32 a0] rfl (by (try simp only [List.map_toArray, List.map_cons, List.map_nil]); first | done | rfl | (simp only [List.length_drop, List.length_take]; rfl)) ?_; (with_reducible refine (runes_Valid.calls k a0 t192 _ A3.out).mono ?_); rintro e w' ⟨rfl, ⟨nd, rfl⟩⟩; refine ⟨_, rfl, ?_⟩) | ((with_reducible refine gate_callee (f := 10) rfl ?_); refine goesL_ (some 7) rfl rfl Tryd.func10 (by kernel_rfl) rfl #[.int .i32 a0] rfl (by (try simp only [List.map_toArray, List.map_cons, List.map_nil]); first | done | rfl | (simp only [List.length_drop, List.length_take]; rfl)) ?_; (with_reducible refine (redpencilref02_Valid.calls a0 t193 _ A4.out).mono ?_); rintro e w' ⟨rfl, ⟨nd, rfl⟩⟩; refine ⟨_, rfl, ?_⟩))
   go_meet
   case rel => exact ⟨_, (true), (by first | rfl | (simp; done) | (simp [*]; done)), H', ⟨by first | omega | exact Nat.le_refl _⟩, ⟨by repeat (first | (with_reducible first | exact HB.out | apply below_alloc | apply pw_below_drewN | apply below_drew1) | exact HB.out)⟩⟩
  ·
   rw [if_neg c5] at H
   have c5b0 : (t192 != t193) = false := by simpa using c5
   (try (have c5b1 : decide (t192 = t193) = true := by simpa using c5))
   (try (have c5b2 : (t192 == t193) = true := by simpa using c5))
   clear c5
   (first | rw [c5b0] | (simp only [i64_w, i32_w]; rw [c5b0]) | skip)
   replace H := Option.bind_eq_some_iff.mp H
   obtain ⟨t194, A60, H⟩ := H
   replace H : ((redpencilref02_Size.f a0).bind fun t195 => (redpencillaw02_RunesOne.j0 k a0 (t194 != t195))) = some true := H
   have A6 := Aside0.mk A60
   clear A60
   replace H := Option.bind_eq_some_iff.mp H
   obtain ⟨t195, A70, H⟩ := H
   replace H : (redpencillaw02_RunesOne.j0 k a0 (t194 != t195)) = some true := H
   have A7 := Aside0.mk A70
   clear A70
   have H' := Aside0.mk H
   clear H
   go_wp2_with (first | ((with_reducible refine gate_callee (f := 9) rfl ?_); refine goesL_ (some 5) rfl rfl Tryd.func9 (by kernel_rfl) rfl #[.int .i32 a0] rfl (by (try simp only [List.map_toArray, List.map_cons, List.map_nil]); first | done | rfl | (simp only [List.length_drop, List.length_take]; rfl)) ?_; (with_reducible refine (runes_Valid.calls k a0 t192 _ A3.out).mono ?_); rintro e w' ⟨rfl, ⟨nd, rfl⟩⟩; refine ⟨_, rfl, ?_⟩) | ((with_reducible refine gate_callee (f := 10) rfl ?_); refine goesL_ (some 7) rfl rfl Tryd.func10 (by kernel_rfl) rfl #[.int .i32 a0] rfl (by (try simp only [List.map_toArray, List.map_cons, List.map_nil]); first | done | rfl | (simp only [List.length_drop, List.length_take]; rfl)) ?_; (with_reducible refine (redpencilref02_Valid.calls a0 t193 _ A4.out).mono ?_); rintro e w' ⟨rfl, ⟨nd, rfl⟩⟩; refine ⟨_, rfl, ?_⟩) | (go_at_call 11; (with_reducible refine (runes_Size.calls k a0 t194 _ A6.out).mono ?_); rintro e w' ⟨rfl, ⟨nd, rfl⟩⟩) | (go_at_call 12; (with_reducible refine (redpencilref02_Size.calls a0 t195 _ A7.out).mono ?_); rintro e w8 ⟨rfl, hb⟩; have n0_ := Aside0.mk (below_step (by repeat (first | (with_reducible first | exact HB.out | apply below_alloc | apply pw_below_drewN | apply below_drew1) | exact HB.out)) hb); clear HB; have HB := n0_; clear n0_; (try clear hb); (try clear hb2); (try clear hk); (try clear hi)))
   go_meet
   case rel => exact ⟨_, ((t194 != t195)), (by first | rfl | (simp; done) | (simp [*]; done)), H', ⟨by first | omega | exact Nat.le_refl _⟩, ⟨by repeat (first | (with_reducible first | exact HB.out | apply below_alloc | apply pw_below_drewN | apply below_drew1) | exact HB.out)⟩⟩
 case rest =>
  clear HC2
  try clear c1
  try clear p2
  try clear c3
  try clear c5
  try clear c5b0
  try clear c5b1
  try clear c5b2
  obtain ⟨kq, x15_1, rfl, HA, HJ1, HB⟩ := hcut
  cases kq with
  | zero => exact absurd HA.out (by simp [redpencillaw02_RunesOne.j0])
  | succ kj1 =>
   have H := HA.out
   clear HA
   simp only [redpencillaw02_RunesOne.j0] at H
   by_cases c9 : x15_1 = true
   ·
    subst c9
    have H1 : (some false) = some true := by rw [if_pos rfl] at H; exact H
    exact absurd H1 (by simp)
   ·
    replace c9 := Bool.eq_false_iff.mpr c9
    subst c9
    have H1 : ((redpencilref02_Valid.f a0).bind fun t196 => (if t196 = true then ((redpencilref02_Bytes.f (wrap64 (a0))).bind fun t203 => ((redpencilref02_Name.f kj1 a0).bind fun t206 => ((redpencillaw02_named.f a0 t206 0).bind fun t207 => (if t207 = true then ((redpencilref02_Name.f kj1 a0).bind fun t208 => ((redpencillaw02_found.f t208 a0 0).bind fun t209 => (if t209 = true then ((redpencillaw02_encodes.f (([a0] : List Int)) (strOfNums t203) 0).bind fun t213 => (if t213 = true then ((redpencillaw02_decodes.f kj1 (strOfNums t203) (([a0] : List Int)) 0).bind fun t217 => (if t217 = true then ((redpencillaw02_known.f kj1).bind fun t218 => (some t218)) else (some false))) else (some false))) else (some false)))) else (some false))))) else ((redpencillaw02_named.f a0 (⟨#[]⟩ : ByteArray) 13).bind fun t197 => (if t197 = true then ((redpencillaw02_encodes.f (([97, a0] : List Int)) (⟨#[]⟩ : ByteArray) 13).bind fun t201 => (if t201 = true then ((redpencillaw02_known.f kj1).bind fun t202 => (some t202)) else (some false))) else (some false))))) = some true := by rw [if_neg (show ¬ (false = true) by decide)] at H; exact H
    clear H
    have H := H1
    clear H1
    replace H := Option.bind_eq_some_iff.mp H
    obtain ⟨t196, A100, H⟩ := H
    replace H : (if t196 = true then ((redpencilref02_Bytes.f (wrap64 (a0))).bind fun t203 => ((redpencilref02_Name.f kj1 a0).bind fun t206 => ((redpencillaw02_named.f a0 t206 0).bind fun t207 => (if t207 = true then ((redpencilref02_Name.f kj1 a0).bind fun t208 => ((redpencillaw02_found.f t208 a0 0).bind fun t209 => (if t209 = true then ((redpencillaw02_encodes.f (([a0] : List Int)) (strOfNums t203) 0).bind fun t213 => (if t213 = true then ((redpencillaw02_decodes.f kj1 (strOfNums t203) (([a0] : List Int)) 0).bind fun t217 => (if t217 = true then ((redpencillaw02_known.f kj1).bind fun t218 => (some t218)) else (some false))) else (some false))) else (some false)))) else (some false))))) else ((redpencillaw02_named.f a0 (⟨#[]⟩ : ByteArray) 13).bind fun t197 => (if t197 = true then ((redpencillaw02_encodes.f (([97, a0] : List Int)) (⟨#[]⟩ : ByteArray) 13).bind fun t201 => (if t201 = true then ((redpencillaw02_known.f kj1).bind fun t202 => (some t202)) else (some false))) else (some false)))) = some true := H
    have A10 := Aside0.mk A100
    clear A100
    by_cases c11 : t196 = true
    ·
     subst c11
     have H1 : ((redpencilref02_Bytes.f (wrap64 (a0))).bind fun t203 => ((redpencilref02_Name.f kj1 a0).bind fun t206 => ((redpencillaw02_named.f a0 t206 0).bind fun t207 => (if t207 = true then ((redpencilref02_Name.f kj1 a0).bind fun t208 => ((redpencillaw02_found.f t208 a0 0).bind fun t209 => (if t209 = true then ((redpencillaw02_encodes.f (([a0] : List Int)) (strOfNums t203) 0).bind fun t213 => (if t213 = true then ((redpencillaw02_decodes.f kj1 (strOfNums t203) (([a0] : List Int)) 0).bind fun t217 => (if t217 = true then ((redpencillaw02_known.f kj1).bind fun t218 => (some t218)) else (some false))) else (some false))) else (some false)))) else (some false))))) = some true := by rw [if_pos rfl] at H; exact H
     clear H
     have H := H1
     clear H1
     replace H := Option.bind_eq_some_iff.mp H
     obtain ⟨t203, A120, H⟩ := H
     replace H : ((redpencilref02_Name.f kj1 a0).bind fun t206 => ((redpencillaw02_named.f a0 t206 0).bind fun t207 => (if t207 = true then ((redpencilref02_Name.f kj1 a0).bind fun t208 => ((redpencillaw02_found.f t208 a0 0).bind fun t209 => (if t209 = true then ((redpencillaw02_encodes.f (([a0] : List Int)) (strOfNums t203) 0).bind fun t213 => (if t213 = true then ((redpencillaw02_decodes.f kj1 (strOfNums t203) (([a0] : List Int)) 0).bind fun t217 => (if t217 = true then ((redpencillaw02_known.f kj1).bind fun t218 => (some t218)) else (some false))) else (some false))) else (some false)))) else (some false)))) = some true := H
     have A12 := Aside0.mk A120
     clear A120
     replace H := Option.bind_eq_some_iff.mp H
     obtain ⟨t206, A130, H⟩ := H
     replace H : ((redpencillaw02_named.f a0 t206 0).bind fun t207 => (if t207 = true then ((redpencilref02_Name.f kj1 a0).bind fun t208 => ((redpencillaw02_found.f t208 a0 0).bind fun t209 => (if t209 = true then ((redpencillaw02_encodes.f (([a0] : List Int)) (strOfNums t203) 0).bind fun t213 => (if t213 = true then ((redpencillaw02_decodes.f kj1 (strOfNums t203) (([a0] : List Int)) 0).bind fun t217 => (if t217 = true then ((redpencillaw02_known.f kj1).bind fun t218 => (some t218)) else (some false))) else (some false))) else (some false)))) else (some false))) = some true := H
     have A13 := Aside0.mk A130
     clear A130
     replace H := Option.bind_eq_some_iff.mp H
     obtain ⟨t207, A140, H⟩ := H
     replace H : (if t207 = true then ((redpencilref02_Name.f kj1 a0).bind fun t208 => ((redpencillaw02_found.f t208 a0 0).bind fun t209 => (if t209 = true then ((redpencillaw02_encodes.f (([a0] : List Int)) (strOfNums t203) 0).bind fun t213 => (if t213 = true then ((redpencillaw02_decodes.f kj1 (strOfNums t203) (([a0] : List Int)) 0).bind fun t217 => (if t217 = true then ((redpencillaw02_known.f kj1).bind fun t218 => (some t218)) else (some false))) else (some false))) else (some false)))) else (some false)) = some true := H
     have A14 := Aside0.mk A140
     clear A140
     by_cases c15 : t207 = true
     ·
      subst c15
      have H1 : ((redpencilref02_Name.f kj1 a0).bind fun t208 => ((redpencillaw02_found.f t208 a0 0).bind fun t209 => (if t209 = true then ((redpencillaw02_encodes.f (([a0] : List Int)) (strOfNums t203) 0).bind fun t213 => (if t213 = true then ((redpencillaw02_decodes.f kj1 (strOfNums t203) (([a0] : List Int)) 0).bind fun t217 => (if t217 = true then ((redpencillaw02_known.f kj1).bind fun t218 => (some t218)) else (some false))) else (some false))) else (some false)))) = some true := by rw [if_pos rfl] at H; exact H
      clear H
      have H := H1
      clear H1
      replace H := Option.bind_eq_some_iff.mp H
      obtain ⟨t208, A160, H⟩ := H
      replace H : ((redpencillaw02_found.f t208 a0 0).bind fun t209 => (if t209 = true then ((redpencillaw02_encodes.f (([a0] : List Int)) (strOfNums t203) 0).bind fun t213 => (if t213 = true then ((redpencillaw02_decodes.f kj1 (strOfNums t203) (([a0] : List Int)) 0).bind fun t217 => (if t217 = true then ((redpencillaw02_known.f kj1).bind fun t218 => (some t218)) else (some false))) else (some false))) else (some false))) = some true := H
      have A16 := Aside0.mk A160
      clear A160
      replace H := Option.bind_eq_some_iff.mp H
      obtain ⟨t209, A170, H⟩ := H
      replace H : (if t209 = true then ((redpencillaw02_encodes.f (([a0] : List Int)) (strOfNums t203) 0).bind fun t213 => (if t213 = true then ((redpencillaw02_decodes.f kj1 (strOfNums t203) (([a0] : List Int)) 0).bind fun t217 => (if t217 = true then ((redpencillaw02_known.f kj1).bind fun t218 => (some t218)) else (some false))) else (some false))) else (some false)) = some true := H
      have A17 := Aside0.mk A170
      clear A170
      by_cases c18 : t209 = true
      ·
       subst c18
       have H1 : ((redpencillaw02_encodes.f (([a0] : List Int)) (strOfNums t203) 0).bind fun t213 => (if t213 = true then ((redpencillaw02_decodes.f kj1 (strOfNums t203) (([a0] : List Int)) 0).bind fun t217 => (if t217 = true then ((redpencillaw02_known.f kj1).bind fun t218 => (some t218)) else (some false))) else (some false))) = some true := by rw [if_pos rfl] at H; exact H
       clear H
       have H := H1
       clear H1
       obtain ⟨y210, hy210⟩ : ∃ y_ : List Int, y_ = (([a0] : List Int)) := ⟨_, rfl⟩
       replace H : ((redpencillaw02_encodes.f y210 (strOfNums t203) 0).bind fun t213 => (if t213 = true then ((redpencillaw02_decodes.f kj1 (strOfNums t203) (([a0] : List Int)) 0).bind fun t217 => (if t217 = true then ((redpencillaw02_known.f kj1).bind fun t218 => (some t218)) else (some false))) else (some false))) = some true := by first | (rw [hy210]; with_reducible exact H) | (have H2_ := (Option.bind_some _ _).symm.trans H; rw [hy210]; with_reducible exact H2_) | (have H2_ := (Option.bind_some _ _).symm.trans H; with_reducible exact H2_) | with_reducible exact H | (rw [hy210]; exact H) | exact H
       have Ny210 := Aside0.mk hy210
       clear hy210
       replace H := Option.bind_eq_some_iff.mp H
       obtain ⟨t213, A190, H⟩ := H
       replace H : (if t213 = true then ((redpencillaw02_decodes.f kj1 (strOfNums t203) (([a0] : List Int)) 0).bind fun t217 => (if t217 = true then ((redpencillaw02_known.f kj1).bind fun t218 => (some t218)) else (some false))) else (some false)) = some true := H
       have A19 := Aside0.mk A190
       clear A190
       by_cases c20 : t213 = true
       ·
        subst c20
        have H1 : ((redpencillaw02_decodes.f kj1 (strOfNums t203) (([a0] : List Int)) 0).bind fun t217 => (if t217 = true then ((redpencillaw02_known.f kj1).bind fun t218 => (some t218)) else (some false))) = some true := by rw [if_pos rfl] at H; exact H
        clear H
        have H := H1
        clear H1
        obtain ⟨y214, hy214⟩ : ∃ y_ : List Int, y_ = (([a0] : List Int)) := ⟨_, rfl⟩
        replace H : ((redpencillaw02_decodes.f kj1 (strOfNums t203) y214 0).bind fun t217 => (if t217 = true then ((redpencillaw02_known.f kj1).bind fun t218 => (some t218)) else (some false))) = some true := by first | (rw [hy214]; with_reducible exact H) | (have H2_ := (Option.bind_some _ _).symm.trans H; rw [hy214]; with_reducible exact H2_) | (have H2_ := (Option.bind_some _ _).symm.trans H; with_reducible exact H2_) | with_reducible exact H | (rw [hy214]; exact H) | exact H
        have Ny214 := Aside0.mk hy214
        clear hy214
        replace H := Option.bind_eq_some_iff.mp H
        obtain ⟨t217, A210, H⟩ := H
        replace H : (if t217 = true then ((redpencillaw02_known.f kj1).bind fun t218 => (some t218)) else (some false)) = some true := H
        have A21 := Aside0.mk A210
        clear A210
        by_cases c22 : t217 = true
        ·
         subst c22
         have H1 : ((redpencillaw02_known.f kj1).bind fun t218 => (some t218)) = some true := by rw [if_pos rfl] at H; exact H
         clear H
         have H := H1
         clear H1
         replace H := Option.bind_eq_some_iff.mp H
         obtain ⟨t218, A230, H⟩ := H
         replace H : (some t218) = some true := H
         have A23 := Aside0.mk A230
         clear A230
         obtain rfl := Option.some.inj H
         go_wp2_with (first | ((with_reducible refine gate_callee (f := 10) rfl ?_); refine goesL_ (some 17) rfl rfl Tryd.func10 (by kernel_rfl) rfl #[.int .i32 a0] rfl (by (try simp only [List.map_toArray, List.map_cons, List.map_nil]); first | done | rfl | (simp only [List.length_drop, List.length_take]; rfl)) ?_; (with_reducible refine (redpencilref02_Valid.calls a0 true _ A10.out).mono ?_); rintro e w' ⟨rfl, ⟨nd, rfl⟩⟩; refine ⟨_, rfl, ?_⟩) | ((with_reducible refine gate_callee (f := 16) rfl ?_); refine goesL_ (some 31) rfl rfl Tryd.func16 (by kernel_rfl) rfl #[.int .i64 (wrap64 (a0))] rfl (by (try simp only [List.map_toArray, List.map_cons, List.map_nil]); first | done | rfl | (simp only [List.length_drop, List.length_take]; rfl)) ?_; (with_reducible refine (redpencilref02_Bytes.calls (wrap64 (a0)) t203 _ A12.out).mono ?_); rintro e w24 ⟨v204, rfl, ho0, hb⟩; refine ⟨_, rfl, ?_⟩; have n0_ := Aside0.mk (Kd.R_lower ho0 (below_size (by repeat (first | (with_reducible first | exact HB.out | apply below_alloc | apply pw_below_drewN | apply below_drew1) | exact HB.out)))); have n1_ := Aside0.mk (below_step (by repeat (first | (with_reducible first | exact HB.out | apply below_alloc | apply pw_below_drewN | apply below_drew1) | exact HB.out)) hb); clear HB; have HO205 := n0_; have HB := n1_; clear n0_ n1_; (try clear hb); (try clear hb2); (try clear hk); (try clear hi); (try clear ho0); have hcv25 := own_string (P := Tryd.prog) Tryd.underlying29 Tryd.underlying5 Tryd.underlying9 (Kd.own_of_R HO205.out)) | ((with_reducible refine gate_callee (f := 17) rfl ?_); refine goesL_ (some 35) rfl rfl Tryd.func17 (by kernel_rfl) rfl #[.int .i32 a0] rfl (by (try simp only [List.map_toArray, List.map_cons, List.map_nil]); first | done | rfl | (simp only [List.length_drop, List.length_take]; rfl)) ?_; (with_reducible refine (redpencilref02_Name.calls kj1 a0 t206 _ A13.out).mono ?_); rintro e w' ⟨rfl, ⟨nd, rfl⟩⟩; refine ⟨_, rfl, ?_⟩) | ((with_reducible refine gate_callee (f := 13) rfl ?_); refine goesL_ (some 36) rfl rfl Tryd.func13 (by kernel_rfl) rfl #[.int .i32 a0, .string t206, .int .i64 0] rfl (by (try simp only [List.map_toArray, List.map_cons, List.map_nil]); first | done | rfl | (simp only [List.length_drop, List.length_take]; rfl)) ?_; (with_reducible refine (redpencillaw02_named.calls a0 t206 0 true _ ?side1 A14.out).mono ?_); (case side1 => exact GOK_below HG.out (by repeat (first | (with_reducible first | exact HB.out | apply below_alloc | apply pw_below_drewN | apply below_drew1) | exact HB.out))); rintro e w26 ⟨rfl, hb⟩; refine ⟨_, rfl, ?_⟩; have n0_ := Aside0.mk (Kd.R_below (by (with_reducible repeat (first | apply Kd.R_alloc | apply Kd.R_drewN | apply Kd.R_drew)); exact HO205.out) hb); have n1_ := Aside0.mk (below_step (by repeat (first | (with_reducible first | exact HB.out | apply below_alloc | apply pw_below_drewN | apply below_drew1) | exact HB.out)) hb); clear HO205; clear HB; have HO205 := n0_; have HB := n1_; clear n0_ n1_; (try clear hb); (try clear hb2); (try clear hk); (try clear hi)) | (go_at_call 17; (with_reducible refine (redpencilref02_Name.calls kj1 a0 t208 _ A16.out).mono ?_); rintro e w' ⟨rfl, ⟨nd, rfl⟩⟩) | (go_at_call 18; (with_reducible refine (redpencillaw02_found.calls t208 a0 0 true _ ?side1 A17.out).mono ?_); (case side1 => exact GOK_below HG.out (by repeat (first | (with_reducible first | exact HB.out | apply below_alloc | apply pw_below_drewN | apply below_drew1) | exact HB.out))); rintro e w27 ⟨rfl, hb⟩; have n0_ := Aside0.mk (Kd.R_below (by (with_reducible repeat (first | apply Kd.R_alloc | apply Kd.R_drewN | apply Kd.R_drew)); exact HO205.out) hb); have n1_ := Aside0.mk (below_step (by repeat (first | (with_reducible first | exact HB.out | apply below_alloc | apply pw_below_drewN | apply below_drew1) | exact HB.out)) hb); clear HO205; clear HB; have HO205 := n0_; have HB := n1_; clear n0_ n1_; (try clear hb); (try clear hb2); (try clear hk); (try clear hi)) | ((with_reducible refine gate_dst (N := 45) rfl ?_); (try (refine gate_guard (by rfl) ?_; dsimp only)); refine Kd.R_lit (Kd.int .i32) _ 21 ?hg (N := 45) ?hd (xs := ([a0] : List Int)) (inner := [.int .i32 a0]) (ok := fun _ => True) (okp := fun _ => True) ?hr ?hp (fun _ hk => hk) trivial (Below.refl _ _) (Nat.le_refl _) (by simp) ?_; (case hd => rfl); (case hg => rfl); (case hr => first | (go_simp; done) | (go_simp; rfl)); (case hp => exact (Reps.one (show Kd.M (Kd.int .i32) _ _ _ a0 [.int .i32 a0] from rfl) (Reps.none _ _))); intro v211 w28 ho29 hb hg_ hnew_; clear hg_ hnew_; (first | rw [← Ny210.out] at ho29 | (simp only [Int.reduceToNat] at ho29; rw [← Ny210.out] at ho29)); have n0_ := Aside0.mk (Kd.R_below (by (with_reducible repeat (first | apply Kd.R_alloc | apply Kd.R_drewN | apply Kd.R_drew)); exact HO205.out) hb); have n1_ := Aside0.mk (Kd.R_lower ho29 (below_size (by repeat (first | (with_reducible first | exact HB.out | apply below_alloc | apply pw_below_drewN | apply below_drew1) | exact HB.out)))); have n2_ := Aside0.mk (below_step (by repeat (first | (with_reducible first | exact HB.out | apply below_alloc | apply pw_below_drewN | apply below_drew1) | exact HB.out)) hb); clear HO205; clear HB; have HO205 := n0_; have HO212 := n1_; have HB := n2_; clear n0_ n1_ n2_; clear hb ho29; obtain ⟨Ao30, co30, eo30⟩ := Kd.R_slice HO212.out; subst eo30) | (go_at_call 14; (with_reducible refine (redpencillaw02_encodes.calls _ _ y210 (strOfNums t203) 0 true _ ?side1 ?side2 A19.out).mono ?_); (case side1 => repeat (first | exact (Kd.R_reads' HO212.out).2.2 | (with_reducible refine Kd.C_alloc ?_ _) | (with_reducible refine Kd.C_drewN ?_ _) | (with_reducible refine Kd.C_drew ?_))); (case side2 => exact (Kd.R_reads' HO212.out).2.1); rintro e w31 ⟨rfl, hb⟩; have n0_ := Aside0.mk (Kd.R_below (by (with_reducible repeat (first | apply Kd.R_alloc | apply Kd.R_drewN | apply Kd.R_drew)); exact HO205.out) hb); have n1_ := Aside0.mk (Kd.R_below (by (with_reducible repeat (first | apply Kd.R_alloc | apply Kd.R_drewN | apply Kd.R_drew)); exact HO212.out) hb); have n2_ := Aside0.mk (below_step (by repeat (first | (with_reducible first | exact HB.out | apply below_alloc | apply pw_below_drewN | apply below_drew1) | exact HB.out)) hb); clear HO205; clear HO212; clear HB; have HO205 := n0_; have HO212 := n1_; have HB := n2_; clear n0_ n1_ n2_; (try clear hb); (try clear hb2); (try clear hk); (try clear hi)) | ((with_reducible refine gate_dst (N := 52) rfl ?_); (try (refine gate_guard (by rfl) ?_; dsimp only)); refine Kd.R_lit (Kd.int .i32) _ 21 ?hg (N := 52) ?hd (xs := ([a0] : List Int)) (inner := [.int .i32 a0]) (ok := fun _ => True) (okp := fun _ => True) ?hr ?hp (fun _ hk => hk) trivial (Below.refl _ _) (Nat.le_refl _) (by simp) ?_; (case hd => rfl); (case hg => rfl); (case hr => first | (go_simp; done) | (go_simp; rfl)); (case hp => exact (Reps.one (show Kd.M (Kd.int .i32) _ _ _ a0 [.int .i32 a0] from rfl) (Reps.none _ _))); intro v215 w32 ho33 hb hg_ hnew_; clear hg_ hnew_; (first | rw [← Ny214.out] at ho33 | (simp only [Int.reduceToNat] at ho33; rw [← Ny214.out] at ho33)); have n0_ := Aside0.mk (Kd.R_below (by (with_reducible repeat (first | apply Kd.R_alloc | apply Kd.R_drewN | apply Kd.R_drew)); exact HO205.out) hb); have n1_ := Aside0.mk (Kd.R_elder' (by (with_reducible repeat (first | apply Kd.R_alloc | apply Kd.R_drewN | apply Kd.R_drew)); exact HO212.out) (Kd.R_base ho33) hb); have n2_ := Aside0.mk (Kd.R_lower (Kd.R_new' ho33 (Kd.R_lt (by (with_reducible repeat (first | apply Kd.R_alloc | apply Kd.R_drewN | apply Kd.R_drew)); exact HO212.out))) (below_size (by repeat (first | (with_reducible first | exact HB.out | apply below_alloc | apply pw_below_drewN | apply below_drew1) | exact HB.out)))); have n3_ := Aside0.mk (below_step (by repeat (first | (with_reducible first | exact HB.out | apply below_alloc | apply pw_below_drewN | apply below_drew1) | exact HB.out)) hb); clear HO205; clear HO212; clear HB; have HO205 := n0_; have HO212 := n1_; have HO216 := n2_; have HB := n3_; clear n0_ n1_ n2_ n3_; clear hb ho33; obtain ⟨Ao34, co34, eo34⟩ := Kd.R_slice HO216.out; subst eo34) | (go_at_call 19; (with_reducible refine (redpencillaw02_decodes.calls kj1 (strOfNums t203) _ _ y214 0 true _ ?side1 ?side2 ?side3 A21.out).mono ?_); (case side1 => exact GOK_below HG.out (by repeat (first | (with_reducible first | exact HB.out | apply below_alloc | apply pw_below_drewN | apply below_drew1) | exact HB.out))); (case side2 => repeat (first | exact (Kd.R_reads' HO216.out).2.2 | (with_reducible refine Kd.C_alloc ?_ _) | (with_reducible refine Kd.C_drewN ?_ _) | (with_reducible refine Kd.C_drew ?_))); (case side3 => exact (Kd.R_reads' HO216.out).2.1); rintro e w35 ⟨rfl, hb⟩; have n0_ := Aside0.mk (Kd.R_below (by (with_reducible repeat (first | apply Kd.R_alloc | apply Kd.R_drewN | apply Kd.R_drew)); exact HO205.out) hb); have n1_ := Aside0.mk (Kd.R_below (by (with_reducible repeat (first | apply Kd.R_alloc | apply Kd.R_drewN | apply Kd.R_drew)); exact HO212.out) hb); have n2_ := Aside0.mk (Kd.R_below (by (with_reducible repeat (first | apply Kd.R_alloc | apply Kd.R_drewN | apply Kd.R_drew)); exact HO216.out) hb); have n3_ := Aside0.mk (below_step (by repeat (first | (with_reducible first | exact HB.out | apply below_alloc | apply pw_below_drewN | apply below_drew1) | exact HB.out)) hb); clear HO205; clear HO212; clear HO216; clear HB; have HO205 := n0_; have HO212 := n1_; have HO216 := n2_; have HB := n3_; clear n0_ n1_ n2_ n3_; (try clear hb); (try clear hb2); (try clear hk); (try clear hi)) | (go_at_call 15; (with_reducible refine (redpencillaw02_known.calls kj1  true _ ?side1 A23.out).mono ?_); (case side1 => exact GOK_below HG.out (by repeat (first | (with_reducible first | exact HB.out | apply below_alloc | apply pw_below_drewN | apply below_drew1) | exact HB.out))); rintro e w36 ⟨rfl, hb⟩; have n0_ := Aside0.mk (Kd.R_below (by (with_reducible repeat (first | apply Kd.R_alloc | apply Kd.R_drewN | apply Kd.R_drew)); exact HO205.out) hb); have n1_ := Aside0.mk (Kd.R_below (by (with_reducible repeat (first | apply Kd.R_alloc | apply Kd.R_drewN | apply Kd.R_drew)); exact HO212.out) hb); have n2_ := Aside0.mk (Kd.R_below (by (with_reducible repeat (first | apply Kd.R_alloc | apply Kd.R_drewN | apply Kd.R_drew)); exact HO216.out) hb); have n3_ := Aside0.mk (below_step (by repeat (first | (with_reducible first | exact HB.out | apply below_alloc | apply pw_below_drewN | apply below_drew1) | exact HB.out)) hb); clear HO205; clear HO212; clear HO216; clear HB; have HO205 := n0_; have HO212 := n1_; have HO216 := n2_; have HB := n3_; clear n0_ n1_ n2_ n3_; (try clear hb); (try clear hb2); (try clear hk); (try clear hi)))
         go_ret
         exact ⟨by first | rfl | (simp [errW_none, errW_some] <;> rfl) | (simp [*, errW_none, errW_some] <;> rfl), by repeat (first | (with_reducible first | exact HB.out | apply below_alloc | apply pw_below_drewN | apply below_drew1) | exact HB.out)⟩
        ·
         replace c22 := Bool.eq_false_iff.mpr c22
         subst c22
         have H1 : (some false) = some true := by rw [if_neg (show ¬ (false = true) by decide)] at H; exact H
         exact absurd H1 (by simp)
       ·
        replace c20 := Bool.eq_false_iff.mpr c20
        subst c20
        have H1 : (some false) = some true := by rw [if_neg (show ¬ (false = true) by decide)] at H; exact H
        exact absurd H1 (by simp)
      ·
       replace c18 := Bool.eq_false_iff.mpr c18
       subst c18
       have H1 : (some false) = some true := by rw [if_neg (show ¬ (false = true) by decide)] at H; exact H
       exact absurd H1 (by simp)
     ·
      replace c15 := Bool.eq_false_iff.mpr c15
      subst c15
      have H1 : (some false) = some true := by rw [if_neg (show ¬ (false = true) by decide)] at H; exact H
      exact absurd H1 (by simp)
    ·
     replace c11 := Bool.eq_false_iff.mpr c11
     subst c11
     have H1 : ((redpencillaw02_named.f a0 (⟨#[]⟩ : ByteArray) 13).bind fun t197 => (if t197 = true then ((redpencillaw02_encodes.f (([97, a0] : List Int)) (⟨#[]⟩ : ByteArray) 13).bind fun t201 => (if t201 = true then ((redpencillaw02_known.f kj1).bind fun t202 => (some t202)) else (some false))) else (some false))) = some true := by rw [if_neg (show ¬ (false = true) by decide)] at H; exact H
     clear H
     have H := H1
     clear H1
     replace H := Option.bind_eq_some_iff.mp H
     obtain ⟨t197, A640, H⟩ := H
     replace H : (if t197 = true then ((redpencillaw02_encodes.f (([97, a0] : List Int)) (⟨#[]⟩ : ByteArray) 13).bind fun t201 => (if t201 = true then ((redpencillaw02_known.f kj1).bind fun t202 => (some t202)) else (some false))) else (some false)) = some true := H
     have A64 := Aside0.mk A640
     clear A640
     by_cases c65 : t197 = true
     ·
      subst c65
      have H1 : ((redpencillaw02_encodes.f (([97, a0] : List Int)) (⟨#[]⟩ : ByteArray) 13).bind fun t201 => (if t201 = true then ((redpencillaw02_known.f kj1).bind fun t202 => (some t202)) else (some false))) = some true := by rw [if_pos rfl] at H; exact H
      clear H
      have H := H1
      clear H1
      obtain ⟨y198, hy198⟩ : ∃ y_ : List Int, y_ = (([97, a0] : List Int)) := ⟨_, rfl⟩
      replace H : ((redpencillaw02_encodes.f y198 (⟨#[]⟩ : ByteArray) 13).bind fun t201 => (if t201 = true then ((redpencillaw02_known.f kj1).bind fun t202 => (some t202)) else (some false))) = some true := by first | (rw [hy198]; with_reducible exact H) | (have H2_ := (Option.bind_some _ _).symm.trans H; rw [hy198]; with_reducible exact H2_) | (have H2_ := (Option.bind_some _ _).symm.trans H; with_reducible exact H2_) | with_reducible exact H | (rw [hy198]; exact H) | exact H
      have Ny198 := Aside0.mk hy198
      clear hy198
      replace H := Option.bind_eq_some_iff.mp H
      obtain ⟨t201, A660, H⟩ := H
      replace H : (if t201 = true then ((redpencillaw02_known.f kj1).bind fun t202 => (some t202)) else (some false)) = some true := H
      have A66 := Aside0.mk A660
      clear A660
      by_cases c67 : t201 = true
      ·
       subst c67
       have H1 : ((redpencillaw02_known.f kj1).bind fun t202 => (some t202)) = some true := by rw [if_pos rfl] at H; exact H
       clear H
       have H := H1
       clear H1
       replace H := Option.bind_eq_some_iff.mp H
       obtain ⟨t202, A680, H⟩ := H
       replace H : (some t202) = some true := H
       have A68 := Aside0.mk A680
       clear A680
       obtain rfl := Option.some.inj H
       go_wp2_with (first | ((with_reducible refine gate_callee (f := 10) rfl ?_); refine goesL_ (some 17) rfl rfl Tryd.func10 (by kernel_rfl) rfl #[.int .i32 a0] rfl (by (try simp only [List.map_toArray, List.map_cons, List.map_nil]); first | done | rfl | (simp only [List.length_drop, List.length_take]; rfl)) ?_; (with_reducible refine (redpencilref02_Valid.calls a0 false _ A10.out).mono ?_); rintro e w' ⟨rfl, ⟨nd, rfl⟩⟩; refine ⟨_, rfl, ?_⟩) | ((with_reducible refine gate_callee (f := 13) rfl ?_); refine goesL_ (some 20) rfl rfl Tryd.func13 (by kernel_rfl) rfl #[.int .i32 a0, .string (⟨#[]⟩ : ByteArray), .int .i64 13] rfl (by (try simp only [List.map_toArray, List.map_cons, List.map_nil]); first | done | rfl | (simp only [List.length_drop, List.length_take]; rfl)) ?_; (with_reducible refine (redpencillaw02_named.calls a0 (⟨#[]⟩ : ByteArray) 13 true _ ?side1 A64.out).mono ?_); (case side1 => exact GOK_below HG.out (by repeat (first | (with_reducible first | exact HB.out | apply below_alloc | apply pw_below_drewN | apply below_drew1) | exact HB.out))); rintro e w69 ⟨rfl, hb⟩; refine ⟨_, rfl, ?_⟩; have n0_ := Aside0.mk (below_step (by repeat (first | (with_reducible first | exact HB.out | apply below_alloc | apply pw_below_drewN | apply below_drew1) | exact HB.out)) hb); clear HB; have HB := n0_; clear n0_; (try clear hb); (try clear hb2); (try clear hk); (try clear hi)) | ((with_reducible refine gate_dst (N := 23) rfl ?_); (try (refine gate_guard (by rfl) ?_; dsimp only)); refine Kd.R_lit (Kd.int .i32) _ 21 ?hg (N := 23) ?hd (xs := ([97, a0] : List Int)) (inner := [.int .i32 97, .int .i32 a0]) (ok := fun _ => True) (okp := fun _ => True) ?hr ?hp (fun _ hk => hk) trivial (Below.refl _ _) (Nat.le_refl _) (by simp) ?_; (case hd => rfl); (case hg => rfl); (case hr => first | (go_simp; done) | (go_simp; rfl)); (case hp => exact (Reps.one (show Kd.M (Kd.int .i32) _ _ _ 97 [.int .i32 97] from rfl) (Reps.one (show Kd.M (Kd.int .i32) _ _ _ a0 [.int .i32 a0] from rfl) (Reps.none _ _)))); intro v199 w70 ho71 hb hg_ hnew_; clear hg_ hnew_; (first | rw [← Ny198.out] at ho71 | (simp only [Int.reduceToNat] at ho71; rw [← Ny198.out] at ho71)); have n0_ := Aside0.mk (Kd.R_lower ho71 (below_size (by repeat (first | (with_reducible first | exact HB.out | apply below_alloc | apply pw_below_drewN | apply below_drew1) | exact HB.out)))); have n1_ := Aside0.mk (below_step (by repeat (first | (with_reducible first | exact HB.out | apply below_alloc | apply pw_below_drewN | apply below_drew1) | exact HB.out)) hb); clear HB; have HO200 := n0_; have HB := n1_; clear n0_ n1_; clear hb ho71; obtain ⟨Ao72, co72, eo72⟩ := Kd.R_slice HO200.out; subst eo72) | (go_at_call 14; (with_reducible refine (redpencillaw02_encodes.calls _ _ y198 (⟨#[]⟩ : ByteArray) 13 true _ ?side1 ?side2 A66.out).mono ?_); (case side1 => repeat (first | exact (Kd.R_reads' HO200.out).2.2 | (with_reducible refine Kd.C_alloc ?_ _) | (with_reducible refine Kd.C_drewN ?_ _) | (with_reducible refine Kd.C_drew ?_))); (case side2 => exact (Kd.R_reads' HO200.out).2.1); rintro e w73 ⟨rfl, hb⟩; have n0_ := Aside0.mk (Kd.R_below (by (with_reducible repeat (first | apply Kd.R_alloc | apply Kd.R_drewN | apply Kd.R_drew)); exact HO200.out) hb); have n1_ := Aside0.mk (below_step (by repeat (first | (with_reducible first | exact HB.out | apply below_alloc | apply pw_below_drewN | apply below_drew1) | exact HB.out)) hb); clear HO200; clear HB; have HO200 := n0_; have HB := n1_; clear n0_ n1_; (try clear hb); (try clear hb2); (try clear hk); (try clear hi)) | (go_at_call 15; (with_reducible refine (redpencillaw02_known.calls kj1  true _ ?side1 A68.out).mono ?_); (case side1 => exact GOK_below HG.out (by repeat (first | (with_reducible first | exact HB.out | apply below_alloc | apply pw_below_drewN | apply below_drew1) | exact HB.out))); rintro e w74 ⟨rfl, hb⟩; have n0_ := Aside0.mk (Kd.R_below (by (with_reducible repeat (first | apply Kd.R_alloc | apply Kd.R_drewN | apply Kd.R_drew)); exact HO200.out) hb); have n1_ := Aside0.mk (below_step (by repeat (first | (with_reducible first | exact HB.out | apply below_alloc | apply pw_below_drewN | apply below_drew1) | exact HB.out)) hb); clear HO200; clear HB; have HO200 := n0_; have HB := n1_; clear n0_ n1_; (try clear hb); (try clear hb2); (try clear hk); (try clear hi)))
       go_ret
       exact ⟨by first | rfl | (simp [errW_none, errW_some] <;> rfl) | (simp [*, errW_none, errW_some] <;> rfl), by repeat (first | (with_reducible first | exact HB.out | apply below_alloc | apply pw_below_drewN | apply below_drew1) | exact HB.out)⟩
      ·
       replace c67 := Bool.eq_false_iff.mpr c67
       subst c67
       have H1 : (some false) = some true := by rw [if_neg (show ¬ (false = true) by decide)] at H; exact H
       exact absurd H1 (by simp)
     ·
      replace c65 := Bool.eq_false_iff.mpr c65
      subst c65
      have H1 : (some false) = some true := by rw [if_neg (show ¬ (false = true) by decide)] at H; exact H
      exact absurd H1 (by simp)
end Go.Proofs.YtphgoaacmkagmaaDoor.PAll
