-- Printed by a program of this session (wip/tools/mkprint2.py) out of the translation; Lean checks it. -- narrowed
import Derived.Test.YtphgoaacmkagmaaDoorPAllx0
import Derived.Test.YtphgoaacmkagmaaDoorPAllx3
import Derived.Test.YtphgoaacmkagmaaDoorPAllx4
import Derived.Test.YtphgoaacmkagmaaDoorPAllx5
import Derived.Test.YtphgoaacmkagmaaDoorUs
namespace Go.Proofs.YtphgoaacmkagmaaDoor.PAll
open Go.RowKit Go.Proofs.YtphgoaacmkagmaaDoorW.PrintWords Go.Proofs.YtphgoaacmkagmaaDoorW.PrintLast Go.Proofs.YtphgoaacmkagmaaDoorW.PrintMore
attribute [local go_sem] max2_int min2_int max_two min_two max_three min_three max_four min_four   -- for this text's walks alone
set_option linter.unusedVariables false
set_option linter.unusedSimpArgs false

/-! ### redpencillaw02_RunesNames: function 7 -/
def redpencillaw02_RunesNames.f (k : Nat) (a0 : ByteArray) : Option (Bool) := if (a0.size : Int) > 60 then ((redpencillaw02_known.f k).bind fun t276 => (some t276)) else ((redpencilref02_ByName.f k a0).bind fun bt277 => (if bt277.2 = true then ((redpencillaw02_found.f a0 bt277.1 0).bind fun t279 => (if t279 = true then ((redpencillaw02_known.f k).bind fun t280 => (some t280)) else (some false))) else ((redpencillaw02_found.f a0 0 6).bind fun t281 => (if t281 = true then ((redpencillaw02_known.f k).bind fun t282 => (some t282)) else (some false)))))
set_option maxHeartbeats 8000000 in
set_option maxRecDepth 100000 in
theorem redpencillaw02_RunesNames.calls (k : Nat) (a0 : ByteArray) (w : World) (hG : GOK w) (h : redpencillaw02_RunesNames.f k a0 = some true) :
  Calls Tryd.prog 7 #[.string a0] w fun e w' => e = .returned (.bool true) ∧ Below w.heap.size w w' := by
 have HB := Aside0.mk (Below.refl w.heap.size w)
 have HG := Aside0.mk hG
 clear hG
 have H : (if (a0.size : Int) > 60 then ((redpencillaw02_known.f k).bind fun t276 => (some t276)) else ((redpencilref02_ByName.f k a0).bind fun bt277 => (if bt277.2 = true then ((redpencillaw02_found.f a0 bt277.1 0).bind fun t279 => (if t279 = true then ((redpencillaw02_known.f k).bind fun t280 => (some t280)) else (some false))) else ((redpencillaw02_found.f a0 0 6).bind fun t281 => (if t281 = true then ((redpencillaw02_known.f k).bind fun t282 => (some t282)) else (some false)))))) = some true := h
 clear h
 by_cases c2 : (a0.size : Int) > 60
 ·
  rw [if_pos c2] at H
  have c2b0 : decide (60 < (a0.size : Int)) = true := decide_eq_true c2
  have c2b1 : decide (60 < a0.size) = true := decide_eq_true (by omega)
  clear c2
  replace H := Option.bind_eq_some_iff.mp H
  obtain ⟨t276, A30, H⟩ := H
  replace H : (some t276) = some true := H
  have A3 := Aside0.mk A30
  clear A30
  obtain rfl := Option.some.inj H
  go_enter Tryd.func7, Tryd.ntmps7
  go_wp2_with (first | ((with_reducible refine gate_callee (f := 15) rfl ?_); refine goesL_ (some 8) rfl rfl Tryd.func15 (by kernel_rfl) rfl #[] rfl (by (try simp only [List.map_toArray, List.map_cons, List.map_nil]); first | done | rfl | (simp only [List.length_drop, List.length_take]; rfl)) ?_; (with_reducible refine (redpencillaw02_known.calls k  true _ ?side1 A3.out).mono ?_); (case side1 => exact GOK_below HG.out (by repeat (first | (with_reducible first | exact HB.out | apply below_alloc | apply pw_below_drewN | apply below_drew1) | exact HB.out))); rintro e w4 ⟨rfl, hb⟩; refine ⟨_, rfl, ?_⟩; have n0_ := Aside0.mk (below_step (by repeat (first | (with_reducible first | exact HB.out | apply below_alloc | apply pw_below_drewN | apply below_drew1) | exact HB.out)) hb); clear HB; have HB := n0_; clear n0_; (try clear hb); (try clear hb2); (try clear hk); (try clear hi)))
  go_ret
  exact ⟨by first | rfl | (simp [errW_none, errW_some] <;> rfl) | (simp [*, errW_none, errW_some] <;> rfl), by repeat (first | (with_reducible first | exact HB.out | apply below_alloc | apply pw_below_drewN | apply below_drew1) | exact HB.out)⟩
 ·
  rw [if_neg c2] at H
  have c2b0 : decide (60 < (a0.size : Int)) = false := decide_eq_false c2
  have c2b1 : decide (60 < a0.size) = false := decide_eq_false (by omega)
  clear c2
  replace H := Option.bind_eq_some_iff.mp H
  obtain ⟨⟨t277, t278⟩, A50, H⟩ := H
  replace H : (if t278 = true then ((redpencillaw02_found.f a0 t277 0).bind fun t279 => (if t279 = true then ((redpencillaw02_known.f k).bind fun t280 => (some t280)) else (some false))) else ((redpencillaw02_found.f a0 0 6).bind fun t281 => (if t281 = true then ((redpencillaw02_known.f k).bind fun t282 => (some t282)) else (some false)))) = some true := H
  have A5 := Aside0.mk A50
  clear A50
  by_cases c6 : t278 = true
  ·
   subst c6
   have H1 : ((redpencillaw02_found.f a0 t277 0).bind fun t279 => (if t279 = true then ((redpencillaw02_known.f k).bind fun t280 => (some t280)) else (some false))) = some true := by rw [if_pos rfl] at H; exact H
   clear H
   have H := H1
   clear H1
   replace H := Option.bind_eq_some_iff.mp H
   obtain ⟨t279, A70, H⟩ := H
   replace H : (if t279 = true then ((redpencillaw02_known.f k).bind fun t280 => (some t280)) else (some false)) = some true := H
   have A7 := Aside0.mk A70
   clear A70
   by_cases c8 : t279 = true
   ·
    subst c8
    have H1 : ((redpencillaw02_known.f k).bind fun t280 => (some t280)) = some true := by rw [if_pos rfl] at H; exact H
    clear H
    have H := H1
    clear H1
    replace H := Option.bind_eq_some_iff.mp H
    obtain ⟨t280, A90, H⟩ := H
    replace H : (some t280) = some true := H
    have A9 := Aside0.mk A90
    clear A90
    obtain rfl := Option.some.inj H
    go_enter Tryd.func7, Tryd.ntmps7
    go_wp2_with (first | ((with_reducible refine gate_callee (f := 26) rfl ?_); refine goesL_ (some 11) rfl rfl Tryd.func26 (by kernel_rfl) rfl #[.string a0] rfl (by (try simp only [List.map_toArray, List.map_cons, List.map_nil]); first | done | rfl | (simp only [List.length_drop, List.length_take]; rfl)) ?_; (with_reducible refine (redpencilref02_ByName.calls k a0 t277 true _ A5.out).mono ?_); rintro e w' ⟨rfl, ⟨nd, rfl⟩⟩; refine ⟨_, rfl, ?_⟩) | ((with_reducible refine gate_callee (f := 18) rfl ?_); refine goesL_ (some 23) rfl rfl Tryd.func18 (by kernel_rfl) rfl #[.string a0, .int .i32 t277, .int .i64 0] rfl (by (try simp only [List.map_toArray, List.map_cons, List.map_nil]); first | done | rfl | (simp only [List.length_drop, List.length_take]; rfl)) ?_; (with_reducible refine (redpencillaw02_found.calls a0 t277 0 true _ ?side1 A7.out).mono ?_); (case side1 => exact GOK_below HG.out (by repeat (first | (with_reducible first | exact HB.out | apply below_alloc | apply pw_below_drewN | apply below_drew1) | exact HB.out))); rintro e w10 ⟨rfl, hb⟩; refine ⟨_, rfl, ?_⟩; have n0_ := Aside0.mk (below_step (by repeat (first | (with_reducible first | exact HB.out | apply below_alloc | apply pw_below_drewN | apply below_drew1) | exact HB.out)) hb); clear HB; have HB := n0_; clear n0_; (try clear hb); (try clear hb2); (try clear hk); (try clear hi)) | (go_at_call 15; (with_reducible refine (redpencillaw02_known.calls k  true _ ?side1 A9.out).mono ?_); (case side1 => exact GOK_below HG.out (by repeat (first | (with_reducible first | exact HB.out | apply below_alloc | apply pw_below_drewN | apply below_drew1) | exact HB.out))); rintro e w11 ⟨rfl, hb⟩; have n0_ := Aside0.mk (below_step (by repeat (first | (with_reducible first | exact HB.out | apply below_alloc | apply pw_below_drewN | apply below_drew1) | exact HB.out)) hb); clear HB; have HB := n0_; clear n0_; (try clear hb); (try clear hb2); (try clear hk); (try clear hi)))
    go_ret
    exact ⟨by first | rfl | (simp [errW_none, errW_some] <;> rfl) | (simp [*, errW_none, errW_some] <;> rfl), by repeat (first | (with_reducible first | exact HB.out | apply below_alloc | apply pw_below_drewN | apply below_drew1) | exact HB.out)⟩
   ·
    replace c8 := Bool.eq_false_iff.mpr c8
    subst c8
    have H1 : (some false) = some true := by rw [if_neg (show ¬ (false = true) by decide)] at H; exact H
    exact absurd H1 (by simp)
  ·
   replace c6 := Bool.eq_false_iff.mpr c6
   subst c6
   have H1 : ((redpencillaw02_found.f a0 0 6).bind fun t281 => (if t281 = true then ((redpencillaw02_known.f k).bind fun t282 => (some t282)) else (some false))) = some true := by rw [if_neg (show ¬ (false = true) by decide)] at H; exact H
   clear H
   have H := H1
   clear H1
   replace H := Option.bind_eq_some_iff.mp H
   obtain ⟨t281, A130, H⟩ := H
   replace H : (if t281 = true then ((redpencillaw02_known.f k).bind fun t282 => (some t282)) else (some false)) = some true := H
   have A13 := Aside0.mk A130
   clear A130
   by_cases c14 : t281 = true
   ·
    subst c14
    have H1 : ((redpencillaw02_known.f k).bind fun t282 => (some t282)) = some true := by rw [if_pos rfl] at H; exact H
    clear H
    have H := H1
    clear H1
    replace H := Option.bind_eq_some_iff.mp H
    obtain ⟨t282, A150, H⟩ := H
    replace H : (some t282) = some true := H
    have A15 := Aside0.mk A150
    clear A150
    obtain rfl := Option.some.inj H
    go_enter Tryd.func7, Tryd.ntmps7
    go_wp2_with (first | ((with_reducible refine gate_callee (f := 26) rfl ?_); refine goesL_ (some 11) rfl rfl Tryd.func26 (by kernel_rfl) rfl #[.string a0] rfl (by (try simp only [List.map_toArray, List.map_cons, List.map_nil]); first | done | rfl | (simp only [List.length_drop, List.length_take]; rfl)) ?_; (with_reducible refine (redpencilref02_ByName.calls k a0 t277 false _ A5.out).mono ?_); rintro e w' ⟨rfl, ⟨nd, rfl⟩⟩; refine ⟨_, rfl, ?_⟩) | ((with_reducible refine gate_callee (f := 18) rfl ?_); refine goesL_ (some 17) rfl rfl Tryd.func18 (by kernel_rfl) rfl #[.string a0, .int .i32 0, .int .i64 6] rfl (by (try simp only [List.map_toArray, List.map_cons, List.map_nil]); first | done | rfl | (simp only [List.length_drop, List.length_take]; rfl)) ?_; (with_reducible refine (redpencillaw02_found.calls a0 0 6 true _ ?side1 A13.out).mono ?_); (case side1 => exact GOK_below HG.out (by repeat (first | (with_reducible first | exact HB.out | apply below_alloc | apply pw_below_drewN | apply below_drew1) | exact HB.out))); rintro e w16 ⟨rfl, hb⟩; refine ⟨_, rfl, ?_⟩; have n0_ := Aside0.mk (below_step (by repeat (first | (with_reducible first | exact HB.out | apply below_alloc | apply pw_below_drewN | apply below_drew1) | exact HB.out)) hb); clear HB; have HB := n0_; clear n0_; (try clear hb); (try clear hb2); (try clear hk); (try clear hi)) | (go_at_call 15; (with_reducible refine (redpencillaw02_known.calls k  true _ ?side1 A15.out).mono ?_); (case side1 => exact GOK_below HG.out (by repeat (first | (with_reducible first | exact HB.out | apply below_alloc | apply pw_below_drewN | apply below_drew1) | exact HB.out))); rintro e w17 ⟨rfl, hb⟩; have n0_ := Aside0.mk (below_step (by repeat (first | (with_reducible first | exact HB.out | apply below_alloc | apply pw_below_drewN | apply below_drew1) | exact HB.out)) hb); clear HB; have HB := n0_; clear n0_; (try clear hb); (try clear hb2); (try clear hk); (try clear hi)))
    go_ret
    exact ⟨by first | rfl | (simp [errW_none, errW_some] <;> rfl) | (simp [*, errW_none, errW_some] <;> rfl), by repeat (first | (with_reducible first | exact HB.out | apply below_alloc | apply pw_below_drewN | apply below_drew1) | exact HB.out)⟩
   ·
    replace c14 := Bool.eq_false_iff.mpr c14
    subst c14
    have H1 : (some false) = some true := by rw [if_neg (show ¬ (false = true) by decide)] at H; exact H
    exact absurd H1 (by simp)
end Go.Proofs.YtphgoaacmkagmaaDoor.PAll
