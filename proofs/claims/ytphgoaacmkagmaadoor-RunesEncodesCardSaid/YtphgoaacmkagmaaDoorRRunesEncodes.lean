/- RunesEncodes of layer 2 answers true for every list of runes, and leaves all memory as it was; the package variables that the card ties read as the program's text lays them. -/
import Derived.Test.YtphgoaacmkagmaaDoorRows
import Derived.Test.YtphgoaacmkagmaaDoorCards
import Derived.Test.YtphgoaacmkagmaaDoorTie
import Derived.Test.YtphgoaacmkagmaaDoorOp
import Derived.Test.YtphgoaacmkagmaaDoorUw
import Derived.Test.YtphgoaacmkagmaaDoorUl
import Derived.WalkKit
import Derived.ProofKit
import Derived.OpenShut
import Derived.ShutString
import Derived.ChangeOld
import Derived.Below
import Derived.SizedLaws
import Derived.LaidLaws
import Derived.LaidHandle
import Derived.SevenTiedAt
namespace Go.Proofs.YtphgoaacmkagmaaDoor.runesEncodes
open Go.ChangeShapes Go.WideShapes Go.ChangeAt Go.RowKit Go.Proofs.YtphgoaacmkagmaaDoor.Kit Go.Proofs.YtphgoaacmkagmaaDoor.Lw Go.Proofs.YtphgoaacmkagmaaDoor.Up Go.Proofs.YtphgoaacmkagmaaDoor.PAll Go.Proofs.YtphgoaacmkagmaaDoorW.PrintWords
open Go.ChangeMaps (open_string shut_string)
set_option linter.unusedVariables false
theorem own : ownKnob Tryd.prog.godebug = none := by kernel_rfl
theorem laidOut : laidOutB Tryd.prog = true := by kernel_rfl
set_option maxRecDepth 100000 in
theorem lifted (os : Os) (started : os.Started) (H : Type) (enc : TypeId × Value → H) :
    ReturnsInHanded {} Tryd.checked os 5 .any (fun w args => (Rows.runesEncodesSpec.pre enc Tryd.prog Tryd.f5 Rows.runesEncodesRow.domain false w args ∧ laidMetH Tryd.prog Rows.runesEncodesRow.laid w) ∧ sizedMet enc Tryd.prog Tryd.f5 (OpenSpec.ofChange Rows.runesEncodesSpec) false w args)
      (Rows.runesEncodesSpec.post enc Tryd.prog Tryd.f5 false true false false) := by
  refine returnsInHanded_of_change_and (C := Tryd.checked) (X := fun w _ => laidMetH Tryd.prog Rows.runesEncodesRow.laid w) (fun _ _ _ hh h => h.of_heap hh) own started (by kernel_rfl) Tryd.func5
    (ChangeSpec.witness_shaped (enc := enc) (C := Tryd.checked) (os := os) (X := fun w _ => laidMetH Tryd.prog Rows.runesEncodesRow.laid w) false (laidWorld os) #[.slice none 0 0] 8 rfl (shaped os _) (by kernel_rfl) (by kernel_rfl) (by kernel_rfl) (laid_metH os _)) ?_
  intro W base args ds gs before hval0 hW _ hsz0 hL _
  have hsz : (DataW.weightsEach Tryd.prog (Tryd.f5.params.toList ++ Rows.runesEncodesSpec.plain.varTypes Tryd.prog) (ds ++ gs)).all (· ≤ reachBytes) = true := hsz0
  have hval : ∀ (j : Nat) t v, Tryd.f5.params[j]? = some t → args[j]? = some v → Value.okWide Tryd.prog W .any base t v := hval0
  have hW' := hW
  obtain ⟨p, q, hA0, hV, rfl, hfz, hnd⟩ := hW
  have hA : DataW.TrodAll enc Tryd.prog W 0 (fun _ => true) true Tryd.f5.params.toList args.toList ds p := hA0
  rw [Tryd.params5] at hA hval hsz
  obtain ⟨v0, vs0, d0, ds0, p0, q0, hargs, rfl, rfl, h0, r0⟩ := trodAll_cons hA
  obtain ⟨rfl, rfl, rfl⟩ := trodAll_nil r0
  obtain rfl : args = #[v0] := by cases args; simp_all
  obtain ⟨rfl, rfl⟩ := trodVars_none hV
  have k0 := h0
  have lt0 : ∀ x ∈ p0, x.block < W.heap.size := by obtain ⟨m, hm⟩ := k0; exact DataW.trod_lt m _ _ _ hm
  obtain ⟨A0, len0, c0, rfl⟩ := okWide_slice Tryd.underlying27 (hval 0 27 v0 rfl rfl)
  obtain ⟨fuel0, hf0⟩ := h0
  obtain ⟨x0, ⟨A', c', e0, l0, C0⟩, o0⟩ := (opens_slice (d := Kd.int .i32) Tryd.underlying27 (by kernel_rfl) (0 : Int) (opens_int Tryd.underlying21)).out enc W fuel0 _ _ hf0
  obtain ⟨rfl, rfl, rfl⟩ : A0 = A' ∧ len0 = x0.length ∧ c0 = c' := by simpa [Value.cells] using e0
  clear e0 hf0
  clear hA0 hval0 hsz0 hsz
  refine (redpencillaw02_RunesEncodes.calls 2000 A0 c0 x0 W (tabs hL) C0 l0 (runesEncodes_f x0 (fun r hr => wf_i32 (o0 r hr)))).mono fun e W' ⟨he, bel⟩ => ?_
  subst he
  exact ⟨_, rfl, _, _, _, [], _, [], hW', trodAll_mk1 (shut_bool Tryd.underlying4 _), (trodAll_cons_mk (Below.trod laidOut (by kernel_rfl) (of_decide_eq_true (by kernel_rfl)) k0 bel lt0) trodAll_mk0), rfl, bel.frame _, fun h => by cases h⟩
theorem over : Rows.runesEncodesRow.holds Tryd.pinned (OpenSpec.ofChange Rows.runesEncodesSpec) :=
  OpenClaim.holds_of_wide 5 Tryd.f5 rfl rfl rfl rfl rfl rfl rfl ⟨rfl, rfl, rfl, rfl, rfl⟩ rfl rfl rfl rfl rfl (by kernel_rfl) Tryd.func5 (by kernel_rfl)
    (of_decide_eq_true (by kernel_rfl)) (by unfold Func.isWrapper; first | (rw [if_pos (by decide +kernel)]; kernel_rfl) | (rw [if_neg (by decide +kernel)]; exact ⟨rfl, rfl⟩))
    (fun os started H enc _ => lifted os started H enc)
theorem card : Rows.RunesEncodesCardSaid :=
  Claim7.holds_tied_plain_at .later [] [.data, .data, .data, .data, .sentinel, .sentinel, .pinned, .pinned] true (true, "6f10f9b1e66b292a570c36fa7ece925ba9f3e0d4ba60cbf504c17ad2db9a9a1a") true over (fun _ h => by cases h) (by kernel_rfl) (fun _ h => by cases h) runesEncodes_row_tie rfl ⟨rfl, rfl⟩ (by kernel_rfl) rfl
    (fun f fn hf hfn => by
      obtain rfl : f = 5 := Option.some.inj ((show Tryd.prog.funcNamed "redpencil/redpencillaw02.RunesEncodes" = some 5 by kernel_rfl).symm.trans hf) |>.symm
      obtain rfl : fn = Tryd.f5 := (Option.some.inj (Tryd.func5.symm.trans hfn)).symm
      exact ⟨by kernel_rfl, fun j t ht => by
        rw [Tryd.params5] at ht
        have hw : ∀ t ∈ [27], Tryd.prog.wantsStandIn t = false := by
          intro t ht
          simp only [List.mem_cons, List.mem_nil_iff, or_false] at ht
          rcases ht with rfl <;> kernel_rfl
        exact hw t (by have := List.mem_of_getElem? (by simpa using ht); simpa using this)⟩)
    (by kernel_rfl)
end Go.Proofs.YtphgoaacmkagmaaDoor.runesEncodes
namespace Go.Proofs.YtphgoaacmkagmaaDoor
/-- The card, under a short name, for the claim. -/
theorem runesEncodes_holds : Rows.RunesEncodesCardSaid := runesEncodes.card
#print axioms runesEncodes_holds
end Go.Proofs.YtphgoaacmkagmaaDoor
