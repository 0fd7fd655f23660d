/- VectorHolds of layer 5 answers true for every three vectors and every dot, and leaves all memory as it was; the package variables that the card ties read as the program's text lays them. -/
import Derived.Test.YtnbjkpfpcggopaaGreatDoorRows
import Derived.Test.YtnbjkpfpcggopaaGreatDoorCards
import Derived.Test.YtnbjkpfpcggopaaGreatDoorTie
import Derived.Test.YtnbjkpfpcggopaaGreatDoorEb4
import Derived.Test.YtnbjkpfpcggopaaGreatDoorEu1
import Derived.WalkKit
import Derived.ProofKit
import Derived.OpenShut
import Derived.ShutString
import Derived.ChangeOld
import Derived.Below
import Derived.SizedLaws
import Derived.LaidLaws
import Derived.LaidHandle
import Derived.SevenTiedAt
namespace Go.Proofs.YtnbjkpfpcggopaaGreatDoor.vectorHolds
open Go.ChangeShapes Go.WideShapes Go.ChangeAt Go.RowKit Go.Proofs.YtnbjkpfpcggopaaGreatDoor.Kit Go.Proofs.YtnbjkpfpcggopaaGreatDoor.Lw Go.Proofs.YtnbjkpfpcggopaaGreatDoor.Ev Go.Proofs.YtnbjkpfpcggopaaGreatDoor.Dl Go.Proofs.YtnbjkpfpcggopaaGreatDoor.PAll Go.Proofs.YtnbjkpfpcggopaaGreatDoorW.PrintWords
open Go.ChangeMaps (open_string shut_string)
set_option linter.unusedVariables false
theorem own : ownKnob Tryz.prog.godebug = none := by kernel_rfl
theorem laidOut : laidOutB Tryz.prog = true := by kernel_rfl
set_option maxRecDepth 100000 in
theorem lifted (os : Os) (started : os.Started) (H : Type) (enc : TypeId × Value → H) :
    ReturnsInHanded {} Tryz.checked os 7 .any (fun w args => (Rows.vectorHoldsSpec.pre enc Tryz.prog Tryz.f7 Rows.vectorHoldsRow.domain false w args ∧ laidMetH Tryz.prog Rows.vectorHoldsRow.laid w) ∧ sizedMet enc Tryz.prog Tryz.f7 (OpenSpec.ofChange Rows.vectorHoldsSpec) false w args)
      (Rows.vectorHoldsSpec.post enc Tryz.prog Tryz.f7 false true false false) := by
  refine wrap_shaped (C := Tryz.checked) (X := fun w _ => laidMetH Tryz.prog Rows.vectorHoldsRow.laid w) (fun _ _ _ hh h => h.of_heap hh) own started (by kernel_rfl) Tryz.func7
    (ChangeSpec.witness_shaped (enc := enc) (C := Tryz.checked) (os := os) (X := fun w _ => laidMetH Tryz.prog Rows.vectorHoldsRow.laid w) false (laidWorld os) #[.slice none 0 0, .slice none 0 0, .slice none 0 0, .agg #[.int .i64 0, .int .i64 0]] 8 rfl (shaped os _) (by kernel_rfl) (by kernel_rfl) (by kernel_rfl) (laid_metH os _)) ?_
  intro W base args ds gs before hval0 hW _ hsz0 hL hSO
  have hsz : (DataW.weightsEach Tryz.prog (Tryz.f7.params.toList ++ Rows.vectorHoldsSpec.plain.varTypes Tryz.prog) (ds ++ gs)).all (· ≤ reachBytes) = true := hsz0
  have hval : ∀ (j : Nat) t v, Tryz.f7.params[j]? = some t → args[j]? = some v → Value.okWide Tryz.prog W .any base t v := hval0
  have hW' := hW
  obtain ⟨p, q, hA0, hV, rfl, hfz, hnd⟩ := hW
  have hA : DataW.TrodAll enc Tryz.prog W 0 (fun _ => true) true Tryz.f7.params.toList args.toList ds p := hA0
  rw [Tryz.params7] at hA hval hsz
  obtain ⟨v0, vs0, d0, ds0, p0, q0, hargs, rfl, rfl, h0, r0⟩ := trodAll_cons hA
  obtain ⟨v1, vs1, d1, ds1, p1, q1, rfl, rfl, rfl, h1, r1⟩ := trodAll_cons r0
  obtain ⟨v2, vs2, d2, ds2, p2, q2, rfl, rfl, rfl, h2, r2⟩ := trodAll_cons r1
  obtain ⟨v3, vs3, d3, ds3, p3, q3, rfl, rfl, rfl, h3, r3⟩ := trodAll_cons r2
  obtain ⟨rfl, rfl, rfl⟩ := trodAll_nil r3
  obtain rfl : args = #[v0, v1, v2, v3] := by cases args; simp_all
  obtain ⟨rfl, rfl⟩ := trodVars_none hV
  have k0 := h0
  have lt0 : ∀ x ∈ p0, x.block < W.heap.size := by obtain ⟨m, hm⟩ := k0; exact DataW.trod_lt m _ _ _ hm
  obtain ⟨A0, len0, c0, rfl⟩ := okWide_slice Tryz.underlying23 (hval 0 23 v0 rfl rfl)
  obtain ⟨fuel0, hf0⟩ := h0
  obtain ⟨x0, ⟨A', c', e0, l0, C0⟩, o0⟩ := (opens_vec).out enc W fuel0 _ _ hf0
  obtain ⟨rfl, rfl, rfl⟩ : A0 = A' ∧ len0 = x0.length ∧ c0 = c' := by simpa [Value.cells] using e0
  clear e0 hf0
  have k1 := h1
  have lt1 : ∀ x ∈ p1, x.block < W.heap.size := by obtain ⟨m, hm⟩ := k1; exact DataW.trod_lt m _ _ _ hm
  obtain ⟨A1, len1, c1, rfl⟩ := okWide_slice Tryz.underlying23 (hval 1 23 v1 rfl rfl)
  obtain ⟨fuel1, hf1⟩ := h1
  obtain ⟨x1, ⟨A', c', e1, l1, C1⟩, o1⟩ := (opens_vec).out enc W fuel1 _ _ hf1
  obtain ⟨rfl, rfl, rfl⟩ : A1 = A' ∧ len1 = x1.length ∧ c1 = c' := by simpa [Value.cells] using e1
  clear e1 hf1
  have k2 := h2
  have lt2 : ∀ x ∈ p2, x.block < W.heap.size := by obtain ⟨m, hm⟩ := k2; exact DataW.trod_lt m _ _ _ hm
  obtain ⟨A2, len2, c2, rfl⟩ := okWide_slice Tryz.underlying23 (hval 2 23 v2 rfl rfl)
  obtain ⟨fuel2, hf2⟩ := h2
  obtain ⟨x2, ⟨A', c', e2, l2, C2⟩, o2⟩ := (opens_vec).out enc W fuel2 _ _ hf2
  obtain ⟨rfl, rfl, rfl⟩ : A2 = A' ∧ len2 = x2.length ∧ c2 = c' := by simpa [Value.cells] using e2
  clear e2 hf2
  have k3 := h3
  have lt3 : ∀ x ∈ p3, x.block < W.heap.size := by obtain ⟨m, hm⟩ := k3; exact DataW.trod_lt m _ _ _ hm
  obtain ⟨fuel3, hf3⟩ := h3
  obtain ⟨x3, K3, o3⟩ := (opens_dot).out enc W fuel3 _ _ hf3
  clear hf3
  clear hA0 hval0 hsz0 hsz
  refine (holds_walk A0 c0 x0 A1 c1 x1 A2 c2 x2 v3 x3 W (tabs hL hSO) C0 l0 C1 l1 C2 l2 K3).mono fun e W' ⟨he, bel⟩ => ?_
  subst he
  exact ⟨_, rfl, _, _, _, [], _, [], hW', trodAll_mk1 (shut_bool Tryz.underlying4 _), (trodAll_cons_mk (Below.trod laidOut (by kernel_rfl) (of_decide_eq_true (by kernel_rfl)) k0 bel lt0) (trodAll_cons_mk (Below.trod laidOut (by kernel_rfl) (of_decide_eq_true (by kernel_rfl)) k1 bel lt1) (trodAll_cons_mk (Below.trod laidOut (by kernel_rfl) (of_decide_eq_true (by kernel_rfl)) k2 bel lt2) (trodAll_cons_mk (Below.trod laidOut (by kernel_rfl) (of_decide_eq_true (by kernel_rfl)) k3 bel lt3) trodAll_mk0)))), rfl, bel.frame _, fun h => by cases h⟩
theorem over : Rows.vectorHoldsRow.holds Tryz.pinned (OpenSpec.ofChange Rows.vectorHoldsSpec) :=
  OpenClaim.holds_of_wide 7 Tryz.f7 rfl rfl rfl rfl rfl rfl rfl ⟨rfl, rfl, rfl, rfl, rfl⟩ rfl rfl rfl rfl rfl (by kernel_rfl) Tryz.func7 (by kernel_rfl)
    (of_decide_eq_true (by kernel_rfl)) (by unfold Func.isWrapper; first | (rw [if_pos (by decide +kernel)]; kernel_rfl) | (rw [if_neg (by decide +kernel)]; exact ⟨rfl, rfl⟩))
    (fun os started H enc _ => lifted os started H enc)
theorem card : Rows.VectorHoldsCardSaid :=
  Claim7.holds_tied_plain_at .later [] [.data, .data, .data, .data, .sentinel, .sentinel, .pinned] true (true, "4deba7382de9753c038e688f3b0bd4c17ae904d1070cba6a40b7448f098eb74c") true over (fun _ h => by cases h) (by kernel_rfl) (fun _ h => by cases h) vectorHolds_row_tie rfl ⟨rfl, rfl⟩ (by kernel_rfl) rfl
    (fun f fn hf hfn => by
      obtain rfl : f = 7 := Option.some.inj ((show Tryz.prog.funcNamed "redpencil/redpencillaw05.VectorHolds" = some 7 by kernel_rfl).symm.trans hf) |>.symm
      obtain rfl : fn = Tryz.f7 := (Option.some.inj (Tryz.func7.symm.trans hfn)).symm
      exact ⟨by kernel_rfl, fun j t ht => by
        rw [Tryz.params7] at ht
        have hw : ∀ t ∈ [23, 23, 23, 25], Tryz.prog.wantsStandIn t = false := by
          intro t ht
          simp only [List.mem_cons, List.mem_nil_iff, or_false] at ht
          rcases ht with rfl | rfl | rfl | rfl <;> kernel_rfl
        exact hw t (by have := List.mem_of_getElem? (by simpa using ht); simpa using this)⟩)
    (by kernel_rfl)
end Go.Proofs.YtnbjkpfpcggopaaGreatDoor.vectorHolds
namespace Go.Proofs.YtnbjkpfpcggopaaGreatDoor
/-- The card, under a short name, for the claim. -/
theorem vectorHolds_holds : Rows.VectorHoldsCardSaid := vectorHolds.card
#print axioms vectorHolds_holds
end Go.Proofs.YtnbjkpfpcggopaaGreatDoor
