-- Printed by a program of this session (wip/tools/mkprint2.py) out of the translation; Lean checks it. -- narrowed
import Derived.Test.YtphgoaacmkagmaaDoorPAllx0
import Derived.Test.YtphgoaacmkagmaaDoorPAllx1
import Derived.Test.YtphgoaacmkagmaaDoorPAllx4
import Derived.Test.YtphgoaacmkagmaaDoorUs
namespace Go.Proofs.YtphgoaacmkagmaaDoor.PAll
open Go.RowKit Go.Proofs.YtphgoaacmkagmaaDoorW.PrintWords Go.Proofs.YtphgoaacmkagmaaDoorW.PrintLast Go.Proofs.YtphgoaacmkagmaaDoorW.PrintMore
attribute [local go_sem] max2_int min2_int max_two min_two max_three min_three max_four min_four   -- for this text's walks alone
set_option linter.unusedVariables false
set_option linter.unusedSimpArgs false

/-! ### redpencillaw02_known: function 15 -/
mutual
def redpencillaw02_known.j0 : Nat → Bool → Option (Bool)
 | 0, _ => none
 | k + 1, x40 => if x40 = true then (some false) else ((some (([(⟨#[192, 128]⟩ : ByteArray), (⟨#[237, 160, 128]⟩ : ByteArray), (⟨#[244, 144, 128, 128]⟩ : ByteArray), (⟨#[226, 130]⟩ : ByteArray)] : List ByteArray) : List ByteArray)).bind fun y166 => (redpencillaw02_known.l0 k y166 (y166.length : Int) 0))
def redpencillaw02_known.l0 : Nat → List ByteArray → Int → Int → Option (Bool)
 | 0, _, _, _ => none
 | k + 1, x41, x42, x43 => if x43 < x42 then (if 0 ≤ x43 then (if x43 < (x41.length : Int) then ((redpencillaw02_decodes.f k (rdOf ByteArray.empty x41 x43) ([] : List Int) 12).bind fun t170 => (if t170 = true then (redpencillaw02_known.l0 k x41 x42 (wrap64 (x43 + 1))) else (some false))) else (none)) else (none)) else ((redpencillaw02_decodes.f k (⟨#[97, 0]⟩ : ByteArray) ([] : List Int) 13).bind fun t171 => (if t171 = true then ((redpencillaw02_encodes.f (([0] : List Int)) (⟨#[]⟩ : ByteArray) 13).bind fun t175 => (if t175 = true then ((redpencillaw02_encodes.f (([57343] : List Int)) (⟨#[]⟩ : ByteArray) 13).bind fun t179 => (redpencillaw02_known.j2 k (!t179))) else (redpencillaw02_known.j2 k true))) else (redpencillaw02_known.j2 k true)))
def redpencillaw02_known.j2 : Nat → Bool → Option (Bool)
 | 0, _ => none
 | k + 1, x62 => if x62 = true then (some false) else ((redpencillaw02_has.f (⟨#[97, 195, 169, 226, 130, 172]⟩ : ByteArray) 3 0).bind fun t180 => (if t180 = true then ((redpencillaw02_cuts.f (⟨#[97, 195, 169, 226, 130, 172]⟩ : ByteArray) 1 3 (⟨#[195, 169, 226, 130, 172]⟩ : ByteArray) 0).bind fun t181 => (if t181 = true then ((redpencillaw02_cuts.f (⟨#[97, 195, 169, 226, 130, 172]⟩ : ByteArray) 2 2 (⟨#[]⟩ : ByteArray) 0).bind fun t182 => (if t182 = true then ((redpencillaw02_cuts.f (⟨#[97, 195, 169, 226, 130, 172]⟩ : ByteArray) 2 1 (⟨#[]⟩ : ByteArray) 3).bind fun t183 => (if t183 = true then ((redpencillaw02_cuts.f (⟨#[97, 195, 169, 226, 130, 172]⟩ : ByteArray) 0 4 (⟨#[]⟩ : ByteArray) 3).bind fun t184 => (redpencillaw02_known.j3 k (!t184))) else (redpencillaw02_known.j3 k true))) else (redpencillaw02_known.j3 k true))) else (redpencillaw02_known.j3 k true))) else (redpencillaw02_known.j3 k true)))
def redpencillaw02_known.j3 : Nat → Bool → Option (Bool)
 | 0, _ => none
 | k + 1, x85 => if x85 = true then (some false) else ((redpencillaw02_named.f 97 (⟨#[85, 43, 48, 48, 54, 49]⟩ : ByteArray) 0).bind fun t185 => (if t185 = true then ((redpencillaw02_named.f 128512 (⟨#[85, 43, 49, 70, 54, 48, 48]⟩ : ByteArray) 0).bind fun t186 => (if t186 = true then ((redpencillaw02_found.f (⟨#[85, 43, 50, 48, 65, 67]⟩ : ByteArray) 8364 0).bind fun t187 => (if t187 = true then ((redpencillaw02_found.f (⟨#[85, 43, 48, 48, 48, 48]⟩ : ByteArray) 0 6).bind fun t188 => (if t188 = true then ((redpencillaw02_found.f (⟨#[85, 43, 54, 49]⟩ : ByteArray) 0 6).bind fun t189 => (if t189 = true then ((redpencillaw02_found.f (⟨#[85, 43, 48, 48, 48, 54, 49]⟩ : ByteArray) 0 6).bind fun t190 => (if t190 = true then ((redpencillaw02_found.f (⟨#[117, 43, 48, 48, 54, 49]⟩ : ByteArray) 0 6).bind fun t191 => (some t191)) else (some false))) else (some false))) else (some false))) else (some false))) else (some false))) else (some false)))
end
def redpencillaw02_known.f (k : Nat)  : Option (Bool) := (runes_Encode.f (([97, 8364, 128512] : List Int))).bind fun bt155 => ((redpencillaw02_decodes.f k (⟨#[97, 195, 169]⟩ : ByteArray) (([97, 233] : List Int)) 0).bind fun t160 => (if t160 = true then (if (bt155.1.size : Int) = 8 then (if bt155.2 = 0 then ((runes_Size.f k 128512).bind fun t161 => (if t161 = 4 then ((runes_Valid.f k 0).bind fun t162 => (if t162 = true then (redpencillaw02_known.j0 k true) else ((runes_Valid.f k 55296).bind fun t163 => (if t163 = true then (redpencillaw02_known.j0 k true) else ((runes_Valid.f k 1114111).bind fun t164 => (if t164 = true then ((runes_Size.f k 55296).bind fun t165 => (redpencillaw02_known.j0 k (t165 != 0))) else (redpencillaw02_known.j0 k true))))))) else (redpencillaw02_known.j0 k true))) else (redpencillaw02_known.j0 k true)) else (redpencillaw02_known.j0 k true)) else (redpencillaw02_known.j0 k true)))
theorem redpencillaw02_known.mono_l : ∀ k, (∀ y0, LeO (redpencillaw02_known.j0 k y0) (redpencillaw02_known.j0 (k + 1) y0)) ∧ (∀ y0 y1 y2, LeO (redpencillaw02_known.l0 k y0 y1 y2) (redpencillaw02_known.l0 (k + 1) y0 y1 y2)) ∧ (∀ y0, LeO (redpencillaw02_known.j2 k y0) (redpencillaw02_known.j2 (k + 1) y0)) ∧ (∀ y0, LeO (redpencillaw02_known.j3 k y0) (redpencillaw02_known.j3 (k + 1) y0))
 | 0 => ⟨fun _ r h => by simp [redpencillaw02_known.j0] at h, fun _ _ _ r h => by simp [redpencillaw02_known.l0] at h, fun _ r h => by simp [redpencillaw02_known.j2] at h, fun _ r h => by simp [redpencillaw02_known.j3] at h⟩
 | k + 1 => by
  obtain ⟨ih0, ih1, ih2, ih3⟩ := redpencillaw02_known.mono_l k
  refine ⟨?_, ?_, ?_, ?_⟩
  ·
   intro y0
   unfold redpencillaw02_known.j0
   repeat' first
   | (with_reducible exact ih0 _)
   | (with_reducible exact ih1 _ _ _)
   | (with_reducible exact ih2 _)
   | (with_reducible exact ih3 _)
   | (with_reducible exact redpencillaw02_decodes.mono _ _ _ _)
   | (with_reducible exact runes_Size.mono _ _)
   | (with_reducible exact runes_Valid.mono _ _)
   | (with_reducible exact LeO.refl _)
   | (with_reducible exact LeO.none _)
   | (with_reducible refine LeO.ite ?_ ?_)
   | (with_reducible refine LeO.bind ?_ (fun _ => ?_))
   | exact ih0 _
   | exact ih1 _ _ _
   | exact ih2 _
   | exact ih3 _
   | exact redpencillaw02_decodes.mono _ _ _ _
   | exact runes_Size.mono _ _
   | exact runes_Valid.mono _ _
   | exact LeO.none _
   | refine LeO.ite ?_ ?_
   | refine LeO.bind ?_ (fun _ => ?_)
  ·
   intro y0 y1 y2
   unfold redpencillaw02_known.l0
   repeat' first
   | (with_reducible exact ih0 _)
   | (with_reducible exact ih1 _ _ _)
   | (with_reducible exact ih2 _)
   | (with_reducible exact ih3 _)
   | (with_reducible exact redpencillaw02_decodes.mono _ _ _ _)
   | (with_reducible exact runes_Size.mono _ _)
   | (with_reducible exact runes_Valid.mono _ _)
   | (with_reducible exact LeO.refl _)
   | (with_reducible exact LeO.none _)
   | (with_reducible refine LeO.ite ?_ ?_)
   | (with_reducible refine LeO.bind ?_ (fun _ => ?_))
   | exact ih0 _
   | exact ih1 _ _ _
   | exact ih2 _
   | exact ih3 _
   | exact redpencillaw02_decodes.mono _ _ _ _
   | exact runes_Size.mono _ _
   | exact runes_Valid.mono _ _
   | exact LeO.none _
   | refine LeO.ite ?_ ?_
   | refine LeO.bind ?_ (fun _ => ?_)
  ·
   intro y0
   unfold redpencillaw02_known.j2
   repeat' first
   | (with_reducible exact ih0 _)
   | (with_reducible exact ih1 _ _ _)
   | (with_reducible exact ih2 _)
   | (with_reducible exact ih3 _)
   | (with_reducible exact redpencillaw02_decodes.mono _ _ _ _)
   | (with_reducible exact runes_Size.mono _ _)
   | (with_reducible exact runes_Valid.mono _ _)
   | (with_reducible exact LeO.refl _)
   | (with_reducible exact LeO.none _)
   | (with_reducible refine LeO.ite ?_ ?_)
   | (with_reducible refine LeO.bind ?_ (fun _ => ?_))
   | exact ih0 _
   | exact ih1 _ _ _
   | exact ih2 _
   | exact ih3 _
   | exact redpencillaw02_decodes.mono _ _ _ _
   | exact runes_Size.mono _ _
   | exact runes_Valid.mono _ _
   | exact LeO.none _
   | refine LeO.ite ?_ ?_
   | refine LeO.bind ?_ (fun _ => ?_)
  ·
   intro y0
   unfold redpencillaw02_known.j3
   repeat' first
   | (with_reducible exact ih0 _)
   | (with_reducible exact ih1 _ _ _)
   | (with_reducible exact ih2 _)
   | (with_reducible exact ih3 _)
   | (with_reducible exact redpencillaw02_decodes.mono _ _ _ _)
   | (with_reducible exact runes_Size.mono _ _)
   | (with_reducible exact runes_Valid.mono _ _)
   | (with_reducible exact LeO.refl _)
   | (with_reducible exact LeO.none _)
   | (with_reducible refine LeO.ite ?_ ?_)
   | (with_reducible refine LeO.bind ?_ (fun _ => ?_))
   | exact ih0 _
   | exact ih1 _ _ _
   | exact ih2 _
   | exact ih3 _
   | exact redpencillaw02_decodes.mono _ _ _ _
   | exact runes_Size.mono _ _
   | exact runes_Valid.mono _ _
   | exact LeO.none _
   | refine LeO.ite ?_ ?_
   | refine LeO.bind ?_ (fun _ => ?_)
theorem redpencillaw02_known.mono : ∀ k, LeO (redpencillaw02_known.f k ) (redpencillaw02_known.f (k + 1) ) := by
 intro  k
 obtain ⟨ih0, ih1, ih2, ih3⟩ := redpencillaw02_known.mono_l k
 unfold redpencillaw02_known.f
 repeat' first
   | (with_reducible exact ih0 _)
   | (with_reducible exact ih1 _ _ _)
   | (with_reducible exact ih2 _)
   | (with_reducible exact ih3 _)
   | (with_reducible exact redpencillaw02_decodes.mono _ _ _ _)
   | (with_reducible exact runes_Size.mono _ _)
   | (with_reducible exact runes_Valid.mono _ _)
   | (with_reducible exact LeO.refl _)
   | (with_reducible exact LeO.none _)
   | (with_reducible refine LeO.ite ?_ ?_)
   | (with_reducible refine LeO.bind ?_ (fun _ => ?_))
   | exact ih0 _
   | exact ih1 _ _ _
   | exact ih2 _
   | exact ih3 _
   | exact redpencillaw02_decodes.mono _ _ _ _
   | exact runes_Size.mono _ _
   | exact runes_Valid.mono _ _
   | exact LeO.none _
   | refine LeO.ite ?_ ?_
   | refine LeO.bind ?_ (fun _ => ?_)
set_option maxHeartbeats 8000000 in
set_option maxRecDepth 100000 in
theorem redpencillaw02_known.callsT (k : Nat)  (w : World) (hG : GOK w) (h : redpencillaw02_known.f k  = some true) :
  Calls Tryd.prog 15 #[] w fun e w' => e = .returned (.bool true) ∧ Below w.heap.size w w' := by
 have HB := Aside0.mk (Below.refl w.heap.size w)
 have HG := Aside0.mk hG
 clear hG
 have H : ((runes_Encode.f (([97, 8364, 128512] : List Int))).bind fun bt155 => ((redpencillaw02_decodes.f k (⟨#[97, 195, 169]⟩ : ByteArray) (([97, 233] : List Int)) 0).bind fun t160 => (if t160 = true then (if (bt155.1.size : Int) = 8 then (if bt155.2 = 0 then ((runes_Size.f k 128512).bind fun t161 => (if t161 = 4 then ((runes_Valid.f k 0).bind fun t162 => (if t162 = true then (redpencillaw02_known.j0 k true) else ((runes_Valid.f k 55296).bind fun t163 => (if t163 = true then (redpencillaw02_known.j0 k true) else ((runes_Valid.f k 1114111).bind fun t164 => (if t164 = true then ((runes_Size.f k 55296).bind fun t165 => (redpencillaw02_known.j0 k (t165 != 0))) else (redpencillaw02_known.j0 k true))))))) else (redpencillaw02_known.j0 k true))) else (redpencillaw02_known.j0 k true)) else (redpencillaw02_known.j0 k true)) else (redpencillaw02_known.j0 k true)))) = some true := h
 clear h
 obtain ⟨y152, hy152⟩ : ∃ y_ : List Int, y_ = (([97, 8364, 128512] : List Int)) := ⟨_, rfl⟩
 replace H : ((runes_Encode.f y152).bind fun bt155 => ((redpencillaw02_decodes.f k (⟨#[97, 195, 169]⟩ : ByteArray) (([97, 233] : List Int)) 0).bind fun t160 => (if t160 = true then (if (bt155.1.size : Int) = 8 then (if bt155.2 = 0 then ((runes_Size.f k 128512).bind fun t161 => (if t161 = 4 then ((runes_Valid.f k 0).bind fun t162 => (if t162 = true then (redpencillaw02_known.j0 k true) else ((runes_Valid.f k 55296).bind fun t163 => (if t163 = true then (redpencillaw02_known.j0 k true) else ((runes_Valid.f k 1114111).bind fun t164 => (if t164 = true then ((runes_Size.f k 55296).bind fun t165 => (redpencillaw02_known.j0 k (t165 != 0))) else (redpencillaw02_known.j0 k true))))))) else (redpencillaw02_known.j0 k true))) else (redpencillaw02_known.j0 k true)) else (redpencillaw02_known.j0 k true)) else (redpencillaw02_known.j0 k true)))) = some true := by first | (rw [hy152]; with_reducible exact H) | (have H2_ := (Option.bind_some _ _).symm.trans H; rw [hy152]; with_reducible exact H2_) | (have H2_ := (Option.bind_some _ _).symm.trans H; with_reducible exact H2_) | with_reducible exact H | (rw [hy152]; exact H) | exact H
 have Ny152 := Aside0.mk hy152
 clear hy152
 replace H := Option.bind_eq_some_iff.mp H
 obtain ⟨⟨t155, t156⟩, A10, H⟩ := H
 replace H : ((redpencillaw02_decodes.f k (⟨#[97, 195, 169]⟩ : ByteArray) (([97, 233] : List Int)) 0).bind fun t160 => (if t160 = true then (if (t155.size : Int) = 8 then (if t156 = 0 then ((runes_Size.f k 128512).bind fun t161 => (if t161 = 4 then ((runes_Valid.f k 0).bind fun t162 => (if t162 = true then (redpencillaw02_known.j0 k true) else ((runes_Valid.f k 55296).bind fun t163 => (if t163 = true then (redpencillaw02_known.j0 k true) else ((runes_Valid.f k 1114111).bind fun t164 => (if t164 = true then ((runes_Size.f k 55296).bind fun t165 => (redpencillaw02_known.j0 k (t165 != 0))) else (redpencillaw02_known.j0 k true))))))) else (redpencillaw02_known.j0 k true))) else (redpencillaw02_known.j0 k true)) else (redpencillaw02_known.j0 k true)) else (redpencillaw02_known.j0 k true))) = some true := H
 have A1 := Aside0.mk A10
 clear A10
 have HC2 := Aside0.mk H
 clear H
 go_enter Tryd.func15, Tryd.ntmps15
 go_upto_region 2 with (first | ((with_reducible refine gate_dst (N := 7) rfl ?_); (try (refine gate_guard (by rfl) ?_; dsimp only)); refine Kd.R_lit (Kd.int .i32) _ 21 ?hg (N := 7) ?hd (xs := ([97, 8364, 128512] : List Int)) (inner := [.int .i32 97, .int .i32 8364, .int .i32 128512]) (ok := fun _ => True) (okp := fun _ => True) ?hr ?hp (fun _ hk => hk) trivial (Below.refl _ _) (Nat.le_refl _) (by simp) ?_; (case hd => rfl); (case hg => rfl); (case hr => first | (go_simp; done) | (go_simp; rfl)); (case hp => exact (Reps.one (show Kd.M (Kd.int .i32) _ _ _ 97 [.int .i32 97] from rfl) (Reps.one (show Kd.M (Kd.int .i32) _ _ _ 8364 [.int .i32 8364] from rfl) (Reps.one (show Kd.M (Kd.int .i32) _ _ _ 128512 [.int .i32 128512] from rfl) (Reps.none _ _))))); intro v153 w3 ho4 hb hg_ hnew_; clear hg_ hnew_; (first | rw [← Ny152.out] at ho4 | (simp only [Int.reduceToNat] at ho4; rw [← Ny152.out] at ho4)); have n0_ := Aside0.mk (Kd.R_lower ho4 (below_size (by repeat (first | (with_reducible first | exact HB.out | apply below_alloc | apply pw_below_drewN | apply below_drew1) | exact HB.out)))); have n1_ := Aside0.mk (below_step (by repeat (first | (with_reducible first | exact HB.out | apply below_alloc | apply pw_below_drewN | apply below_drew1) | exact HB.out)) hb); clear HB; have HO154 := n0_; have HB := n1_; clear n0_ n1_; clear hb ho4; obtain ⟨Ao5, co5, eo5⟩ := Kd.R_slice HO154.out; subst eo5) | ((with_reducible refine gate_callee (f := 27) rfl ?_); refine goesL_ (some 8) rfl rfl Tryd.func27 (by kernel_rfl) rfl #[.slice Ao5 y152.length co5] rfl (by (try simp only [List.map_toArray, List.map_cons, List.map_nil]); first | done | rfl | (simp only [List.length_drop, List.length_take]; rfl)) ?_; (with_reducible refine (runes_Encode.calls _ _ y152 t155 t156 _ ?side1 ?side2 A1.out).mono ?_); (case side1 => repeat (first | exact (Kd.R_reads' HO154.out).2.2 | (with_reducible refine Kd.C_alloc ?_ _) | (with_reducible refine Kd.C_drewN ?_ _) | (with_reducible refine Kd.C_drew ?_))); (case side2 => exact (Kd.R_reads' HO154.out).2.1); rintro e w6 ⟨rfl, hb⟩; refine ⟨_, rfl, ?_⟩; have n0_ := Aside0.mk (Kd.R_below (by (with_reducible repeat (first | apply Kd.R_alloc | apply Kd.R_drewN | apply Kd.R_drew)); exact HO154.out) hb); have n1_ := Aside0.mk (below_step (by repeat (first | (with_reducible first | exact HB.out | apply below_alloc | apply pw_below_drewN | apply below_drew1) | exact HB.out)) hb); clear HO154; clear HB; have HO154 := n0_; have HB := n1_; clear n0_ n1_; (try clear hb); (try clear hb2); (try clear hk); (try clear hi)))
 (try simp only [Act.put, List.setIfInBounds_toArray, List.set_cons_zero, List.set_cons_succ])
 go_cut [40] (fun v40 wc => ∃ (kq : Nat) (x40_1 : Bool), v40 = .bool x40_1 ∧ Aside0 (redpencillaw02_known.j0 kq x40_1 = some true) ∧ Aside0 (kq ≤ k) ∧ Aside0 (Below w.heap.size w wc))
 case first =>
  have H := HC2.out
  clear HC2
  obtain ⟨y157, hy157⟩ : ∃ y_ : List Int, y_ = (([97, 233] : List Int)) := ⟨_, rfl⟩
  replace H : ((redpencillaw02_decodes.f k (⟨#[97, 195, 169]⟩ : ByteArray) y157 0).bind fun t160 => (if t160 = true then (if (t155.size : Int) = 8 then (if t156 = 0 then ((runes_Size.f k 128512).bind fun t161 => (if t161 = 4 then ((runes_Valid.f k 0).bind fun t162 => (if t162 = true then (redpencillaw02_known.j0 k true) else ((runes_Valid.f k 55296).bind fun t163 => (if t163 = true then (redpencillaw02_known.j0 k true) else ((runes_Valid.f k 1114111).bind fun t164 => (if t164 = true then ((runes_Size.f k 55296).bind fun t165 => (redpencillaw02_known.j0 k (t165 != 0))) else (redpencillaw02_known.j0 k true))))))) else (redpencillaw02_known.j0 k true))) else (redpencillaw02_known.j0 k true)) else (redpencillaw02_known.j0 k true)) else (redpencillaw02_known.j0 k true))) = some true := by first | (rw [hy157]; with_reducible exact H) | (have H2_ := (Option.bind_some _ _).symm.trans H; rw [hy157]; with_reducible exact H2_) | (have H2_ := (Option.bind_some _ _).symm.trans H; with_reducible exact H2_) | with_reducible exact H | (rw [hy157]; exact H) | exact H
  have Ny157 := Aside0.mk hy157
  clear hy157
  replace H := Option.bind_eq_some_iff.mp H
  obtain ⟨t160, A70, H⟩ := H
  replace H : (if t160 = true then (if (t155.size : Int) = 8 then (if t156 = 0 then ((runes_Size.f k 128512).bind fun t161 => (if t161 = 4 then ((runes_Valid.f k 0).bind fun t162 => (if t162 = true then (redpencillaw02_known.j0 k true) else ((runes_Valid.f k 55296).bind fun t163 => (if t163 = true then (redpencillaw02_known.j0 k true) else ((runes_Valid.f k 1114111).bind fun t164 => (if t164 = true then ((runes_Size.f k 55296).bind fun t165 => (redpencillaw02_known.j0 k (t165 != 0))) else (redpencillaw02_known.j0 k true))))))) else (redpencillaw02_known.j0 k true))) else (redpencillaw02_known.j0 k true)) else (redpencillaw02_known.j0 k true)) else (redpencillaw02_known.j0 k true)) = some true := H
  have A7 := Aside0.mk A70
  clear A70
  by_cases c8 : t160 = true
  ·
   subst c8
   have H1 : (if (t155.size : Int) = 8 then (if t156 = 0 then ((runes_Size.f k 128512).bind fun t161 => (if t161 = 4 then ((runes_Valid.f k 0).bind fun t162 => (if t162 = true then (redpencillaw02_known.j0 k true) else ((runes_Valid.f k 55296).bind fun t163 => (if t163 = true then (redpencillaw02_known.j0 k true) else ((runes_Valid.f k 1114111).bind fun t164 => (if t164 = true then ((runes_Size.f k 55296).bind fun t165 => (redpencillaw02_known.j0 k (t165 != 0))) else (redpencillaw02_known.j0 k true))))))) else (redpencillaw02_known.j0 k true))) else (redpencillaw02_known.j0 k true)) else (redpencillaw02_known.j0 k true)) = some true := by rw [if_pos rfl] at H; exact H
   clear H
   have H := H1
   clear H1
   by_cases c9 : (t155.size : Int) = 8
   ·
    rw [if_pos c9] at H
    have c9b0 : ((t155.size : Int) == 8) = true := beq_iff_eq.mpr c9
    have c9b1 : ((t155.size : Int) != 8) = false := bne_eq_false_iff_eq.mpr c9
    clear c9
    (first | rw [c9b0] | (simp only [i64_w, i32_w]; rw [c9b0]) | skip)
    by_cases c10 : t156 = 0
    ·
     rw [if_pos c10] at H
     have c10b0 : (t156 == 0) = true := beq_iff_eq.mpr c10
     have c10b1 : (t156 != 0) = false := bne_eq_false_iff_eq.mpr c10
     clear c10
     replace H := Option.bind_eq_some_iff.mp H
     obtain ⟨t161, A110, H⟩ := H
     replace H : (if t161 = 4 then ((runes_Valid.f k 0).bind fun t162 => (if t162 = true then (redpencillaw02_known.j0 k true) else ((runes_Valid.f k 55296).bind fun t163 => (if t163 = true then (redpencillaw02_known.j0 k true) else ((runes_Valid.f k 1114111).bind fun t164 => (if t164 = true then ((runes_Size.f k 55296).bind fun t165 => (redpencillaw02_known.j0 k (t165 != 0))) else (redpencillaw02_known.j0 k true))))))) else (redpencillaw02_known.j0 k true)) = some true := H
     have A11 := Aside0.mk A110
     clear A110
     by_cases c12 : t161 = 4
     ·
      rw [if_pos c12] at H
      have c12b0 : (t161 == 4) = true := beq_iff_eq.mpr c12
      have c12b1 : (t161 != 4) = false := bne_eq_false_iff_eq.mpr c12
      clear c12
      replace H := Option.bind_eq_some_iff.mp H
      obtain ⟨t162, A130, H⟩ := H
      replace H : (if t162 = true then (redpencillaw02_known.j0 k true) else ((runes_Valid.f k 55296).bind fun t163 => (if t163 = true then (redpencillaw02_known.j0 k true) else ((runes_Valid.f k 1114111).bind fun t164 => (if t164 = true then ((runes_Size.f k 55296).bind fun t165 => (redpencillaw02_known.j0 k (t165 != 0))) else (redpencillaw02_known.j0 k true)))))) = some true := H
      have A13 := Aside0.mk A130
      clear A130
      by_cases c14 : t162 = true
      ·
       subst c14
       have H1 : (redpencillaw02_known.j0 k true) = some true := by rw [if_pos rfl] at H; exact H
       clear H
       have H := H1
       clear H1
       have H' := Aside0.mk H
       clear H
       go_wp2_with (first | ((with_reducible refine gate_dst (N := 11) rfl ?_); (try (refine gate_guard (by rfl) ?_; dsimp only)); refine Kd.R_lit (Kd.int .i32) _ 21 ?hg (N := 11) ?hd (xs := ([97, 233] : List Int)) (inner := [.int .i32 97, .int .i32 233]) (ok := fun _ => True) (okp := fun _ => True) ?hr ?hp (fun _ hk => hk) trivial (Below.refl _ _) (Nat.le_refl _) (by simp) ?_; (case hd => rfl); (case hg => rfl); (case hr => first | (go_simp; done) | (go_simp; rfl)); (case hp => exact (Reps.one (show Kd.M (Kd.int .i32) _ _ _ 97 [.int .i32 97] from rfl) (Reps.one (show Kd.M (Kd.int .i32) _ _ _ 233 [.int .i32 233] from rfl) (Reps.none _ _)))); intro v158 w15 ho16 hb hg_ hnew_; clear hg_ hnew_; (first | rw [← Ny157.out] at ho16 | (simp only [Int.reduceToNat] at ho16; rw [← Ny157.out] at ho16)); have n0_ := Aside0.mk (Kd.R_elder' (by (with_reducible repeat (first | apply Kd.R_alloc | apply Kd.R_drewN | apply Kd.R_drew)); exact HO154.out) (Kd.R_base ho16) hb); have n1_ := Aside0.mk (Kd.R_lower (Kd.R_new' ho16 (Kd.R_lt (by (with_reducible repeat (first | apply Kd.R_alloc | apply Kd.R_drewN | apply Kd.R_drew)); exact HO154.out))) (below_size (by repeat (first | (with_reducible first | exact HB.out | apply below_alloc | apply pw_below_drewN | apply below_drew1) | exact HB.out)))); have n2_ := Aside0.mk (below_step (by repeat (first | (with_reducible first | exact HB.out | apply below_alloc | apply pw_below_drewN | apply below_drew1) | exact HB.out)) hb); clear HO154; clear HB; have HO154 := n0_; have HO159 := n1_; have HB := n2_; clear n0_ n1_ n2_; clear hb ho16; obtain ⟨Ao17, co17, eo17⟩ := Kd.R_slice HO159.out; subst eo17) | ((with_reducible refine gate_callee (f := 19) rfl ?_); refine goesL_ (some 12) rfl rfl Tryd.func19 (by kernel_rfl) rfl #[.string (⟨#[97, 195, 169]⟩ : ByteArray), .slice Ao17 y157.length co17, .int .i64 0] rfl (by (try simp only [List.map_toArray, List.map_cons, List.map_nil]); first | done | rfl | (simp only [List.length_drop, List.length_take]; rfl)) ?_; (with_reducible refine (redpencillaw02_decodes.calls k (⟨#[97, 195, 169]⟩ : ByteArray) _ _ y157 0 true _ ?side1 ?side2 ?side3 A7.out).mono ?_); (case side1 => exact GOK_below HG.out (by repeat (first | (with_reducible first | exact HB.out | apply below_alloc | apply pw_below_drewN | apply below_drew1) | exact HB.out))); (case side2 => repeat (first | exact (Kd.R_reads' HO159.out).2.2 | (with_reducible refine Kd.C_alloc ?_ _) | (with_reducible refine Kd.C_drewN ?_ _) | (with_reducible refine Kd.C_drew ?_))); (case side3 => exact (Kd.R_reads' HO159.out).2.1); rintro e w18 ⟨rfl, hb⟩; refine ⟨_, rfl, ?_⟩; have n0_ := Aside0.mk (Kd.R_below (by (with_reducible repeat (first | apply Kd.R_alloc | apply Kd.R_drewN | apply Kd.R_drew)); exact HO154.out) hb); have n1_ := Aside0.mk (Kd.R_below (by (with_reducible repeat (first | apply Kd.R_alloc | apply Kd.R_drewN | apply Kd.R_drew)); exact HO159.out) hb); have n2_ := Aside0.mk (below_step (by repeat (first | (with_reducible first | exact HB.out | apply below_alloc | apply pw_below_drewN | apply below_drew1) | exact HB.out)) hb); clear HO154; clear HO159; clear HB; have HO154 := n0_; have HO159 := n1_; have HB := n2_; clear n0_ n1_ n2_; (try clear hb); (try clear hb2); (try clear hk); (try clear hi)) | (go_at_call 11; (with_reducible refine (runes_Size.calls k 128512 t161 _ A11.out).mono ?_); rintro e w' ⟨rfl, ⟨nd, rfl⟩⟩) | (go_at_call 9; (with_reducible refine (runes_Valid.calls k 0 true _ A13.out).mono ?_); rintro e w' ⟨rfl, ⟨nd, rfl⟩⟩))
       go_meet
       case rel => exact ⟨_, (true), (by first | rfl | (simp; done) | (simp [*]; done)), H', ⟨by first | omega | exact Nat.le_refl _⟩, ⟨by repeat (first | (with_reducible first | exact HB.out | apply below_alloc | apply pw_below_drewN | apply below_drew1) | exact HB.out)⟩⟩
      ·
       replace c14 := Bool.eq_false_iff.mpr c14
       subst c14
       have H1 : ((runes_Valid.f k 55296).bind fun t163 => (if t163 = true then (redpencillaw02_known.j0 k true) else ((runes_Valid.f k 1114111).bind fun t164 => (if t164 = true then ((runes_Size.f k 55296).bind fun t165 => (redpencillaw02_known.j0 k (t165 != 0))) else (redpencillaw02_known.j0 k true))))) = some true := by rw [if_neg (show ¬ (false = true) by decide)] at H; exact H
       clear H
       have H := H1
       clear H1
       replace H := Option.bind_eq_some_iff.mp H
       obtain ⟨t163, A190, H⟩ := H
       replace H : (if t163 = true then (redpencillaw02_known.j0 k true) else ((runes_Valid.f k 1114111).bind fun t164 => (if t164 = true then ((runes_Size.f k 55296).bind fun t165 => (redpencillaw02_known.j0 k (t165 != 0))) else (redpencillaw02_known.j0 k true)))) = some true := H
       have A19 := Aside0.mk A190
       clear A190
       by_cases c20 : t163 = true
       ·
        subst c20
        have H1 : (redpencillaw02_known.j0 k true) = some true := by rw [if_pos rfl] at H; exact H
        clear H
        have H := H1
        clear H1
        have H' := Aside0.mk H
        clear H
        go_wp2_with (first | ((with_reducible refine gate_dst (N := 11) rfl ?_); (try (refine gate_guard (by rfl) ?_; dsimp only)); refine Kd.R_lit (Kd.int .i32) _ 21 ?hg (N := 11) ?hd (xs := ([97, 233] : List Int)) (inner := [.int .i32 97, .int .i32 233]) (ok := fun _ => True) (okp := fun _ => True) ?hr ?hp (fun _ hk => hk) trivial (Below.refl _ _) (Nat.le_refl _) (by simp) ?_; (case hd => rfl); (case hg => rfl); (case hr => first | (go_simp; done) | (go_simp; rfl)); (case hp => exact (Reps.one (show Kd.M (Kd.int .i32) _ _ _ 97 [.int .i32 97] from rfl) (Reps.one (show Kd.M (Kd.int .i32) _ _ _ 233 [.int .i32 233] from rfl) (Reps.none _ _)))); intro v158 w21 ho22 hb hg_ hnew_; clear hg_ hnew_; (first | rw [← Ny157.out] at ho22 | (simp only [Int.reduceToNat] at ho22; rw [← Ny157.out] at ho22)); have n0_ := Aside0.mk (Kd.R_elder' (by (with_reducible repeat (first | apply Kd.R_alloc | apply Kd.R_drewN | apply Kd.R_drew)); exact HO154.out) (Kd.R_base ho22) hb); have n1_ := Aside0.mk (Kd.R_lower (Kd.R_new' ho22 (Kd.R_lt (by (with_reducible repeat (first | apply Kd.R_alloc | apply Kd.R_drewN | apply Kd.R_drew)); exact HO154.out))) (below_size (by repeat (first | (with_reducible first | exact HB.out | apply below_alloc | apply pw_below_drewN | apply below_drew1) | exact HB.out)))); have n2_ := Aside0.mk (below_step (by repeat (first | (with_reducible first | exact HB.out | apply below_alloc | apply pw_below_drewN | apply below_drew1) | exact HB.out)) hb); clear HO154; clear HB; have HO154 := n0_; have HO159 := n1_; have HB := n2_; clear n0_ n1_ n2_; clear hb ho22; obtain ⟨Ao23, co23, eo23⟩ := Kd.R_slice HO159.out; subst eo23) | ((with_reducible refine gate_callee (f := 19) rfl ?_); refine goesL_ (some 12) rfl rfl Tryd.func19 (by kernel_rfl) rfl #[.string (⟨#[97, 195, 169]⟩ : ByteArray), .slice Ao23 y157.length co23, .int .i64 0] rfl (by (try simp only [List.map_toArray, List.map_cons, List.map_nil]); first | done | rfl | (simp only [List.length_drop, List.length_take]; rfl)) ?_; (with_reducible refine (redpencillaw02_decodes.calls k (⟨#[97, 195, 169]⟩ : ByteArray) _ _ y157 0 true _ ?side1 ?side2 ?side3 A7.out).mono ?_); (case side1 => exact GOK_below HG.out (by repeat (first | (with_reducible first | exact HB.out | apply below_alloc | apply pw_below_drewN | apply below_drew1) | exact HB.out))); (case side2 => repeat (first | exact (Kd.R_reads' HO159.out).2.2 | (with_reducible refine Kd.C_alloc ?_ _) | (with_reducible refine Kd.C_drewN ?_ _) | (with_reducible refine Kd.C_drew ?_))); (case side3 => exact (Kd.R_reads' HO159.out).2.1); rintro e w24 ⟨rfl, hb⟩; refine ⟨_, rfl, ?_⟩; have n0_ := Aside0.mk (Kd.R_below (by (with_reducible repeat (first | apply Kd.R_alloc | apply Kd.R_drewN | apply Kd.R_drew)); exact HO154.out) hb); have n1_ := Aside0.mk (Kd.R_below (by (with_reducible repeat (first | apply Kd.R_alloc | apply Kd.R_drewN | apply Kd.R_drew)); exact HO159.out) hb); have n2_ := Aside0.mk (below_step (by repeat (first | (with_reducible first | exact HB.out | apply below_alloc | apply pw_below_drewN | apply below_drew1) | exact HB.out)) hb); clear HO154; clear HO159; clear HB; have HO154 := n0_; have HO159 := n1_; have HB := n2_; clear n0_ n1_ n2_; (try clear hb); (try clear hb2); (try clear hk); (try clear hi)) | (go_at_call 11; (with_reducible refine (runes_Size.calls k 128512 t161 _ A11.out).mono ?_); rintro e w' ⟨rfl, ⟨nd, rfl⟩⟩) | (go_at_call 9; (with_reducible refine (runes_Valid.calls k 0 false _ A13.out).mono ?_); rintro e w' ⟨rfl, ⟨nd, rfl⟩⟩) | (go_at_call 9; (with_reducible refine (runes_Valid.calls k 55296 true _ A19.out).mono ?_); rintro e w' ⟨rfl, ⟨nd, rfl⟩⟩))
        go_meet
        case rel => exact ⟨_, (true), (by first | rfl | (simp; done) | (simp [*]; done)), H', ⟨by first | omega | exact Nat.le_refl _⟩, ⟨by repeat (first | (with_reducible first | exact HB.out | apply below_alloc | apply pw_below_drewN | apply below_drew1) | exact HB.out)⟩⟩
       ·
        replace c20 := Bool.eq_false_iff.mpr c20
        subst c20
        have H1 : ((runes_Valid.f k 1114111).bind fun t164 => (if t164 = true then ((runes_Size.f k 55296).bind fun t165 => (redpencillaw02_known.j0 k (t165 != 0))) else (redpencillaw02_known.j0 k true))) = some true := by rw [if_neg (show ¬ (false = true) by decide)] at H; exact H
        clear H
        have H := H1
        clear H1
        replace H := Option.bind_eq_some_iff.mp H
        obtain ⟨t164, A250, H⟩ := H
        replace H : (if t164 = true then ((runes_Size.f k 55296).bind fun t165 => (redpencillaw02_known.j0 k (t165 != 0))) else (redpencillaw02_known.j0 k true)) = some true := H
        have A25 := Aside0.mk A250
        clear A250
        by_cases c26 : t164 = true
        ·
         subst c26
         have H1 : ((runes_Size.f k 55296).bind fun t165 => (redpencillaw02_known.j0 k (t165 != 0))) = some true := by rw [if_pos rfl] at H; exact H
         clear H
         have H := H1
         clear H1
         replace H := Option.bind_eq_some_iff.mp H
         obtain ⟨t165, A270, H⟩ := H
         replace H : (redpencillaw02_known.j0 k (t165 != 0)) = some true := H
         have A27 := Aside0.mk A270
         clear A270
         have H' := Aside0.mk H
         clear H
         go_wp2_with (first | ((with_reducible refine gate_dst (N := 11) rfl ?_); (try (refine gate_guard (by rfl) ?_; dsimp only)); refine Kd.R_lit (Kd.int .i32) _ 21 ?hg (N := 11) ?hd (xs := ([97, 233] : List Int)) (inner := [.int .i32 97, .int .i32 233]) (ok := fun _ => True) (okp := fun _ => True) ?hr ?hp (fun _ hk => hk) trivial (Below.refl _ _) (Nat.le_refl _) (by simp) ?_; (case hd => rfl); (case hg => rfl); (case hr => first | (go_simp; done) | (go_simp; rfl)); (case hp => exact (Reps.one (show Kd.M (Kd.int .i32) _ _ _ 97 [.int .i32 97] from rfl) (Reps.one (show Kd.M (Kd.int .i32) _ _ _ 233 [.int .i32 233] from rfl) (Reps.none _ _)))); intro v158 w28 ho29 hb hg_ hnew_; clear hg_ hnew_; (first | rw [← Ny157.out] at ho29 | (simp only [Int.reduceToNat] at ho29; rw [← Ny157.out] at ho29)); have n0_ := Aside0.mk (Kd.R_elder' (by (with_reducible repeat (first | apply Kd.R_alloc | apply Kd.R_drewN | apply Kd.R_drew)); exact HO154.out) (Kd.R_base ho29) hb); have n1_ := Aside0.mk (Kd.R_lower (Kd.R_new' ho29 (Kd.R_lt (by (with_reducible repeat (first | apply Kd.R_alloc | apply Kd.R_drewN | apply Kd.R_drew)); exact HO154.out))) (below_size (by repeat (first | (with_reducible first | exact HB.out | apply below_alloc | apply pw_below_drewN | apply below_drew1) | exact HB.out)))); have n2_ := Aside0.mk (below_step (by repeat (first | (with_reducible first | exact HB.out | apply below_alloc | apply pw_below_drewN | apply below_drew1) | exact HB.out)) hb); clear HO154; clear HB; have HO154 := n0_; have HO159 := n1_; have HB := n2_; clear n0_ n1_ n2_; clear hb ho29; obtain ⟨Ao30, co30, eo30⟩ := Kd.R_slice HO159.out; subst eo30) | ((with_reducible refine gate_callee (f := 19) rfl ?_); refine goesL_ (some 12) rfl rfl Tryd.func19 (by kernel_rfl) rfl #[.string (⟨#[97, 195, 169]⟩ : ByteArray), .slice Ao30 y157.length co30, .int .i64 0] rfl (by (try simp only [List.map_toArray, List.map_cons, List.map_nil]); first | done | rfl | (simp only [List.length_drop, List.length_take]; rfl)) ?_; (with_reducible refine (redpencillaw02_decodes.calls k (⟨#[97, 195, 169]⟩ : ByteArray) _ _ y157 0 true _ ?side1 ?side2 ?side3 A7.out).mono ?_); (case side1 => exact GOK_below HG.out (by repeat (first | (with_reducible first | exact HB.out | apply below_alloc | apply pw_below_drewN | apply below_drew1) | exact HB.out))); (case side2 => repeat (first | exact (Kd.R_reads' HO159.out).2.2 | (with_reducible refine Kd.C_alloc ?_ _) | (with_reducible refine Kd.C_drewN ?_ _) | (with_reducible refine Kd.C_drew ?_))); (case side3 => exact (Kd.R_reads' HO159.out).2.1); rintro e w31 ⟨rfl, hb⟩; refine ⟨_, rfl, ?_⟩; have n0_ := Aside0.mk (Kd.R_below (by (with_reducible repeat (first | apply Kd.R_alloc | apply Kd.R_drewN | apply Kd.R_drew)); exact HO154.out) hb); have n1_ := Aside0.mk (Kd.R_below (by (with_reducible repeat (first | apply Kd.R_alloc | apply Kd.R_drewN | apply Kd.R_drew)); exact HO159.out) hb); have n2_ := Aside0.mk (below_step (by repeat (first | (with_reducible first | exact HB.out | apply below_alloc | apply pw_below_drewN | apply below_drew1) | exact HB.out)) hb); clear HO154; clear HO159; clear HB; have HO154 := n0_; have HO159 := n1_; have HB := n2_; clear n0_ n1_ n2_; (try clear hb); (try clear hb2); (try clear hk); (try clear hi)) | (go_at_call 11; (with_reducible refine (runes_Size.calls k 128512 t161 _ A11.out).mono ?_); rintro e w' ⟨rfl, ⟨nd, rfl⟩⟩) | (go_at_call 9; (with_reducible refine (runes_Valid.calls k 0 false _ A13.out).mono ?_); rintro e w' ⟨rfl, ⟨nd, rfl⟩⟩) | (go_at_call 9; (with_reducible refine (runes_Valid.calls k 55296 false _ A19.out).mono ?_); rintro e w' ⟨rfl, ⟨nd, rfl⟩⟩) | (go_at_call 9; (with_reducible refine (runes_Valid.calls k 1114111 true _ A25.out).mono ?_); rintro e w' ⟨rfl, ⟨nd, rfl⟩⟩) | (go_at_call 11; (with_reducible refine (runes_Size.calls k 55296 t165 _ A27.out).mono ?_); rintro e w' ⟨rfl, ⟨nd, rfl⟩⟩))
         go_meet
         case rel => exact ⟨_, ((t165 != 0)), (by first | rfl | (simp; done) | (simp [*]; done)), H', ⟨by first | omega | exact Nat.le_refl _⟩, ⟨by repeat (first | (with_reducible first | exact HB.out | apply below_alloc | apply pw_below_drewN | apply below_drew1) | exact HB.out)⟩⟩
        ·
         replace c26 := Bool.eq_false_iff.mpr c26
         subst c26
         have H1 : (redpencillaw02_known.j0 k true) = some true := by rw [if_neg (show ¬ (false = true) by decide)] at H; exact H
         clear H
         have H := H1
         clear H1
         have H' := Aside0.mk H
         clear H
         go_wp2_with (first | ((with_reducible refine gate_dst (N := 11) rfl ?_); (try (refine gate_guard (by rfl) ?_; dsimp only)); refine Kd.R_lit (Kd.int .i32) _ 21 ?hg (N := 11) ?hd (xs := ([97, 233] : List Int)) (inner := [.int .i32 97, .int .i32 233]) (ok := fun _ => True) (okp := fun _ => True) ?hr ?hp (fun _ hk => hk) trivial (Below.refl _ _) (Nat.le_refl _) (by simp) ?_; (case hd => rfl); (case hg => rfl); (case hr => first | (go_simp; done) | (go_simp; rfl)); (case hp => exact (Reps.one (show Kd.M (Kd.int .i32) _ _ _ 97 [.int .i32 97] from rfl) (Reps.one (show Kd.M (Kd.int .i32) _ _ _ 233 [.int .i32 233] from rfl) (Reps.none _ _)))); intro v158 w32 ho33 hb hg_ hnew_; clear hg_ hnew_; (first | rw [← Ny157.out] at ho33 | (simp only [Int.reduceToNat] at ho33; rw [← Ny157.out] at ho33)); have n0_ := Aside0.mk (Kd.R_elder' (by (with_reducible repeat (first | apply Kd.R_alloc | apply Kd.R_drewN | apply Kd.R_drew)); exact HO154.out) (Kd.R_base ho33) hb); have n1_ := Aside0.mk (Kd.R_lower (Kd.R_new' ho33 (Kd.R_lt (by (with_reducible repeat (first | apply Kd.R_alloc | apply Kd.R_drewN | apply Kd.R_drew)); exact HO154.out))) (below_size (by repeat (first | (with_reducible first | exact HB.out | apply below_alloc | apply pw_below_drewN | apply below_drew1) | exact HB.out)))); have n2_ := Aside0.mk (below_step (by repeat (first | (with_reducible first | exact HB.out | apply below_alloc | apply pw_below_drewN | apply below_drew1) | exact HB.out)) hb); clear HO154; clear HB; have HO154 := n0_; have HO159 := n1_; have HB := n2_; clear n0_ n1_ n2_; clear hb ho33; obtain ⟨Ao34, co34, eo34⟩ := Kd.R_slice HO159.out; subst eo34) | ((with_reducible refine gate_callee (f := 19) rfl ?_); refine goesL_ (some 12) rfl rfl Tryd.func19 (by kernel_rfl) rfl #[.string (⟨#[97, 195, 169]⟩ : ByteArray), .slice Ao34 y157.length co34, .int .i64 0] rfl (by (try simp only [List.map_toArray, List.map_cons, List.map_nil]); first | done | rfl | (simp only [List.length_drop, List.length_take]; rfl)) ?_; (with_reducible refine (redpencillaw02_decodes.calls k (⟨#[97, 195, 169]⟩ : ByteArray) _ _ y157 0 true _ ?side1 ?side2 ?side3 A7.out).mono ?_); (case side1 => exact GOK_below HG.out (by repeat (first | (with_reducible first | exact HB.out | apply below_alloc | apply pw_below_drewN | apply below_drew1) | exact HB.out))); (case side2 => repeat (first | exact (Kd.R_reads' HO159.out).2.2 | (with_reducible refine Kd.C_alloc ?_ _) | (with_reducible refine Kd.C_drewN ?_ _) | (with_reducible refine Kd.C_drew ?_))); (case side3 => exact (Kd.R_reads' HO159.out).2.1); rintro e w35 ⟨rfl, hb⟩; refine ⟨_, rfl, ?_⟩; have n0_ := Aside0.mk (Kd.R_below (by (with_reducible repeat (first | apply Kd.R_alloc | apply Kd.R_drewN | apply Kd.R_drew)); exact HO154.out) hb); have n1_ := Aside0.mk (Kd.R_below (by (with_reducible repeat (first | apply Kd.R_alloc | apply Kd.R_drewN | apply Kd.R_drew)); exact HO159.out) hb); have n2_ := Aside0.mk (below_step (by repeat (first | (with_reducible first | exact HB.out | apply below_alloc | apply pw_below_drewN | apply below_drew1) | exact HB.out)) hb); clear HO154; clear HO159; clear HB; have HO154 := n0_; have HO159 := n1_; have HB := n2_; clear n0_ n1_ n2_; (try clear hb); (try clear hb2); (try clear hk); (try clear hi)) | (go_at_call 11; (with_reducible refine (runes_Size.calls k 128512 t161 _ A11.out).mono ?_); rintro e w' ⟨rfl, ⟨nd, rfl⟩⟩) | (go_at_call 9; (with_reducible refine (runes_Valid.calls k 0 false _ A13.out).mono ?_); rintro e w' ⟨rfl, ⟨nd, rfl⟩⟩) | (go_at_call 9; (with_reducible refine (runes_Valid.calls k 55296 false _ A19.out).mono ?_); rintro e w' ⟨rfl, ⟨nd, rfl⟩⟩) | (go_at_call 9; (with_reducible refine (runes_Valid.calls k 1114111 false _ A25.out).mono ?_); rintro e w' ⟨rfl, ⟨nd, rfl⟩⟩))
         go_meet
         case rel => exact ⟨_, (true), (by first | rfl | (simp; done) | (simp [*]; done)), H', ⟨by first | omega | exact Nat.le_refl _⟩, ⟨by repeat (first | (with_reducible first | exact HB.out | apply below_alloc | apply pw_below_drewN | apply below_drew1) | exact HB.out)⟩⟩
     ·
      rw [if_neg c12] at H
      have c12b0 : (t161 == 4) = false := beq_eq_false_iff_ne.mpr c12
      have c12b1 : (t161 != 4) = true := bne_iff_ne.mpr c12
      have H' := Aside0.mk H
      clear H
      go_wp2_with (first | ((with_reducible refine gate_dst (N := 11) rfl ?_); (try (refine gate_guard (by rfl) ?_; dsimp only)); refine Kd.R_lit (Kd.int .i32) _ 21 ?hg (N := 11) ?hd (xs := ([97, 233] : List Int)) (inner := [.int .i32 97, .int .i32 233]) (ok := fun _ => True) (okp := fun _ => True) ?hr ?hp (fun _ hk => hk) trivial (Below.refl _ _) (Nat.le_refl _) (by simp) ?_; (case hd => rfl); (case hg => rfl); (case hr => first | (go_simp; done) | (go_simp; rfl)); (case hp => exact (Reps.one (show Kd.M (Kd.int .i32) _ _ _ 97 [.int .i32 97] from rfl) (Reps.one (show Kd.M (Kd.int .i32) _ _ _ 233 [.int .i32 233] from rfl) (Reps.none _ _)))); intro v158 w36 ho37 hb hg_ hnew_; clear hg_ hnew_; (first | rw [← Ny157.out] at ho37 | (simp only [Int.reduceToNat] at ho37; rw [← Ny157.out] at ho37)); have n0_ := Aside0.mk (Kd.R_elder' (by (with_reducible repeat (first | apply Kd.R_alloc | apply Kd.R_drewN | apply Kd.R_drew)); exact HO154.out) (Kd.R_base ho37) hb); have n1_ := Aside0.mk (Kd.R_lower (Kd.R_new' ho37 (Kd.R_lt (by (with_reducible repeat (first | apply Kd.R_alloc | apply Kd.R_drewN | apply Kd.R_drew)); exact HO154.out))) (below_size (by repeat (first | (with_reducible first | exact HB.out | apply below_alloc | apply pw_below_drewN | apply below_drew1) | exact HB.out)))); have n2_ := Aside0.mk (below_step (by repeat (first | (with_reducible first | exact HB.out | apply below_alloc | apply pw_below_drewN | apply below_drew1) | exact HB.out)) hb); clear HO154; clear HB; have HO154 := n0_; have HO159 := n1_; have HB := n2_; clear n0_ n1_ n2_; clear hb ho37; obtain ⟨Ao38, co38, eo38⟩ := Kd.R_slice HO159.out; subst eo38) | ((with_reducible refine gate_callee (f := 19) rfl ?_); refine goesL_ (some 12) rfl rfl Tryd.func19 (by kernel_rfl) rfl #[.string (⟨#[97, 195, 169]⟩ : ByteArray), .slice Ao38 y157.length co38, .int .i64 0] rfl (by (try simp only [List.map_toArray, List.map_cons, List.map_nil]); first | done | rfl | (simp only [List.length_drop, List.length_take]; rfl)) ?_; (with_reducible refine (redpencillaw02_decodes.calls k (⟨#[97, 195, 169]⟩ : ByteArray) _ _ y157 0 true _ ?side1 ?side2 ?side3 A7.out).mono ?_); (case side1 => exact GOK_below HG.out (by repeat (first | (with_reducible first | exact HB.out | apply below_alloc | apply pw_below_drewN | apply below_drew1) | exact HB.out))); (case side2 => repeat (first | exact (Kd.R_reads' HO159.out).2.2 | (with_reducible refine Kd.C_alloc ?_ _) | (with_reducible refine Kd.C_drewN ?_ _) | (with_reducible refine Kd.C_drew ?_))); (case side3 => exact (Kd.R_reads' HO159.out).2.1); rintro e w39 ⟨rfl, hb⟩; refine ⟨_, rfl, ?_⟩; have n0_ := Aside0.mk (Kd.R_below (by (with_reducible repeat (first | apply Kd.R_alloc | apply Kd.R_drewN | apply Kd.R_drew)); exact HO154.out) hb); have n1_ := Aside0.mk (Kd.R_below (by (with_reducible repeat (first | apply Kd.R_alloc | apply Kd.R_drewN | apply Kd.R_drew)); exact HO159.out) hb); have n2_ := Aside0.mk (below_step (by repeat (first | (with_reducible first | exact HB.out | apply below_alloc | apply pw_below_drewN | apply below_drew1) | exact HB.out)) hb); clear HO154; clear HO159; clear HB; have HO154 := n0_; have HO159 := n1_; have HB := n2_; clear n0_ n1_ n2_; (try clear hb); (try clear hb2); (try clear hk); (try clear hi)) | (go_at_call 11; (with_reducible refine (runes_Size.calls k 128512 t161 _ A11.out).mono ?_); rintro e w' ⟨rfl, ⟨nd, rfl⟩⟩))
      go_meet
      case rel => exact ⟨_, (true), (by first | rfl | (simp; done) | (simp [*]; done)), H', ⟨by first | omega | exact Nat.le_refl _⟩, ⟨by repeat (first | (with_reducible first | exact HB.out | apply below_alloc | apply pw_below_drewN | apply below_drew1) | exact HB.out)⟩⟩
    ·
     rw [if_neg c10] at H
     have c10b0 : (t156 == 0) = false := beq_eq_false_iff_ne.mpr c10
     have c10b1 : (t156 != 0) = true := bne_iff_ne.mpr c10
     have H' := Aside0.mk H
     clear H
     go_wp2_with (first | ((with_reducible refine gate_dst (N := 11) rfl ?_); (try (refine gate_guard (by rfl) ?_; dsimp only)); refine Kd.R_lit (Kd.int .i32) _ 21 ?hg (N := 11) ?hd (xs := ([97, 233] : List Int)) (inner := [.int .i32 97, .int .i32 233]) (ok := fun _ => True) (okp := fun _ => True) ?hr ?hp (fun _ hk => hk) trivial (Below.refl _ _) (Nat.le_refl _) (by simp) ?_; (case hd => rfl); (case hg => rfl); (case hr => first | (go_simp; done) | (go_simp; rfl)); (case hp => exact (Reps.one (show Kd.M (Kd.int .i32) _ _ _ 97 [.int .i32 97] from rfl) (Reps.one (show Kd.M (Kd.int .i32) _ _ _ 233 [.int .i32 233] from rfl) (Reps.none _ _)))); intro v158 w40 ho41 hb hg_ hnew_; clear hg_ hnew_; (first | rw [← Ny157.out] at ho41 | (simp only [Int.reduceToNat] at ho41; rw [← Ny157.out] at ho41)); have n0_ := Aside0.mk (Kd.R_elder' (by (with_reducible repeat (first | apply Kd.R_alloc | apply Kd.R_drewN | apply Kd.R_drew)); exact HO154.out) (Kd.R_base ho41) hb); have n1_ := Aside0.mk (Kd.R_lower (Kd.R_new' ho41 (Kd.R_lt (by (with_reducible repeat (first | apply Kd.R_alloc | apply Kd.R_drewN | apply Kd.R_drew)); exact HO154.out))) (below_size (by repeat (first | (with_reducible first | exact HB.out | apply below_alloc | apply pw_below_drewN | apply below_drew1) | exact HB.out)))); have n2_ := Aside0.mk (below_step (by repeat (first | (with_reducible first | exact HB.out | apply below_alloc | apply pw_below_drewN | apply below_drew1) | exact HB.out)) hb); clear HO154; clear HB; have HO154 := n0_; have HO159 := n1_; have HB := n2_; clear n0_ n1_ n2_; clear hb ho41; obtain ⟨Ao42, co42, eo42⟩ := Kd.R_slice HO159.out; subst eo42) | ((with_reducible refine gate_callee (f := 19) rfl ?_); refine goesL_ (some 12) rfl rfl Tryd.func19 (by kernel_rfl) rfl #[.string (⟨#[97, 195, 169]⟩ : ByteArray), .slice Ao42 y157.length co42, .int .i64 0] rfl (by (try simp only [List.map_toArray, List.map_cons, List.map_nil]); first | done | rfl | (simp only [List.length_drop, List.length_take]; rfl)) ?_; (with_reducible refine (redpencillaw02_decodes.calls k (⟨#[97, 195, 169]⟩ : ByteArray) _ _ y157 0 true _ ?side1 ?side2 ?side3 A7.out).mono ?_); (case side1 => exact GOK_below HG.out (by repeat (first | (with_reducible first | exact HB.out | apply below_alloc | apply pw_below_drewN | apply below_drew1) | exact HB.out))); (case side2 => repeat (first | exact (Kd.R_reads' HO159.out).2.2 | (with_reducible refine Kd.C_alloc ?_ _) | (with_reducible refine Kd.C_drewN ?_ _) | (with_reducible refine Kd.C_drew ?_))); (case side3 => exact (Kd.R_reads' HO159.out).2.1); rintro e w43 ⟨rfl, hb⟩; refine ⟨_, rfl, ?_⟩; have n0_ := Aside0.mk (Kd.R_below (by (with_reducible repeat (first | apply Kd.R_alloc | apply Kd.R_drewN | apply Kd.R_drew)); exact HO154.out) hb); have n1_ := Aside0.mk (Kd.R_below (by (with_reducible repeat (first | apply Kd.R_alloc | apply Kd.R_drewN | apply Kd.R_drew)); exact HO159.out) hb); have n2_ := Aside0.mk (below_step (by repeat (first | (with_reducible first | exact HB.out | apply below_alloc | apply pw_below_drewN | apply below_drew1) | exact HB.out)) hb); clear HO154; clear HO159; clear HB; have HO154 := n0_; have HO159 := n1_; have HB := n2_; clear n0_ n1_ n2_; (try clear hb); (try clear hb2); (try clear hk); (try clear hi)))
     go_meet
     case rel => exact ⟨_, (true), (by first | rfl | (simp; done) | (simp [*]; done)), H', ⟨by first | omega | exact Nat.le_refl _⟩, ⟨by repeat (first | (with_reducible first | exact HB.out | apply below_alloc | apply pw_below_drewN | apply below_drew1) | exact HB.out)⟩⟩
   ·
    rw [if_neg c9] at H
    have c9b0 : ((t155.size : Int) == 8) = false := beq_eq_false_iff_ne.mpr c9
    have c9b1 : ((t155.size : Int) != 8) = true := bne_iff_ne.mpr c9
    (first | rw [c9b0] | (simp only [i64_w, i32_w]; rw [c9b0]) | skip)
    have H' := Aside0.mk H
    clear H
    go_wp2_with (first | ((with_reducible refine gate_dst (N := 11) rfl ?_); (try (refine gate_guard (by rfl) ?_; dsimp only)); refine Kd.R_lit (Kd.int .i32) _ 21 ?hg (N := 11) ?hd (xs := ([97, 233] : List Int)) (inner := [.int .i32 97, .int .i32 233]) (ok := fun _ => True) (okp := fun _ => True) ?hr ?hp (fun _ hk => hk) trivial (Below.refl _ _) (Nat.le_refl _) (by simp) ?_; (case hd => rfl); (case hg => rfl); (case hr => first | (go_simp; done) | (go_simp; rfl)); (case hp => exact (Reps.one (show Kd.M (Kd.int .i32) _ _ _ 97 [.int .i32 97] from rfl) (Reps.one (show Kd.M (Kd.int .i32) _ _ _ 233 [.int .i32 233] from rfl) (Reps.none _ _)))); intro v158 w44 ho45 hb hg_ hnew_; clear hg_ hnew_; (first | rw [← Ny157.out] at ho45 | (simp only [Int.reduceToNat] at ho45; rw [← Ny157.out] at ho45)); have n0_ := Aside0.mk (Kd.R_elder' (by (with_reducible repeat (first | apply Kd.R_alloc | apply Kd.R_drewN | apply Kd.R_drew)); exact HO154.out) (Kd.R_base ho45) hb); have n1_ := Aside0.mk (Kd.R_lower (Kd.R_new' ho45 (Kd.R_lt (by (with_reducible repeat (first | apply Kd.R_alloc | apply Kd.R_drewN | apply Kd.R_drew)); exact HO154.out))) (below_size (by repeat (first | (with_reducible first | exact HB.out | apply below_alloc | apply pw_below_drewN | apply below_drew1) | exact HB.out)))); have n2_ := Aside0.mk (below_step (by repeat (first | (with_reducible first | exact HB.out | apply below_alloc | apply pw_below_drewN | apply below_drew1) | exact HB.out)) hb); clear HO154; clear HB; have HO154 := n0_; have HO159 := n1_; have HB := n2_; clear n0_ n1_ n2_; clear hb ho45; obtain ⟨Ao46, co46, eo46⟩ := Kd.R_slice HO159.out; subst eo46) | ((with_reducible refine gate_callee (f := 19) rfl ?_); refine goesL_ (some 12) rfl rfl Tryd.func19 (by kernel_rfl) rfl #[.string (⟨#[97, 195, 169]⟩ : ByteArray), .slice Ao46 y157.length co46, .int .i64 0] rfl (by (try simp only [List.map_toArray, List.map_cons, List.map_nil]); first | done | rfl | (simp only [List.length_drop, List.length_take]; rfl)) ?_; (with_reducible refine (redpencillaw02_decodes.calls k (⟨#[97, 195, 169]⟩ : ByteArray) _ _ y157 0 true _ ?side1 ?side2 ?side3 A7.out).mono ?_); (case side1 => exact GOK_below HG.out (by repeat (first | (with_reducible first | exact HB.out | apply below_alloc | apply pw_below_drewN | apply below_drew1) | exact HB.out))); (case side2 => repeat (first | exact (Kd.R_reads' HO159.out).2.2 | (with_reducible refine Kd.C_alloc ?_ _) | (with_reducible refine Kd.C_drewN ?_ _) | (with_reducible refine Kd.C_drew ?_))); (case side3 => exact (Kd.R_reads' HO159.out).2.1); rintro e w47 ⟨rfl, hb⟩; refine ⟨_, rfl, ?_⟩; have n0_ := Aside0.mk (Kd.R_below (by (with_reducible repeat (first | apply Kd.R_alloc | apply Kd.R_drewN | apply Kd.R_drew)); exact HO154.out) hb); have n1_ := Aside0.mk (Kd.R_below (by (with_reducible repeat (first | apply Kd.R_alloc | apply Kd.R_drewN | apply Kd.R_drew)); exact HO159.out) hb); have n2_ := Aside0.mk (below_step (by repeat (first | (with_reducible first | exact HB.out | apply below_alloc | apply pw_below_drewN | apply below_drew1) | exact HB.out)) hb); clear HO154; clear HO159; clear HB; have HO154 := n0_; have HO159 := n1_; have HB := n2_; clear n0_ n1_ n2_; (try clear hb); (try clear hb2); (try clear hk); (try clear hi)))
    go_meet
    case rel => exact ⟨_, (true), (by first | rfl | (simp; done) | (simp [*]; done)), H', ⟨by first | omega | exact Nat.le_refl _⟩, ⟨by repeat (first | (with_reducible first | exact HB.out | apply below_alloc | apply pw_below_drewN | apply below_drew1) | exact HB.out)⟩⟩
  ·
   replace c8 := Bool.eq_false_iff.mpr c8
   subst c8
   have H1 : (redpencillaw02_known.j0 k true) = some true := by rw [if_neg (show ¬ (false = true) by decide)] at H; exact H
   clear H
   have H := H1
   clear H1
   have H' := Aside0.mk H
   clear H
   go_wp2_with (first | ((with_reducible refine gate_dst (N := 11) rfl ?_); (try (refine gate_guard (by rfl) ?_; dsimp only)); refine Kd.R_lit (Kd.int .i32) _ 21 ?hg (N := 11) ?hd (xs := ([97, 233] : List Int)) (inner := [.int .i32 97, .int .i32 233]) (ok := fun _ => True) (okp := fun _ => True) ?hr ?hp (fun _ hk => hk) trivial (Below.refl _ _) (Nat.le_refl _) (by simp) ?_; (case hd => rfl); (case hg => rfl); (case hr => first | (go_simp; done) | (go_simp; rfl)); (case hp => exact (Reps.one (show Kd.M (Kd.int .i32) _ _ _ 97 [.int .i32 97] from rfl) (Reps.one (show Kd.M (Kd.int .i32) _ _ _ 233 [.int .i32 233] from rfl) (Reps.none _ _)))); intro v158 w48 ho49 hb hg_ hnew_; clear hg_ hnew_; (first | rw [← Ny157.out] at ho49 | (simp only [Int.reduceToNat] at ho49; rw [← Ny157.out] at ho49)); have n0_ := Aside0.mk (Kd.R_elder' (by (with_reducible repeat (first | apply Kd.R_alloc | apply Kd.R_drewN | apply Kd.R_drew)); exact HO154.out) (Kd.R_base ho49) hb); have n1_ := Aside0.mk (Kd.R_lower (Kd.R_new' ho49 (Kd.R_lt (by (with_reducible repeat (first | apply Kd.R_alloc | apply Kd.R_drewN | apply Kd.R_drew)); exact HO154.out))) (below_size (by repeat (first | (with_reducible first | exact HB.out | apply below_alloc | apply pw_below_drewN | apply below_drew1) | exact HB.out)))); have n2_ := Aside0.mk (below_step (by repeat (first | (with_reducible first | exact HB.out | apply below_alloc | apply pw_below_drewN | apply below_drew1) | exact HB.out)) hb); clear HO154; clear HB; have HO154 := n0_; have HO159 := n1_; have HB := n2_; clear n0_ n1_ n2_; clear hb ho49; obtain ⟨Ao50, co50, eo50⟩ := Kd.R_slice HO159.out; subst eo50) | ((with_reducible refine gate_callee (f := 19) rfl ?_); refine goesL_ (some 12) rfl rfl Tryd.func19 (by kernel_rfl) rfl #[.string (⟨#[97, 195, 169]⟩ : ByteArray), .slice Ao50 y157.length co50, .int .i64 0] rfl (by (try simp only [List.map_toArray, List.map_cons, List.map_nil]); first | done | rfl | (simp only [List.length_drop, List.length_take]; rfl)) ?_; (with_reducible refine (redpencillaw02_decodes.calls k (⟨#[97, 195, 169]⟩ : ByteArray) _ _ y157 0 false _ ?side1 ?side2 ?side3 A7.out).mono ?_); (case side1 => exact GOK_below HG.out (by repeat (first | (with_reducible first | exact HB.out | apply below_alloc | apply pw_below_drewN | apply below_drew1) | exact HB.out))); (case side2 => repeat (first | exact (Kd.R_reads' HO159.out).2.2 | (with_reducible refine Kd.C_alloc ?_ _) | (with_reducible refine Kd.C_drewN ?_ _) | (with_reducible refine Kd.C_drew ?_))); (case side3 => exact (Kd.R_reads' HO159.out).2.1); rintro e w51 ⟨rfl, hb⟩; refine ⟨_, rfl, ?_⟩; have n0_ := Aside0.mk (Kd.R_below (by (with_reducible repeat (first | apply Kd.R_alloc | apply Kd.R_drewN | apply Kd.R_drew)); exact HO154.out) hb); have n1_ := Aside0.mk (Kd.R_below (by (with_reducible repeat (first | apply Kd.R_alloc | apply Kd.R_drewN | apply Kd.R_drew)); exact HO159.out) hb); have n2_ := Aside0.mk (below_step (by repeat (first | (with_reducible first | exact HB.out | apply below_alloc | apply pw_below_drewN | apply below_drew1) | exact HB.out)) hb); clear HO154; clear HO159; clear HB; have HO154 := n0_; have HO159 := n1_; have HB := n2_; clear n0_ n1_ n2_; (try clear hb); (try clear hb2); (try clear hk); (try clear hi)))
   go_meet
   case rel => exact ⟨_, (true), (by first | rfl | (simp; done) | (simp [*]; done)), H', ⟨by first | omega | exact Nat.le_refl _⟩, ⟨by repeat (first | (with_reducible first | exact HB.out | apply below_alloc | apply pw_below_drewN | apply below_drew1) | exact HB.out)⟩⟩
 case rest =>
  clear HC2
  try clear c1
  try clear c2
  try clear p2
  try clear c8
  try clear c9
  try clear c9b0
  try clear c9b1
  try clear c10
  try clear c10b0
  try clear c10b1
  try clear c12
  try clear c12b0
  try clear c12b1
  try clear c14
  try clear c15
  try clear c19
  try clear c20
  try clear c26
  try clear c27
  obtain ⟨kq, x40_1, rfl, HA, HJ1, HB⟩ := hcut
  cases kq with
  | zero => exact absurd HA.out (by simp [redpencillaw02_known.j0])
  | succ kj1 =>
   have H := HA.out
   clear HA
   simp only [redpencillaw02_known.j0] at H
   by_cases c52 : x40_1 = true
   ·
    subst c52
    have H1 : (some false) = some true := by rw [if_pos rfl] at H; exact H
    exact absurd H1 (by simp)
   ·
    replace c52 := Bool.eq_false_iff.mpr c52
    subst c52
    have H1 : ((some (([(⟨#[192, 128]⟩ : ByteArray), (⟨#[237, 160, 128]⟩ : ByteArray), (⟨#[244, 144, 128, 128]⟩ : ByteArray), (⟨#[226, 130]⟩ : ByteArray)] : List ByteArray) : List ByteArray)).bind fun y166 => (redpencillaw02_known.l0 kj1 y166 (y166.length : Int) 0)) = some true := by rw [if_neg (show ¬ (false = true) by decide)] at H; exact H
    clear H
    have H := H1
    clear H1
    obtain ⟨y166, hy166⟩ : ∃ y_ : List ByteArray, y_ = (([(⟨#[192, 128]⟩ : ByteArray), (⟨#[237, 160, 128]⟩ : ByteArray), (⟨#[244, 144, 128, 128]⟩ : ByteArray), (⟨#[226, 130]⟩ : ByteArray)] : List ByteArray)) := ⟨_, rfl⟩
    replace H : (redpencillaw02_known.l0 kj1 y166 (y166.length : Int) 0) = some true := by first | (rw [hy166]; with_reducible exact H) | (have H2_ := (Option.bind_some _ _).symm.trans H; rw [hy166]; with_reducible exact H2_) | (have H2_ := (Option.bind_some _ _).symm.trans H; with_reducible exact H2_) | with_reducible exact H | (rw [hy166]; exact H) | exact H
    have Ny166 := Aside0.mk hy166
    clear hy166
    have H' := Aside0.mk H
    clear H
    go_wp2_with (first | ((with_reducible refine gate_dst (N := 41) rfl ?_); (try (refine gate_guard (by rfl) ?_; dsimp only)); refine Kd.R_lit Kd.string _ 9 ?hg (N := 41) ?hd (xs := ([(⟨#[192, 128]⟩ : ByteArray), (⟨#[237, 160, 128]⟩ : ByteArray), (⟨#[244, 144, 128, 128]⟩ : ByteArray), (⟨#[226, 130]⟩ : ByteArray)] : List ByteArray)) (inner := [.string (⟨#[192, 128]⟩ : ByteArray), .string (⟨#[237, 160, 128]⟩ : ByteArray), .string (⟨#[244, 144, 128, 128]⟩ : ByteArray), .string (⟨#[226, 130]⟩ : ByteArray)]) (ok := fun _ => True) (okp := fun _ => True) ?hr ?hp (fun _ hk => hk) trivial (Below.refl _ _) (Nat.le_refl _) (by simp) ?_; (case hd => rfl); (case hg => rfl); (case hr => first | (go_simp; done) | (go_simp; rfl)); (case hp => exact (Reps.one (show Kd.M Kd.string _ _ _ (⟨#[192, 128]⟩ : ByteArray) [.string (⟨#[192, 128]⟩ : ByteArray)] from rfl) (Reps.one (show Kd.M Kd.string _ _ _ (⟨#[237, 160, 128]⟩ : ByteArray) [.string (⟨#[237, 160, 128]⟩ : ByteArray)] from rfl) (Reps.one (show Kd.M Kd.string _ _ _ (⟨#[244, 144, 128, 128]⟩ : ByteArray) [.string (⟨#[244, 144, 128, 128]⟩ : ByteArray)] from rfl) (Reps.one (show Kd.M Kd.string _ _ _ (⟨#[226, 130]⟩ : ByteArray) [.string (⟨#[226, 130]⟩ : ByteArray)] from rfl) (Reps.none _ _)))))); intro v167 w53 ho54 hb hg_ hnew_; clear hg_ hnew_; (first | rw [← Ny166.out] at ho54 | (simp only [Int.reduceToNat] at ho54; rw [← Ny166.out] at ho54)); have n0_ := Aside0.mk (Kd.R_lower ho54 (below_size (by repeat (first | (with_reducible first | exact HB.out | apply below_alloc | apply pw_below_drewN | apply below_drew1) | exact HB.out)))); have n1_ := Aside0.mk (below_step (by repeat (first | (with_reducible first | exact HB.out | apply below_alloc | apply pw_below_drewN | apply below_drew1) | exact HB.out)) hb); clear HB; have HO168 := n0_; have HB := n1_; clear n0_ n1_; clear hb ho54; obtain ⟨Ao55, co55, eo55⟩ := Kd.R_slice HO168.out; subst eo55))
    go_loopg [43] kj1 (fun kq v43 w' => ∃ (x43_2 : Int), v43 = .int .i64 x43_2 ∧ Aside0 (redpencillaw02_known.l0 kq y166 (y166.length : Int) x43_2 = some true) ∧ Aside0 (kq ≤ kj1) ∧ Aside0 (Kd.R Kd.string 9 w' w.heap.size (fun _ => True) (.slice Ao55 y166.length co55) y166) ∧ Aside0 (Below w.heap.size w w'))
    case atStart => exact ⟨(0), (by first | rfl | (simp; done) | (simp [*]; done)), H', ⟨Nat.le_refl _⟩, ⟨by (with_reducible repeat (first | apply Kd.R_alloc | apply Kd.R_drewN | apply Kd.R_drew)); exact HO168.out⟩, ⟨by repeat (first | (with_reducible first | exact HB.out | apply below_alloc | apply pw_below_drewN | apply below_drew1) | exact HB.out)⟩⟩
    case round =>
     clear H'
     try clear c1
     try clear c2
     try clear p2
     try clear c5
     try clear c8
     try clear c9
     try clear c9b0
     try clear c9b1
     try clear c10
     try clear c10b0
     try clear c10b1
     try clear c12
     try clear c12b0
     try clear c12b1
     try clear c14
     try clear c15
     try clear c19
     try clear c20
     try clear c26
     try clear c27
     try clear c52
     try clear p2
     obtain ⟨x43_2, rfl, HA, HK2, HO_41, HB⟩ := hrel
     cases gk with
     | zero => exact absurd HA.out (by simp [redpencillaw02_known.l0])
     | succ k2 =>
      have H := HA.out
      clear HA
      simp only [redpencillaw02_known.l0] at H
      by_cases c56 : x43_2 < (y166.length : Int)
      ·
       rw [if_pos c56] at H
       have c56b0 : decide (x43_2 < (y166.length : Int)) = true := decide_eq_true c56
       clear c56
       by_cases c57 : 0 ≤ x43_2
       ·
        rw [if_pos c57] at H
        have c57b0 : decide (0 ≤ x43_2) = true := decide_eq_true c57
        clear c57
        by_cases c58 : x43_2 < (y166.length : Int)
        ·
         rw [if_pos c58] at H
         have c58b0 : decide (x43_2 < (y166.length : Int)) = true := decide_eq_true c58
         clear c58
         replace H := Option.bind_eq_some_iff.mp H
         obtain ⟨t170, A590, H⟩ := H
         replace H : (if t170 = true then (redpencillaw02_known.l0 k2 y166 (y166.length : Int) (wrap64 (x43_2 + 1))) else (some false)) = some true := H
         have A59 := Aside0.mk A590
         clear A590
         by_cases c60 : t170 = true
         ·
          subst c60
          have H1 : (redpencillaw02_known.l0 k2 y166 (y166.length : Int) (wrap64 (x43_2 + 1))) = some true := by rw [if_pos rfl] at H; exact H
          clear H
          have H := H1
          clear H1
          have H' := Aside0.mk H
          clear H
          have p169 : 0 ≤ (x43_2 : Int) := of_decide_eq_true (by first | (with_reducible assumption) | assumption)
          have q169 : x43_2 < (y166.length : Int) := of_decide_eq_true (by first | (with_reducible assumption) | assumption)
          obtain ⟨ad169, e169, hx169_0⟩ := Kd.at_string (Kd.R_reads' HO_41.out).2.2 x43_2 p169 q169
          cases e169
          replace p169 := eq_true p169
          replace q169 := eq_true q169
          go_wp2_with (first | ((with_reducible refine gate_callee (f := 19) rfl ?_); refine goesL_ (some 48) rfl rfl Tryd.func19 (by kernel_rfl) rfl #[.string (rdOf ByteArray.empty y166 x43_2), .slice none 0 0, .int .i64 12] rfl (by (try simp only [List.map_toArray, List.map_cons, List.map_nil]); first | done | rfl | (simp only [List.length_drop, List.length_take]; rfl)) ?_; (refine (redpencillaw02_decodes.calls k2 (rdOf ByteArray.empty y166 x43_2) _ _ ([] : List Int) 12 true _ ?side1 ?side2 ?side3 A59.out).mono ?_); (case side1 => exact GOK_below HG.out (by repeat (first | (with_reducible first | exact HB.out | apply below_alloc | apply pw_below_drewN | apply below_drew1) | exact HB.out))); (case side2 => exact Kd.C_nil _ _); (case side3 => exact Nat.le_refl _); rintro e w61 ⟨rfl, hb⟩; refine ⟨_, rfl, ?_⟩; have n0_ := Aside0.mk (Kd.R_below (by (with_reducible repeat (first | apply Kd.R_alloc | apply Kd.R_drewN | apply Kd.R_drew)); exact HO_41.out) hb); have n1_ := Aside0.mk (below_step (by repeat (first | (with_reducible first | exact HB.out | apply below_alloc | apply pw_below_drewN | apply below_drew1) | exact HB.out)) hb); clear HO_41; clear HB; have HO_41 := n0_; have HB := n1_; clear n0_ n1_; (try clear hb); (try clear hb2); (try clear hk); (try clear hi)))
          go_roundg k2
          case measure => have := HJ1.out; have := HK2.out; omega
          case rel => exact ⟨(wrap64 (x43_2 + 1)), (by first | rfl | (simp; done) | (simp [*]; done)), H', ⟨by have := HJ1.out; have := HK2.out; omega⟩, ⟨by (with_reducible repeat (first | apply Kd.R_alloc | apply Kd.R_drewN | apply Kd.R_drew)); exact HO_41.out⟩, ⟨by repeat (first | (with_reducible first | exact HB.out | apply below_alloc | apply pw_below_drewN | apply below_drew1) | exact HB.out)⟩⟩
         ·
          replace c60 := Bool.eq_false_iff.mpr c60
          subst c60
          have H1 : (some false) = some true := by rw [if_neg (show ¬ (false = true) by decide)] at H; exact H
          exact absurd H1 (by simp)
        ·
         rw [if_neg c58] at H
         exact absurd H (by simp)
       ·
        rw [if_neg c57] at H
        exact absurd H (by simp)
      ·
       rw [if_neg c56] at H
       have c56b0 : decide (x43_2 < (y166.length : Int)) = false := decide_eq_false c56
       clear c56
       have HC63 := Aside0.mk H
       clear H
       go_upto_region 10 with (fail)
       go_cut [62] (fun v62 wc => ∃ (kq : Nat) (x62_62 : Bool), v62 = .bool x62_62 ∧ Aside0 (redpencillaw02_known.j2 kq x62_62 = some true) ∧ Aside0 (kq ≤ k2) ∧ Aside0 (Below w.heap.size w wc))
       case first =>
        have H := HC63.out
        clear HC63
        replace H := Option.bind_eq_some_iff.mp H
        obtain ⟨t171, A640, H⟩ := H
        replace H : (if t171 = true then ((redpencillaw02_encodes.f (([0] : List Int)) (⟨#[]⟩ : ByteArray) 13).bind fun t175 => (if t175 = true then ((redpencillaw02_encodes.f (([57343] : List Int)) (⟨#[]⟩ : ByteArray) 13).bind fun t179 => (redpencillaw02_known.j2 k2 (!t179))) else (redpencillaw02_known.j2 k2 true))) else (redpencillaw02_known.j2 k2 true)) = some true := H
        have A64 := Aside0.mk A640
        clear A640
        by_cases c65 : t171 = true
        ·
         subst c65
         have H1 : ((redpencillaw02_encodes.f (([0] : List Int)) (⟨#[]⟩ : ByteArray) 13).bind fun t175 => (if t175 = true then ((redpencillaw02_encodes.f (([57343] : List Int)) (⟨#[]⟩ : ByteArray) 13).bind fun t179 => (redpencillaw02_known.j2 k2 (!t179))) else (redpencillaw02_known.j2 k2 true))) = some true := by rw [if_pos rfl] at H; exact H
         clear H
         have H := H1
         clear H1
         obtain ⟨y172, hy172⟩ : ∃ y_ : List Int, y_ = (([0] : List Int)) := ⟨_, rfl⟩
         replace H : ((redpencillaw02_encodes.f y172 (⟨#[]⟩ : ByteArray) 13).bind fun t175 => (if t175 = true then ((redpencillaw02_encodes.f (([57343] : List Int)) (⟨#[]⟩ : ByteArray) 13).bind fun t179 => (redpencillaw02_known.j2 k2 (!t179))) else (redpencillaw02_known.j2 k2 true))) = some true := by first | (rw [hy172]; with_reducible exact H) | (have H2_ := (Option.bind_some _ _).symm.trans H; rw [hy172]; with_reducible exact H2_) | (have H2_ := (Option.bind_some _ _).symm.trans H; with_reducible exact H2_) | with_reducible exact H | (rw [hy172]; exact H) | exact H
         have Ny172 := Aside0.mk hy172
         clear hy172
         replace H := Option.bind_eq_some_iff.mp H
         obtain ⟨t175, A660, H⟩ := H
         replace H : (if t175 = true then ((redpencillaw02_encodes.f (([57343] : List Int)) (⟨#[]⟩ : ByteArray) 13).bind fun t179 => (redpencillaw02_known.j2 k2 (!t179))) else (redpencillaw02_known.j2 k2 true)) = some true := H
         have A66 := Aside0.mk A660
         clear A660
         by_cases c67 : t175 = true
         ·
          subst c67
          have H1 : ((redpencillaw02_encodes.f (([57343] : List Int)) (⟨#[]⟩ : ByteArray) 13).bind fun t179 => (redpencillaw02_known.j2 k2 (!t179))) = some true := by rw [if_pos rfl] at H; exact H
          clear H
          have H := H1
          clear H1
          obtain ⟨y176, hy176⟩ : ∃ y_ : List Int, y_ = (([57343] : List Int)) := ⟨_, rfl⟩
          replace H : ((redpencillaw02_encodes.f y176 (⟨#[]⟩ : ByteArray) 13).bind fun t179 => (redpencillaw02_known.j2 k2 (!t179))) = some true := by first | (rw [hy176]; with_reducible exact H) | (have H2_ := (Option.bind_some _ _).symm.trans H; rw [hy176]; with_reducible exact H2_) | (have H2_ := (Option.bind_some _ _).symm.trans H; with_reducible exact H2_) | with_reducible exact H | (rw [hy176]; exact H) | exact H
          have Ny176 := Aside0.mk hy176
          clear hy176
          replace H := Option.bind_eq_some_iff.mp H
          obtain ⟨t179, A680, H⟩ := H
          replace H : (redpencillaw02_known.j2 k2 (!t179)) = some true := H
          have A68 := Aside0.mk A680
          clear A680
          have H' := Aside0.mk H
          clear H
          go_wp2_with (first | ((with_reducible refine gate_callee (f := 19) rfl ?_); refine goesL_ (some 51) rfl rfl Tryd.func19 (by kernel_rfl) rfl #[.string (⟨#[97, 0]⟩ : ByteArray), .slice none 0 0, .int .i64 13] rfl (by (try simp only [List.map_toArray, List.map_cons, List.map_nil]); first | done | rfl | (simp only [List.length_drop, List.length_take]; rfl)) ?_; (refine (redpencillaw02_decodes.calls k2 (⟨#[97, 0]⟩ : ByteArray) _ _ ([] : List Int) 13 true _ ?side1 ?side2 ?side3 A64.out).mono ?_); (case side1 => exact GOK_below HG.out (by repeat (first | (with_reducible first | exact HB.out | apply below_alloc | apply pw_below_drewN | apply below_drew1) | exact HB.out))); (case side2 => exact Kd.C_nil _ _); (case side3 => exact Nat.le_refl _); rintro e w69 ⟨rfl, hb⟩; refine ⟨_, rfl, ?_⟩; have n0_ := Aside0.mk (Kd.R_below (by (with_reducible repeat (first | apply Kd.R_alloc | apply Kd.R_drewN | apply Kd.R_drew)); exact HO_41.out) hb); have n1_ := Aside0.mk (below_step (by repeat (first | (with_reducible first | exact HB.out | apply below_alloc | apply pw_below_drewN | apply below_drew1) | exact HB.out)) hb); clear HO_41; clear HB; have HO_41 := n0_; have HB := n1_; clear n0_ n1_; (try clear hb); (try clear hb2); (try clear hk); (try clear hi)) | ((with_reducible refine gate_dst (N := 54) rfl ?_); (try (refine gate_guard (by rfl) ?_; dsimp only)); refine Kd.R_lit (Kd.int .i32) _ 21 ?hg (N := 54) ?hd (xs := ([0] : List Int)) (inner := [.int .i32 0]) (ok := fun _ => True) (okp := fun _ => True) ?hr ?hp (fun _ hk => hk) trivial (Below.refl _ _) (Nat.le_refl _) (by simp) ?_; (case hd => rfl); (case hg => rfl); (case hr => first | (go_simp; done) | (go_simp; rfl)); (case hp => exact (Reps.one (show Kd.M (Kd.int .i32) _ _ _ 0 [.int .i32 0] from rfl) (Reps.none _ _))); intro v173 w70 ho71 hb hg_ hnew_; clear hg_ hnew_; (first | rw [← Ny172.out] at ho71 | (simp only [Int.reduceToNat] at ho71; rw [← Ny172.out] at ho71)); have n0_ := Aside0.mk (Kd.R_below (by (with_reducible repeat (first | apply Kd.R_alloc | apply Kd.R_drewN | apply Kd.R_drew)); exact HO_41.out) hb); have n1_ := Aside0.mk (Kd.R_lower ho71 (below_size (by repeat (first | (with_reducible first | exact HB.out | apply below_alloc | apply pw_below_drewN | apply below_drew1) | exact HB.out)))); have n2_ := Aside0.mk (below_step (by repeat (first | (with_reducible first | exact HB.out | apply below_alloc | apply pw_below_drewN | apply below_drew1) | exact HB.out)) hb); clear HO_41; clear HB; have HO_41 := n0_; have HO174 := n1_; have HB := n2_; clear n0_ n1_ n2_; clear hb ho71; obtain ⟨Ao72, co72, eo72⟩ := Kd.R_slice HO174.out; subst eo72) | (go_at_call 14; (with_reducible refine (redpencillaw02_encodes.calls _ _ y172 (⟨#[]⟩ : ByteArray) 13 true _ ?side1 ?side2 A66.out).mono ?_); (case side1 => repeat (first | exact (Kd.R_reads' HO174.out).2.2 | (with_reducible refine Kd.C_alloc ?_ _) | (with_reducible refine Kd.C_drewN ?_ _) | (with_reducible refine Kd.C_drew ?_))); (case side2 => exact (Kd.R_reads' HO174.out).2.1); rintro e w73 ⟨rfl, hb⟩; have n0_ := Aside0.mk (Kd.R_below (by (with_reducible repeat (first | apply Kd.R_alloc | apply Kd.R_drewN | apply Kd.R_drew)); exact HO_41.out) hb); have n1_ := Aside0.mk (Kd.R_below (by (with_reducible repeat (first | apply Kd.R_alloc | apply Kd.R_drewN | apply Kd.R_drew)); exact HO174.out) hb); have n2_ := Aside0.mk (below_step (by repeat (first | (with_reducible first | exact HB.out | apply below_alloc | apply pw_below_drewN | apply below_drew1) | exact HB.out)) hb); clear HO_41; clear HO174; clear HB; have HO_41 := n0_; have HO174 := n1_; have HB := n2_; clear n0_ n1_ n2_; (try clear hb); (try clear hb2); (try clear hk); (try clear hi)) | ((with_reducible refine gate_dst (N := 59) rfl ?_); (try (refine gate_guard (by rfl) ?_; dsimp only)); refine Kd.R_lit (Kd.int .i32) _ 21 ?hg (N := 59) ?hd (xs := ([57343] : List Int)) (inner := [.int .i32 57343]) (ok := fun _ => True) (okp := fun _ => True) ?hr ?hp (fun _ hk => hk) trivial (Below.refl _ _) (Nat.le_refl _) (by simp) ?_; (case hd => rfl); (case hg => rfl); (case hr => first | (go_simp; done) | (go_simp; rfl)); (case hp => exact (Reps.one (show Kd.M (Kd.int .i32) _ _ _ 57343 [.int .i32 57343] from rfl) (Reps.none _ _))); intro v177 w74 ho75 hb hg_ hnew_; clear hg_ hnew_; (first | rw [← Ny176.out] at ho75 | (simp only [Int.reduceToNat] at ho75; rw [← Ny176.out] at ho75)); have n0_ := Aside0.mk (Kd.R_below (by (with_reducible repeat (first | apply Kd.R_alloc | apply Kd.R_drewN | apply Kd.R_drew)); exact HO_41.out) hb); have n1_ := Aside0.mk (Kd.R_elder' (by (with_reducible repeat (first | apply Kd.R_alloc | apply Kd.R_drewN | apply Kd.R_drew)); exact HO174.out) (Kd.R_base ho75) hb); have n2_ := Aside0.mk (Kd.R_lower (Kd.R_new' ho75 (Kd.R_lt (by (with_reducible repeat (first | apply Kd.R_alloc | apply Kd.R_drewN | apply Kd.R_drew)); exact HO174.out))) (below_size (by repeat (first | (with_reducible first | exact HB.out | apply below_alloc | apply pw_below_drewN | apply below_drew1) | exact HB.out)))); have n3_ := Aside0.mk (below_step (by repeat (first | (with_reducible first | exact HB.out | apply below_alloc | apply pw_below_drewN | apply below_drew1) | exact HB.out)) hb); clear HO_41; clear HO174; clear HB; have HO_41 := n0_; have HO174 := n1_; have HO178 := n2_; have HB := n3_; clear n0_ n1_ n2_ n3_; clear hb ho75; obtain ⟨Ao76, co76, eo76⟩ := Kd.R_slice HO178.out; subst eo76) | (go_at_call 14; (with_reducible refine (redpencillaw02_encodes.calls _ _ y176 (⟨#[]⟩ : ByteArray) 13 t179 _ ?side1 ?side2 A68.out).mono ?_); (case side1 => repeat (first | exact (Kd.R_reads' HO178.out).2.2 | (with_reducible refine Kd.C_alloc ?_ _) | (with_reducible refine Kd.C_drewN ?_ _) | (with_reducible refine Kd.C_drew ?_))); (case side2 => exact (Kd.R_reads' HO178.out).2.1); rintro e w77 ⟨rfl, hb⟩; have n0_ := Aside0.mk (Kd.R_below (by (with_reducible repeat (first | apply Kd.R_alloc | apply Kd.R_drewN | apply Kd.R_drew)); exact HO_41.out) hb); have n1_ := Aside0.mk (Kd.R_below (by (with_reducible repeat (first | apply Kd.R_alloc | apply Kd.R_drewN | apply Kd.R_drew)); exact HO174.out) hb); have n2_ := Aside0.mk (Kd.R_below (by (with_reducible repeat (first | apply Kd.R_alloc | apply Kd.R_drewN | apply Kd.R_drew)); exact HO178.out) hb); have n3_ := Aside0.mk (below_step (by repeat (first | (with_reducible first | exact HB.out | apply below_alloc | apply pw_below_drewN | apply below_drew1) | exact HB.out)) hb); clear HO_41; clear HO174; clear HO178; clear HB; have HO_41 := n0_; have HO174 := n1_; have HO178 := n2_; have HB := n3_; clear n0_ n1_ n2_ n3_; (try clear hb); (try clear hb2); (try clear hk); (try clear hi)))
          go_meet
          case rel => exact ⟨_, (!t179), (by first | rfl | (simp; done) | (simp [*]; done)), H', ⟨by have := HJ1.out; have := HK2.out; first | omega | exact Nat.le_refl _⟩, ⟨by repeat (first | (with_reducible first | exact HB.out | apply below_alloc | apply pw_below_drewN | apply below_drew1) | exact HB.out)⟩⟩
         ·
          replace c67 := Bool.eq_false_iff.mpr c67
          subst c67
          have H1 : (redpencillaw02_known.j2 k2 true) = some true := by rw [if_neg (show ¬ (false = true) by decide)] at H; exact H
          clear H
          have H := H1
          clear H1
          have H' := Aside0.mk H
          clear H
          go_wp2_with (first | ((with_reducible refine gate_callee (f := 19) rfl ?_); refine goesL_ (some 51) rfl rfl Tryd.func19 (by kernel_rfl) rfl #[.string (⟨#[97, 0]⟩ : ByteArray), .slice none 0 0, .int .i64 13] rfl (by (try simp only [List.map_toArray, List.map_cons, List.map_nil]); first | done | rfl | (simp only [List.length_drop, List.length_take]; rfl)) ?_; (refine (redpencillaw02_decodes.calls k2 (⟨#[97, 0]⟩ : ByteArray) _ _ ([] : List Int) 13 true _ ?side1 ?side2 ?side3 A64.out).mono ?_); (case side1 => exact GOK_below HG.out (by repeat (first | (with_reducible first | exact HB.out | apply below_alloc | apply pw_below_drewN | apply below_drew1) | exact HB.out))); (case side2 => exact Kd.C_nil _ _); (case side3 => exact Nat.le_refl _); rintro e w78 ⟨rfl, hb⟩; refine ⟨_, rfl, ?_⟩; have n0_ := Aside0.mk (Kd.R_below (by (with_reducible repeat (first | apply Kd.R_alloc | apply Kd.R_drewN | apply Kd.R_drew)); exact HO_41.out) hb); have n1_ := Aside0.mk (below_step (by repeat (first | (with_reducible first | exact HB.out | apply below_alloc | apply pw_below_drewN | apply below_drew1) | exact HB.out)) hb); clear HO_41; clear HB; have HO_41 := n0_; have HB := n1_; clear n0_ n1_; (try clear hb); (try clear hb2); (try clear hk); (try clear hi)) | ((with_reducible refine gate_dst (N := 54) rfl ?_); (try (refine gate_guard (by rfl) ?_; dsimp only)); refine Kd.R_lit (Kd.int .i32) _ 21 ?hg (N := 54) ?hd (xs := ([0] : List Int)) (inner := [.int .i32 0]) (ok := fun _ => True) (okp := fun _ => True) ?hr ?hp (fun _ hk => hk) trivial (Below.refl _ _) (Nat.le_refl _) (by simp) ?_; (case hd => rfl); (case hg => rfl); (case hr => first | (go_simp; done) | (go_simp; rfl)); (case hp => exact (Reps.one (show Kd.M (Kd.int .i32) _ _ _ 0 [.int .i32 0] from rfl) (Reps.none _ _))); intro v173 w79 ho80 hb hg_ hnew_; clear hg_ hnew_; (first | rw [← Ny172.out] at ho80 | (simp only [Int.reduceToNat] at ho80; rw [← Ny172.out] at ho80)); have n0_ := Aside0.mk (Kd.R_below (by (with_reducible repeat (first | apply Kd.R_alloc | apply Kd.R_drewN | apply Kd.R_drew)); exact HO_41.out) hb); have n1_ := Aside0.mk (Kd.R_lower ho80 (below_size (by repeat (first | (with_reducible first | exact HB.out | apply below_alloc | apply pw_below_drewN | apply below_drew1) | exact HB.out)))); have n2_ := Aside0.mk (below_step (by repeat (first | (with_reducible first | exact HB.out | apply below_alloc | apply pw_below_drewN | apply below_drew1) | exact HB.out)) hb); clear HO_41; clear HB; have HO_41 := n0_; have HO174 := n1_; have HB := n2_; clear n0_ n1_ n2_; clear hb ho80; obtain ⟨Ao81, co81, eo81⟩ := Kd.R_slice HO174.out; subst eo81) | (go_at_call 14; (with_reducible refine (redpencillaw02_encodes.calls _ _ y172 (⟨#[]⟩ : ByteArray) 13 false _ ?side1 ?side2 A66.out).mono ?_); (case side1 => repeat (first | exact (Kd.R_reads' HO174.out).2.2 | (with_reducible refine Kd.C_alloc ?_ _) | (with_reducible refine Kd.C_drewN ?_ _) | (with_reducible refine Kd.C_drew ?_))); (case side2 => exact (Kd.R_reads' HO174.out).2.1); rintro e w82 ⟨rfl, hb⟩; have n0_ := Aside0.mk (Kd.R_below (by (with_reducible repeat (first | apply Kd.R_alloc | apply Kd.R_drewN | apply Kd.R_drew)); exact HO_41.out) hb); have n1_ := Aside0.mk (Kd.R_below (by (with_reducible repeat (first | apply Kd.R_alloc | apply Kd.R_drewN | apply Kd.R_drew)); exact HO174.out) hb); have n2_ := Aside0.mk (below_step (by repeat (first | (with_reducible first | exact HB.out | apply below_alloc | apply pw_below_drewN | apply below_drew1) | exact HB.out)) hb); clear HO_41; clear HO174; clear HB; have HO_41 := n0_; have HO174 := n1_; have HB := n2_; clear n0_ n1_ n2_; (try clear hb); (try clear hb2); (try clear hk); (try clear hi)))
          go_meet
          case rel => exact ⟨_, (true), (by first | rfl | (simp; done) | (simp [*]; done)), H', ⟨by have := HJ1.out; have := HK2.out; first | omega | exact Nat.le_refl _⟩, ⟨by repeat (first | (with_reducible first | exact HB.out | apply below_alloc | apply pw_below_drewN | apply below_drew1) | exact HB.out)⟩⟩
        ·
         replace c65 := Bool.eq_false_iff.mpr c65
         subst c65
         have H1 : (redpencillaw02_known.j2 k2 true) = some true := by rw [if_neg (show ¬ (false = true) by decide)] at H; exact H
         clear H
         have H := H1
         clear H1
         have H' := Aside0.mk H
         clear H
         go_wp2_with (first | ((with_reducible refine gate_callee (f := 19) rfl ?_); refine goesL_ (some 51) rfl rfl Tryd.func19 (by kernel_rfl) rfl #[.string (⟨#[97, 0]⟩ : ByteArray), .slice none 0 0, .int .i64 13] rfl (by (try simp only [List.map_toArray, List.map_cons, List.map_nil]); first | done | rfl | (simp only [List.length_drop, List.length_take]; rfl)) ?_; (refine (redpencillaw02_decodes.calls k2 (⟨#[97, 0]⟩ : ByteArray) _ _ ([] : List Int) 13 false _ ?side1 ?side2 ?side3 A64.out).mono ?_); (case side1 => exact GOK_below HG.out (by repeat (first | (with_reducible first | exact HB.out | apply below_alloc | apply pw_below_drewN | apply below_drew1) | exact HB.out))); (case side2 => exact Kd.C_nil _ _); (case side3 => exact Nat.le_refl _); rintro e w83 ⟨rfl, hb⟩; refine ⟨_, rfl, ?_⟩; have n0_ := Aside0.mk (Kd.R_below (by (with_reducible repeat (first | apply Kd.R_alloc | apply Kd.R_drewN | apply Kd.R_drew)); exact HO_41.out) hb); have n1_ := Aside0.mk (below_step (by repeat (first | (with_reducible first | exact HB.out | apply below_alloc | apply pw_below_drewN | apply below_drew1) | exact HB.out)) hb); clear HO_41; clear HB; have HO_41 := n0_; have HB := n1_; clear n0_ n1_; (try clear hb); (try clear hb2); (try clear hk); (try clear hi)))
         go_meet
         case rel => exact ⟨_, (true), (by first | rfl | (simp; done) | (simp [*]; done)), H', ⟨by have := HJ1.out; have := HK2.out; first | omega | exact Nat.le_refl _⟩, ⟨by repeat (first | (with_reducible first | exact HB.out | apply below_alloc | apply pw_below_drewN | apply below_drew1) | exact HB.out)⟩⟩
       case rest =>
        clear HC63
        try clear c1
        try clear p1
        try clear q1
        try clear hx1
        try clear c2
        try clear p2
        try clear c5
        try clear c6
        try clear p6
        try clear c8
        try clear c9
        try clear c9b0
        try clear c9b1
        try clear c10
        try clear c10b0
        try clear c10b1
        try clear c12
        try clear c12b0
        try clear c12b1
        try clear c14
        try clear c15
        try clear p16
        try clear q16
        try clear hx16
        try clear c19
        try clear c20
        try clear c26
        try clear c27
        try clear c52
        try clear c56
        try clear c56b0
        try clear c57
        try clear c57b0
        try clear c58
        try clear c58b0
        try clear c60
        try clear p64
        try clear c65
        try clear c67
        try clear hx169_0
        try clear p169
        try clear p2
        try clear q169
        obtain ⟨kq, x62_62, rfl, HA, HJ62, HB⟩ := hcut
        cases kq with
        | zero => exact absurd HA.out (by simp [redpencillaw02_known.j2])
        | succ kj62 =>
         have H := HA.out
         clear HA
         simp only [redpencillaw02_known.j2] at H
         by_cases c84 : x62_62 = true
         ·
          subst c84
          have H1 : (some false) = some true := by rw [if_pos rfl] at H; exact H
          exact absurd H1 (by simp)
         ·
          replace c84 := Bool.eq_false_iff.mpr c84
          subst c84
          have H1 : ((redpencillaw02_has.f (⟨#[97, 195, 169, 226, 130, 172]⟩ : ByteArray) 3 0).bind fun t180 => (if t180 = true then ((redpencillaw02_cuts.f (⟨#[97, 195, 169, 226, 130, 172]⟩ : ByteArray) 1 3 (⟨#[195, 169, 226, 130, 172]⟩ : ByteArray) 0).bind fun t181 => (if t181 = true then ((redpencillaw02_cuts.f (⟨#[97, 195, 169, 226, 130, 172]⟩ : ByteArray) 2 2 (⟨#[]⟩ : ByteArray) 0).bind fun t182 => (if t182 = true then ((redpencillaw02_cuts.f (⟨#[97, 195, 169, 226, 130, 172]⟩ : ByteArray) 2 1 (⟨#[]⟩ : ByteArray) 3).bind fun t183 => (if t183 = true then ((redpencillaw02_cuts.f (⟨#[97, 195, 169, 226, 130, 172]⟩ : ByteArray) 0 4 (⟨#[]⟩ : ByteArray) 3).bind fun t184 => (redpencillaw02_known.j3 kj62 (!t184))) else (redpencillaw02_known.j3 kj62 true))) else (redpencillaw02_known.j3 kj62 true))) else (redpencillaw02_known.j3 kj62 true))) else (redpencillaw02_known.j3 kj62 true))) = some true := by rw [if_neg (show ¬ (false = true) by decide)] at H; exact H
          clear H
          have H := H1
          clear H1
          have HC85 := Aside0.mk H
          clear H
          go_upto_region 13 with (fail)
          go_cut [85] (fun v85 wc => ∃ (kq : Nat) (x85_84 : Bool), v85 = .bool x85_84 ∧ Aside0 (redpencillaw02_known.j3 kq x85_84 = some true) ∧ Aside0 (kq ≤ kj62) ∧ Aside0 (Below w.heap.size w wc))
          case first =>
           have H := HC85.out
           clear HC85
           replace H := Option.bind_eq_some_iff.mp H
           obtain ⟨t180, A860, H⟩ := H
           replace H : (if t180 = true then ((redpencillaw02_cuts.f (⟨#[97, 195, 169, 226, 130, 172]⟩ : ByteArray) 1 3 (⟨#[195, 169, 226, 130, 172]⟩ : ByteArray) 0).bind fun t181 => (if t181 = true then ((redpencillaw02_cuts.f (⟨#[97, 195, 169, 226, 130, 172]⟩ : ByteArray) 2 2 (⟨#[]⟩ : ByteArray) 0).bind fun t182 => (if t182 = true then ((redpencillaw02_cuts.f (⟨#[97, 195, 169, 226, 130, 172]⟩ : ByteArray) 2 1 (⟨#[]⟩ : ByteArray) 3).bind fun t183 => (if t183 = true then ((redpencillaw02_cuts.f (⟨#[97, 195, 169, 226, 130, 172]⟩ : ByteArray) 0 4 (⟨#[]⟩ : ByteArray) 3).bind fun t184 => (redpencillaw02_known.j3 kj62 (!t184))) else (redpencillaw02_known.j3 kj62 true))) else (redpencillaw02_known.j3 kj62 true))) else (redpencillaw02_known.j3 kj62 true))) else (redpencillaw02_known.j3 kj62 true)) = some true := H
           have A86 := Aside0.mk A860
           clear A860
           by_cases c87 : t180 = true
           ·
            subst c87
            have H1 : ((redpencillaw02_cuts.f (⟨#[97, 195, 169, 226, 130, 172]⟩ : ByteArray) 1 3 (⟨#[195, 169, 226, 130, 172]⟩ : ByteArray) 0).bind fun t181 => (if t181 = true then ((redpencillaw02_cuts.f (⟨#[97, 195, 169, 226, 130, 172]⟩ : ByteArray) 2 2 (⟨#[]⟩ : ByteArray) 0).bind fun t182 => (if t182 = true then ((redpencillaw02_cuts.f (⟨#[97, 195, 169, 226, 130, 172]⟩ : ByteArray) 2 1 (⟨#[]⟩ : ByteArray) 3).bind fun t183 => (if t183 = true then ((redpencillaw02_cuts.f (⟨#[97, 195, 169, 226, 130, 172]⟩ : ByteArray) 0 4 (⟨#[]⟩ : ByteArray) 3).bind fun t184 => (redpencillaw02_known.j3 kj62 (!t184))) else (redpencillaw02_known.j3 kj62 true))) else (redpencillaw02_known.j3 kj62 true))) else (redpencillaw02_known.j3 kj62 true))) = some true := by rw [if_pos rfl] at H; exact H
            clear H
            have H := H1
            clear H1
            replace H := Option.bind_eq_some_iff.mp H
            obtain ⟨t181, A880, H⟩ := H
            replace H : (if t181 = true then ((redpencillaw02_cuts.f (⟨#[97, 195, 169, 226, 130, 172]⟩ : ByteArray) 2 2 (⟨#[]⟩ : ByteArray) 0).bind fun t182 => (if t182 = true then ((redpencillaw02_cuts.f (⟨#[97, 195, 169, 226, 130, 172]⟩ : ByteArray) 2 1 (⟨#[]⟩ : ByteArray) 3).bind fun t183 => (if t183 = true then ((redpencillaw02_cuts.f (⟨#[97, 195, 169, 226, 130, 172]⟩ : ByteArray) 0 4 (⟨#[]⟩ : ByteArray) 3).bind fun t184 => (redpencillaw02_known.j3 kj62 (!t184))) else (redpencillaw02_known.j3 kj62 true))) else (redpencillaw02_known.j3 kj62 true))) else (redpencillaw02_known.j3 kj62 true)) = some true := H
            have A88 := Aside0.mk A880
            clear A880
            by_cases c89 : t181 = true
            ·
             subst c89
             have H1 : ((redpencillaw02_cuts.f (⟨#[97, 195, 169, 226, 130, 172]⟩ : ByteArray) 2 2 (⟨#[]⟩ : ByteArray) 0).bind fun t182 => (if t182 = true then ((redpencillaw02_cuts.f (⟨#[97, 195, 169, 226, 130, 172]⟩ : ByteArray) 2 1 (⟨#[]⟩ : ByteArray) 3).bind fun t183 => (if t183 = true then ((redpencillaw02_cuts.f (⟨#[97, 195, 169, 226, 130, 172]⟩ : ByteArray) 0 4 (⟨#[]⟩ : ByteArray) 3).bind fun t184 => (redpencillaw02_known.j3 kj62 (!t184))) else (redpencillaw02_known.j3 kj62 true))) else (redpencillaw02_known.j3 kj62 true))) = some true := by rw [if_pos rfl] at H; exact H
             clear H
             have H := H1
             clear H1
             replace H := Option.bind_eq_some_iff.mp H
             obtain ⟨t182, A900, H⟩ := H
             replace H : (if t182 = true then ((redpencillaw02_cuts.f (⟨#[97, 195, 169, 226, 130, 172]⟩ : ByteArray) 2 1 (⟨#[]⟩ : ByteArray) 3).bind fun t183 => (if t183 = true then ((redpencillaw02_cuts.f (⟨#[97, 195, 169, 226, 130, 172]⟩ : ByteArray) 0 4 (⟨#[]⟩ : ByteArray) 3).bind fun t184 => (redpencillaw02_known.j3 kj62 (!t184))) else (redpencillaw02_known.j3 kj62 true))) else (redpencillaw02_known.j3 kj62 true)) = some true := H
             have A90 := Aside0.mk A900
             clear A900
             by_cases c91 : t182 = true
             ·
              subst c91
              have H1 : ((redpencillaw02_cuts.f (⟨#[97, 195, 169, 226, 130, 172]⟩ : ByteArray) 2 1 (⟨#[]⟩ : ByteArray) 3).bind fun t183 => (if t183 = true then ((redpencillaw02_cuts.f (⟨#[97, 195, 169, 226, 130, 172]⟩ : ByteArray) 0 4 (⟨#[]⟩ : ByteArray) 3).bind fun t184 => (redpencillaw02_known.j3 kj62 (!t184))) else (redpencillaw02_known.j3 kj62 true))) = some true := by rw [if_pos rfl] at H; exact H
              clear H
              have H := H1
              clear H1
              replace H := Option.bind_eq_some_iff.mp H
              obtain ⟨t183, A920, H⟩ := H
              replace H : (if t183 = true then ((redpencillaw02_cuts.f (⟨#[97, 195, 169, 226, 130, 172]⟩ : ByteArray) 0 4 (⟨#[]⟩ : ByteArray) 3).bind fun t184 => (redpencillaw02_known.j3 kj62 (!t184))) else (redpencillaw02_known.j3 kj62 true)) = some true := H
              have A92 := Aside0.mk A920
              clear A920
              by_cases c93 : t183 = true
              ·
               subst c93
               have H1 : ((redpencillaw02_cuts.f (⟨#[97, 195, 169, 226, 130, 172]⟩ : ByteArray) 0 4 (⟨#[]⟩ : ByteArray) 3).bind fun t184 => (redpencillaw02_known.j3 kj62 (!t184))) = some true := by rw [if_pos rfl] at H; exact H
               clear H
               have H := H1
               clear H1
               replace H := Option.bind_eq_some_iff.mp H
               obtain ⟨t184, A940, H⟩ := H
               replace H : (redpencillaw02_known.j3 kj62 (!t184)) = some true := H
               have A94 := Aside0.mk A940
               clear A940
               have H' := Aside0.mk H
               clear H
               go_wp2_with (first | ((with_reducible refine gate_callee (f := 21) rfl ?_); refine goesL_ (some 64) rfl rfl Tryd.func21 (by kernel_rfl) rfl #[.string (⟨#[97, 195, 169, 226, 130, 172]⟩ : ByteArray), .int .i64 3, .int .i64 0] rfl (by (try simp only [List.map_toArray, List.map_cons, List.map_nil]); first | done | rfl | (simp only [List.length_drop, List.length_take]; rfl)) ?_; (with_reducible refine (redpencillaw02_has.calls (⟨#[97, 195, 169, 226, 130, 172]⟩ : ByteArray) 3 0 true _ ?side1 A86.out).mono ?_); (case side1 => exact GOK_below HG.out (by repeat (first | (with_reducible first | exact HB.out | apply below_alloc | apply pw_below_drewN | apply below_drew1) | exact HB.out))); rintro e w95 ⟨rfl, hb⟩; refine ⟨_, rfl, ?_⟩; have n0_ := Aside0.mk (below_step (by repeat (first | (with_reducible first | exact HB.out | apply below_alloc | apply pw_below_drewN | apply below_drew1) | exact HB.out)) hb); clear HB; have HB := n0_; clear n0_; (try clear hb); (try clear hb2); (try clear hk); (try clear hi)) | (go_at_call 25; (with_reducible refine (redpencillaw02_cuts.calls (⟨#[97, 195, 169, 226, 130, 172]⟩ : ByteArray) 1 3 (⟨#[195, 169, 226, 130, 172]⟩ : ByteArray) 0 true _ ?side1 A88.out).mono ?_); (case side1 => exact GOK_below HG.out (by repeat (first | (with_reducible first | exact HB.out | apply below_alloc | apply pw_below_drewN | apply below_drew1) | exact HB.out))); rintro e w96 ⟨rfl, hb⟩; have n0_ := Aside0.mk (below_step (by repeat (first | (with_reducible first | exact HB.out | apply below_alloc | apply pw_below_drewN | apply below_drew1) | exact HB.out)) hb); clear HB; have HB := n0_; clear n0_; (try clear hb); (try clear hb2); (try clear hk); (try clear hi)) | (go_at_call 25; (with_reducible refine (redpencillaw02_cuts.calls (⟨#[97, 195, 169, 226, 130, 172]⟩ : ByteArray) 2 2 (⟨#[]⟩ : ByteArray) 0 true _ ?side1 A90.out).mono ?_); (case side1 => exact GOK_below HG.out (by repeat (first | (with_reducible first | exact HB.out | apply below_alloc | apply pw_below_drewN | apply below_drew1) | exact HB.out))); rintro e w97 ⟨rfl, hb⟩; have n0_ := Aside0.mk (below_step (by repeat (first | (with_reducible first | exact HB.out | apply below_alloc | apply pw_below_drewN | apply below_drew1) | exact HB.out)) hb); clear HB; have HB := n0_; clear n0_; (try clear hb); (try clear hb2); (try clear hk); (try clear hi)) | (go_at_call 25; (with_reducible refine (redpencillaw02_cuts.calls (⟨#[97, 195, 169, 226, 130, 172]⟩ : ByteArray) 2 1 (⟨#[]⟩ : ByteArray) 3 true _ ?side1 A92.out).mono ?_); (case side1 => exact GOK_below HG.out (by repeat (first | (with_reducible first | exact HB.out | apply below_alloc | apply pw_below_drewN | apply below_drew1) | exact HB.out))); rintro e w98 ⟨rfl, hb⟩; have n0_ := Aside0.mk (below_step (by repeat (first | (with_reducible first | exact HB.out | apply below_alloc | apply pw_below_drewN | apply below_drew1) | exact HB.out)) hb); clear HB; have HB := n0_; clear n0_; (try clear hb); (try clear hb2); (try clear hk); (try clear hi)) | (go_at_call 25; (with_reducible refine (redpencillaw02_cuts.calls (⟨#[97, 195, 169, 226, 130, 172]⟩ : ByteArray) 0 4 (⟨#[]⟩ : ByteArray) 3 t184 _ ?side1 A94.out).mono ?_); (case side1 => exact GOK_below HG.out (by repeat (first | (with_reducible first | exact HB.out | apply below_alloc | apply pw_below_drewN | apply below_drew1) | exact HB.out))); rintro e w99 ⟨rfl, hb⟩; have n0_ := Aside0.mk (below_step (by repeat (first | (with_reducible first | exact HB.out | apply below_alloc | apply pw_below_drewN | apply below_drew1) | exact HB.out)) hb); clear HB; have HB := n0_; clear n0_; (try clear hb); (try clear hb2); (try clear hk); (try clear hi)))
               go_meet
               case rel => exact ⟨_, (!t184), (by first | rfl | (simp; done) | (simp [*]; done)), H', ⟨by have := HJ1.out; have := HK2.out; have := HJ62.out; first | omega | exact Nat.le_refl _⟩, ⟨by repeat (first | (with_reducible first | exact HB.out | apply below_alloc | apply pw_below_drewN | apply below_drew1) | exact HB.out)⟩⟩
              ·
               replace c93 := Bool.eq_false_iff.mpr c93
               subst c93
               have H1 : (redpencillaw02_known.j3 kj62 true) = some true := by rw [if_neg (show ¬ (false = true) by decide)] at H; exact H
               clear H
               have H := H1
               clear H1
               have H' := Aside0.mk H
               clear H
               go_wp2_with (first | ((with_reducible refine gate_callee (f := 21) rfl ?_); refine goesL_ (some 64) rfl rfl Tryd.func21 (by kernel_rfl) rfl #[.string (⟨#[97, 195, 169, 226, 130, 172]⟩ : ByteArray), .int .i64 3, .int .i64 0] rfl (by (try simp only [List.map_toArray, List.map_cons, List.map_nil]); first | done | rfl | (simp only [List.length_drop, List.length_take]; rfl)) ?_; (with_reducible refine (redpencillaw02_has.calls (⟨#[97, 195, 169, 226, 130, 172]⟩ : ByteArray) 3 0 true _ ?side1 A86.out).mono ?_); (case side1 => exact GOK_below HG.out (by repeat (first | (with_reducible first | exact HB.out | apply below_alloc | apply pw_below_drewN | apply below_drew1) | exact HB.out))); rintro e w100 ⟨rfl, hb⟩; refine ⟨_, rfl, ?_⟩; have n0_ := Aside0.mk (below_step (by repeat (first | (with_reducible first | exact HB.out | apply below_alloc | apply pw_below_drewN | apply below_drew1) | exact HB.out)) hb); clear HB; have HB := n0_; clear n0_; (try clear hb); (try clear hb2); (try clear hk); (try clear hi)) | (go_at_call 25; (with_reducible refine (redpencillaw02_cuts.calls (⟨#[97, 195, 169, 226, 130, 172]⟩ : ByteArray) 1 3 (⟨#[195, 169, 226, 130, 172]⟩ : ByteArray) 0 true _ ?side1 A88.out).mono ?_); (case side1 => exact GOK_below HG.out (by repeat (first | (with_reducible first | exact HB.out | apply below_alloc | apply pw_below_drewN | apply below_drew1) | exact HB.out))); rintro e w101 ⟨rfl, hb⟩; have n0_ := Aside0.mk (below_step (by repeat (first | (with_reducible first | exact HB.out | apply below_alloc | apply pw_below_drewN | apply below_drew1) | exact HB.out)) hb); clear HB; have HB := n0_; clear n0_; (try clear hb); (try clear hb2); (try clear hk); (try clear hi)) | (go_at_call 25; (with_reducible refine (redpencillaw02_cuts.calls (⟨#[97, 195, 169, 226, 130, 172]⟩ : ByteArray) 2 2 (⟨#[]⟩ : ByteArray) 0 true _ ?side1 A90.out).mono ?_); (case side1 => exact GOK_below HG.out (by repeat (first | (with_reducible first | exact HB.out | apply below_alloc | apply pw_below_drewN | apply below_drew1) | exact HB.out))); rintro e w102 ⟨rfl, hb⟩; have n0_ := Aside0.mk (below_step (by repeat (first | (with_reducible first | exact HB.out | apply below_alloc | apply pw_below_drewN | apply below_drew1) | exact HB.out)) hb); clear HB; have HB := n0_; clear n0_; (try clear hb); (try clear hb2); (try clear hk); (try clear hi)) | (go_at_call 25; (with_reducible refine (redpencillaw02_cuts.calls (⟨#[97, 195, 169, 226, 130, 172]⟩ : ByteArray) 2 1 (⟨#[]⟩ : ByteArray) 3 false _ ?side1 A92.out).mono ?_); (case side1 => exact GOK_below HG.out (by repeat (first | (with_reducible first | exact HB.out | apply below_alloc | apply pw_below_drewN | apply below_drew1) | exact HB.out))); rintro e w103 ⟨rfl, hb⟩; have n0_ := Aside0.mk (below_step (by repeat (first | (with_reducible first | exact HB.out | apply below_alloc | apply pw_below_drewN | apply below_drew1) | exact HB.out)) hb); clear HB; have HB := n0_; clear n0_; (try clear hb); (try clear hb2); (try clear hk); (try clear hi)))
               go_meet
               case rel => exact ⟨_, (true), (by first | rfl | (simp; done) | (simp [*]; done)), H', ⟨by have := HJ1.out; have := HK2.out; have := HJ62.out; first | omega | exact Nat.le_refl _⟩, ⟨by repeat (first | (with_reducible first | exact HB.out | apply below_alloc | apply pw_below_drewN | apply below_drew1) | exact HB.out)⟩⟩
             ·
              replace c91 := Bool.eq_false_iff.mpr c91
              subst c91
              have H1 : (redpencillaw02_known.j3 kj62 true) = some true := by rw [if_neg (show ¬ (false = true) by decide)] at H; exact H
              clear H
              have H := H1
              clear H1
              have H' := Aside0.mk H
              clear H
              go_wp2_with (first | ((with_reducible refine gate_callee (f := 21) rfl ?_); refine goesL_ (some 64) rfl rfl Tryd.func21 (by kernel_rfl) rfl #[.string (⟨#[97, 195, 169, 226, 130, 172]⟩ : ByteArray), .int .i64 3, .int .i64 0] rfl (by (try simp only [List.map_toArray, List.map_cons, List.map_nil]); first | done | rfl | (simp only [List.length_drop, List.length_take]; rfl)) ?_; (with_reducible refine (redpencillaw02_has.calls (⟨#[97, 195, 169, 226, 130, 172]⟩ : ByteArray) 3 0 true _ ?side1 A86.out).mono ?_); (case side1 => exact GOK_below HG.out (by repeat (first | (with_reducible first | exact HB.out | apply below_alloc | apply pw_below_drewN | apply below_drew1) | exact HB.out))); rintro e w104 ⟨rfl, hb⟩; refine ⟨_, rfl, ?_⟩; have n0_ := Aside0.mk (below_step (by repeat (first | (with_reducible first | exact HB.out | apply below_alloc | apply pw_below_drewN | apply below_drew1) | exact HB.out)) hb); clear HB; have HB := n0_; clear n0_; (try clear hb); (try clear hb2); (try clear hk); (try clear hi)) | (go_at_call 25; (with_reducible refine (redpencillaw02_cuts.calls (⟨#[97, 195, 169, 226, 130, 172]⟩ : ByteArray) 1 3 (⟨#[195, 169, 226, 130, 172]⟩ : ByteArray) 0 true _ ?side1 A88.out).mono ?_); (case side1 => exact GOK_below HG.out (by repeat (first | (with_reducible first | exact HB.out | apply below_alloc | apply pw_below_drewN | apply below_drew1) | exact HB.out))); rintro e w105 ⟨rfl, hb⟩; have n0_ := Aside0.mk (below_step (by repeat (first | (with_reducible first | exact HB.out | apply below_alloc | apply pw_below_drewN | apply below_drew1) | exact HB.out)) hb); clear HB; have HB := n0_; clear n0_; (try clear hb); (try clear hb2); (try clear hk); (try clear hi)) | (go_at_call 25; (with_reducible refine (redpencillaw02_cuts.calls (⟨#[97, 195, 169, 226, 130, 172]⟩ : ByteArray) 2 2 (⟨#[]⟩ : ByteArray) 0 false _ ?side1 A90.out).mono ?_); (case side1 => exact GOK_below HG.out (by repeat (first | (with_reducible first | exact HB.out | apply below_alloc | apply pw_below_drewN | apply below_drew1) | exact HB.out))); rintro e w106 ⟨rfl, hb⟩; have n0_ := Aside0.mk (below_step (by repeat (first | (with_reducible first | exact HB.out | apply below_alloc | apply pw_below_drewN | apply below_drew1) | exact HB.out)) hb); clear HB; have HB := n0_; clear n0_; (try clear hb); (try clear hb2); (try clear hk); (try clear hi)))
              go_meet
              case rel => exact ⟨_, (true), (by first | rfl | (simp; done) | (simp [*]; done)), H', ⟨by have := HJ1.out; have := HK2.out; have := HJ62.out; first | omega | exact Nat.le_refl _⟩, ⟨by repeat (first | (with_reducible first | exact HB.out | apply below_alloc | apply pw_below_drewN | apply below_drew1) | exact HB.out)⟩⟩
            ·
             replace c89 := Bool.eq_false_iff.mpr c89
             subst c89
             have H1 : (redpencillaw02_known.j3 kj62 true) = some true := by rw [if_neg (show ¬ (false = true) by decide)] at H; exact H
             clear H
             have H := H1
             clear H1
             have H' := Aside0.mk H
             clear H
             go_wp2_with (first | ((with_reducible refine gate_callee (f := 21) rfl ?_); refine goesL_ (some 64) rfl rfl Tryd.func21 (by kernel_rfl) rfl #[.string (⟨#[97, 195, 169, 226, 130, 172]⟩ : ByteArray), .int .i64 3, .int .i64 0] rfl (by (try simp only [List.map_toArray, List.map_cons, List.map_nil]); first | done | rfl | (simp only [List.length_drop, List.length_take]; rfl)) ?_; (with_reducible refine (redpencillaw02_has.calls (⟨#[97, 195, 169, 226, 130, 172]⟩ : ByteArray) 3 0 true _ ?side1 A86.out).mono ?_); (case side1 => exact GOK_below HG.out (by repeat (first | (with_reducible first | exact HB.out | apply below_alloc | apply pw_below_drewN | apply below_drew1) | exact HB.out))); rintro e w107 ⟨rfl, hb⟩; refine ⟨_, rfl, ?_⟩; have n0_ := Aside0.mk (below_step (by repeat (first | (with_reducible first | exact HB.out | apply below_alloc | apply pw_below_drewN | apply below_drew1) | exact HB.out)) hb); clear HB; have HB := n0_; clear n0_; (try clear hb); (try clear hb2); (try clear hk); (try clear hi)) | (go_at_call 25; (with_reducible refine (redpencillaw02_cuts.calls (⟨#[97, 195, 169, 226, 130, 172]⟩ : ByteArray) 1 3 (⟨#[195, 169, 226, 130, 172]⟩ : ByteArray) 0 false _ ?side1 A88.out).mono ?_); (case side1 => exact GOK_below HG.out (by repeat (first | (with_reducible first | exact HB.out | apply below_alloc | apply pw_below_drewN | apply below_drew1) | exact HB.out))); rintro e w108 ⟨rfl, hb⟩; have n0_ := Aside0.mk (below_step (by repeat (first | (with_reducible first | exact HB.out | apply below_alloc | apply pw_below_drewN | apply below_drew1) | exact HB.out)) hb); clear HB; have HB := n0_; clear n0_; (try clear hb); (try clear hb2); (try clear hk); (try clear hi)))
             go_meet
             case rel => exact ⟨_, (true), (by first | rfl | (simp; done) | (simp [*]; done)), H', ⟨by have := HJ1.out; have := HK2.out; have := HJ62.out; first | omega | exact Nat.le_refl _⟩, ⟨by repeat (first | (with_reducible first | exact HB.out | apply below_alloc | apply pw_below_drewN | apply below_drew1) | exact HB.out)⟩⟩
           ·
            replace c87 := Bool.eq_false_iff.mpr c87
            subst c87
            have H1 : (redpencillaw02_known.j3 kj62 true) = some true := by rw [if_neg (show ¬ (false = true) by decide)] at H; exact H
            clear H
            have H := H1
            clear H1
            have H' := Aside0.mk H
            clear H
            go_wp2_with (first | ((with_reducible refine gate_callee (f := 21) rfl ?_); refine goesL_ (some 64) rfl rfl Tryd.func21 (by kernel_rfl) rfl #[.string (⟨#[97, 195, 169, 226, 130, 172]⟩ : ByteArray), .int .i64 3, .int .i64 0] rfl (by (try simp only [List.map_toArray, List.map_cons, List.map_nil]); first | done | rfl | (simp only [List.length_drop, List.length_take]; rfl)) ?_; (with_reducible refine (redpencillaw02_has.calls (⟨#[97, 195, 169, 226, 130, 172]⟩ : ByteArray) 3 0 false _ ?side1 A86.out).mono ?_); (case side1 => exact GOK_below HG.out (by repeat (first | (with_reducible first | exact HB.out | apply below_alloc | apply pw_below_drewN | apply below_drew1) | exact HB.out))); rintro e w109 ⟨rfl, hb⟩; refine ⟨_, rfl, ?_⟩; have n0_ := Aside0.mk (below_step (by repeat (first | (with_reducible first | exact HB.out | apply below_alloc | apply pw_below_drewN | apply below_drew1) | exact HB.out)) hb); clear HB; have HB := n0_; clear n0_; (try clear hb); (try clear hb2); (try clear hk); (try clear hi)))
            go_meet
            case rel => exact ⟨_, (true), (by first | rfl | (simp; done) | (simp [*]; done)), H', ⟨by have := HJ1.out; have := HK2.out; have := HJ62.out; first | omega | exact Nat.le_refl _⟩, ⟨by repeat (first | (with_reducible first | exact HB.out | apply below_alloc | apply pw_below_drewN | apply below_drew1) | exact HB.out)⟩⟩
          case rest =>
           clear HC85
           try clear c1
           try clear p1
           try clear q1
           try clear hx1
           try clear c2
           try clear p2
           try clear c5
           try clear c6
           try clear p6
           try clear c8
           try clear c9
           try clear c9b0
           try clear c9b1
           try clear c10
           try clear c10b0
           try clear c10b1
           try clear c12
           try clear c12b0
           try clear c12b1
           try clear c14
           try clear c15
           try clear p16
           try clear q16
           try clear hx16
           try clear c19
           try clear c20
           try clear c21
           try clear c26
           try clear c27
           try clear c52
           try clear c56
           try clear c56b0
           try clear c57
           try clear c57b0
           try clear c58
           try clear c58b0
           try clear c60
           try clear p64
           try clear c65
           try clear c67
           try clear c84
           try clear c87
           try clear c89
           try clear c91
           try clear c93
           try clear hx169_0
           try clear p1
           try clear p16
           try clear p169
           try clear p2
           try clear p6
           try clear p64
           try clear q1
           try clear q16
           try clear q169
           obtain ⟨kq, x85_84, rfl, HA, HJ84, HB⟩ := hcut
           cases kq with
           | zero => exact absurd HA.out (by simp [redpencillaw02_known.j3])
           | succ kj84 =>
            have H := HA.out
            clear HA
            simp only [redpencillaw02_known.j3] at H
            by_cases c110 : x85_84 = true
            ·
             subst c110
             have H1 : (some false) = some true := by rw [if_pos rfl] at H; exact H
             exact absurd H1 (by simp)
            ·
             replace c110 := Bool.eq_false_iff.mpr c110
             subst c110
             have H1 : ((redpencillaw02_named.f 97 (⟨#[85, 43, 48, 48, 54, 49]⟩ : ByteArray) 0).bind fun t185 => (if t185 = true then ((redpencillaw02_named.f 128512 (⟨#[85, 43, 49, 70, 54, 48, 48]⟩ : ByteArray) 0).bind fun t186 => (if t186 = true then ((redpencillaw02_found.f (⟨#[85, 43, 50, 48, 65, 67]⟩ : ByteArray) 8364 0).bind fun t187 => (if t187 = true then ((redpencillaw02_found.f (⟨#[85, 43, 48, 48, 48, 48]⟩ : ByteArray) 0 6).bind fun t188 => (if t188 = true then ((redpencillaw02_found.f (⟨#[85, 43, 54, 49]⟩ : ByteArray) 0 6).bind fun t189 => (if t189 = true then ((redpencillaw02_found.f (⟨#[85, 43, 48, 48, 48, 54, 49]⟩ : ByteArray) 0 6).bind fun t190 => (if t190 = true then ((redpencillaw02_found.f (⟨#[117, 43, 48, 48, 54, 49]⟩ : ByteArray) 0 6).bind fun t191 => (some t191)) else (some false))) else (some false))) else (some false))) else (some false))) else (some false))) else (some false))) = some true := by rw [if_neg (show ¬ (false = true) by decide)] at H; exact H
             clear H
             have H := H1
             clear H1
             replace H := Option.bind_eq_some_iff.mp H
             obtain ⟨t185, A1110, H⟩ := H
             replace H : (if t185 = true then ((redpencillaw02_named.f 128512 (⟨#[85, 43, 49, 70, 54, 48, 48]⟩ : ByteArray) 0).bind fun t186 => (if t186 = true then ((redpencillaw02_found.f (⟨#[85, 43, 50, 48, 65, 67]⟩ : ByteArray) 8364 0).bind fun t187 => (if t187 = true then ((redpencillaw02_found.f (⟨#[85, 43, 48, 48, 48, 48]⟩ : ByteArray) 0 6).bind fun t188 => (if t188 = true then ((redpencillaw02_found.f (⟨#[85, 43, 54, 49]⟩ : ByteArray) 0 6).bind fun t189 => (if t189 = true then ((redpencillaw02_found.f (⟨#[85, 43, 48, 48, 48, 54, 49]⟩ : ByteArray) 0 6).bind fun t190 => (if t190 = true then ((redpencillaw02_found.f (⟨#[117, 43, 48, 48, 54, 49]⟩ : ByteArray) 0 6).bind fun t191 => (some t191)) else (some false))) else (some false))) else (some false))) else (some false))) else (some false))) else (some false)) = some true := H
             have A111 := Aside0.mk A1110
             clear A1110
             by_cases c112 : t185 = true
             ·
              subst c112
              have H1 : ((redpencillaw02_named.f 128512 (⟨#[85, 43, 49, 70, 54, 48, 48]⟩ : ByteArray) 0).bind fun t186 => (if t186 = true then ((redpencillaw02_found.f (⟨#[85, 43, 50, 48, 65, 67]⟩ : ByteArray) 8364 0).bind fun t187 => (if t187 = true then ((redpencillaw02_found.f (⟨#[85, 43, 48, 48, 48, 48]⟩ : ByteArray) 0 6).bind fun t188 => (if t188 = true then ((redpencillaw02_found.f (⟨#[85, 43, 54, 49]⟩ : ByteArray) 0 6).bind fun t189 => (if t189 = true then ((redpencillaw02_found.f (⟨#[85, 43, 48, 48, 48, 54, 49]⟩ : ByteArray) 0 6).bind fun t190 => (if t190 = true then ((redpencillaw02_found.f (⟨#[117, 43, 48, 48, 54, 49]⟩ : ByteArray) 0 6).bind fun t191 => (some t191)) else (some false))) else (some false))) else (some false))) else (some false))) else (some false))) = some true := by rw [if_pos rfl] at H; exact H
              clear H
              have H := H1
              clear H1
              replace H := Option.bind_eq_some_iff.mp H
              obtain ⟨t186, A1130, H⟩ := H
              replace H : (if t186 = true then ((redpencillaw02_found.f (⟨#[85, 43, 50, 48, 65, 67]⟩ : ByteArray) 8364 0).bind fun t187 => (if t187 = true then ((redpencillaw02_found.f (⟨#[85, 43, 48, 48, 48, 48]⟩ : ByteArray) 0 6).bind fun t188 => (if t188 = true then ((redpencillaw02_found.f (⟨#[85, 43, 54, 49]⟩ : ByteArray) 0 6).bind fun t189 => (if t189 = true then ((redpencillaw02_found.f (⟨#[85, 43, 48, 48, 48, 54, 49]⟩ : ByteArray) 0 6).bind fun t190 => (if t190 = true then ((redpencillaw02_found.f (⟨#[117, 43, 48, 48, 54, 49]⟩ : ByteArray) 0 6).bind fun t191 => (some t191)) else (some false))) else (some false))) else (some false))) else (some false))) else (some false)) = some true := H
              have A113 := Aside0.mk A1130
              clear A1130
              by_cases c114 : t186 = true
              ·
               subst c114
               have H1 : ((redpencillaw02_found.f (⟨#[85, 43, 50, 48, 65, 67]⟩ : ByteArray) 8364 0).bind fun t187 => (if t187 = true then ((redpencillaw02_found.f (⟨#[85, 43, 48, 48, 48, 48]⟩ : ByteArray) 0 6).bind fun t188 => (if t188 = true then ((redpencillaw02_found.f (⟨#[85, 43, 54, 49]⟩ : ByteArray) 0 6).bind fun t189 => (if t189 = true then ((redpencillaw02_found.f (⟨#[85, 43, 48, 48, 48, 54, 49]⟩ : ByteArray) 0 6).bind fun t190 => (if t190 = true then ((redpencillaw02_found.f (⟨#[117, 43, 48, 48, 54, 49]⟩ : ByteArray) 0 6).bind fun t191 => (some t191)) else (some false))) else (some false))) else (some false))) else (some false))) = some true := by rw [if_pos rfl] at H; exact H
               clear H
               have H := H1
               clear H1
               replace H := Option.bind_eq_some_iff.mp H
               obtain ⟨t187, A1150, H⟩ := H
               replace H : (if t187 = true then ((redpencillaw02_found.f (⟨#[85, 43, 48, 48, 48, 48]⟩ : ByteArray) 0 6).bind fun t188 => (if t188 = true then ((redpencillaw02_found.f (⟨#[85, 43, 54, 49]⟩ : ByteArray) 0 6).bind fun t189 => (if t189 = true then ((redpencillaw02_found.f (⟨#[85, 43, 48, 48, 48, 54, 49]⟩ : ByteArray) 0 6).bind fun t190 => (if t190 = true then ((redpencillaw02_found.f (⟨#[117, 43, 48, 48, 54, 49]⟩ : ByteArray) 0 6).bind fun t191 => (some t191)) else (some false))) else (some false))) else (some false))) else (some false)) = some true := H
               have A115 := Aside0.mk A1150
               clear A1150
               by_cases c116 : t187 = true
               ·
                subst c116
                have H1 : ((redpencillaw02_found.f (⟨#[85, 43, 48, 48, 48, 48]⟩ : ByteArray) 0 6).bind fun t188 => (if t188 = true then ((redpencillaw02_found.f (⟨#[85, 43, 54, 49]⟩ : ByteArray) 0 6).bind fun t189 => (if t189 = true then ((redpencillaw02_found.f (⟨#[85, 43, 48, 48, 48, 54, 49]⟩ : ByteArray) 0 6).bind fun t190 => (if t190 = true then ((redpencillaw02_found.f (⟨#[117, 43, 48, 48, 54, 49]⟩ : ByteArray) 0 6).bind fun t191 => (some t191)) else (some false))) else (some false))) else (some false))) = some true := by rw [if_pos rfl] at H; exact H
                clear H
                have H := H1
                clear H1
                replace H := Option.bind_eq_some_iff.mp H
                obtain ⟨t188, A1170, H⟩ := H
                replace H : (if t188 = true then ((redpencillaw02_found.f (⟨#[85, 43, 54, 49]⟩ : ByteArray) 0 6).bind fun t189 => (if t189 = true then ((redpencillaw02_found.f (⟨#[85, 43, 48, 48, 48, 54, 49]⟩ : ByteArray) 0 6).bind fun t190 => (if t190 = true then ((redpencillaw02_found.f (⟨#[117, 43, 48, 48, 54, 49]⟩ : ByteArray) 0 6).bind fun t191 => (some t191)) else (some false))) else (some false))) else (some false)) = some true := H
                have A117 := Aside0.mk A1170
                clear A1170
                by_cases c118 : t188 = true
                ·
                 subst c118
                 have H1 : ((redpencillaw02_found.f (⟨#[85, 43, 54, 49]⟩ : ByteArray) 0 6).bind fun t189 => (if t189 = true then ((redpencillaw02_found.f (⟨#[85, 43, 48, 48, 48, 54, 49]⟩ : ByteArray) 0 6).bind fun t190 => (if t190 = true then ((redpencillaw02_found.f (⟨#[117, 43, 48, 48, 54, 49]⟩ : ByteArray) 0 6).bind fun t191 => (some t191)) else (some false))) else (some false))) = some true := by rw [if_pos rfl] at H; exact H
                 clear H
                 have H := H1
                 clear H1
                 replace H := Option.bind_eq_some_iff.mp H
                 obtain ⟨t189, A1190, H⟩ := H
                 replace H : (if t189 = true then ((redpencillaw02_found.f (⟨#[85, 43, 48, 48, 48, 54, 49]⟩ : ByteArray) 0 6).bind fun t190 => (if t190 = true then ((redpencillaw02_found.f (⟨#[117, 43, 48, 48, 54, 49]⟩ : ByteArray) 0 6).bind fun t191 => (some t191)) else (some false))) else (some false)) = some true := H
                 have A119 := Aside0.mk A1190
                 clear A1190
                 by_cases c120 : t189 = true
                 ·
                  subst c120
                  have H1 : ((redpencillaw02_found.f (⟨#[85, 43, 48, 48, 48, 54, 49]⟩ : ByteArray) 0 6).bind fun t190 => (if t190 = true then ((redpencillaw02_found.f (⟨#[117, 43, 48, 48, 54, 49]⟩ : ByteArray) 0 6).bind fun t191 => (some t191)) else (some false))) = some true := by rw [if_pos rfl] at H; exact H
                  clear H
                  have H := H1
                  clear H1
                  replace H := Option.bind_eq_some_iff.mp H
                  obtain ⟨t190, A1210, H⟩ := H
                  replace H : (if t190 = true then ((redpencillaw02_found.f (⟨#[117, 43, 48, 48, 54, 49]⟩ : ByteArray) 0 6).bind fun t191 => (some t191)) else (some false)) = some true := H
                  have A121 := Aside0.mk A1210
                  clear A1210
                  by_cases c122 : t190 = true
                  ·
                   subst c122
                   have H1 : ((redpencillaw02_found.f (⟨#[117, 43, 48, 48, 54, 49]⟩ : ByteArray) 0 6).bind fun t191 => (some t191)) = some true := by rw [if_pos rfl] at H; exact H
                   clear H
                   have H := H1
                   clear H1
                   replace H := Option.bind_eq_some_iff.mp H
                   obtain ⟨t191, A1230, H⟩ := H
                   replace H : (some t191) = some true := H
                   have A123 := Aside0.mk A1230
                   clear A1230
                   obtain rfl := Option.some.inj H
                   go_wp2_with (first | ((with_reducible refine gate_callee (f := 13) rfl ?_); refine goesL_ (some 86) rfl rfl Tryd.func13 (by kernel_rfl) rfl #[.int .i32 97, .string (⟨#[85, 43, 48, 48, 54, 49]⟩ : ByteArray), .int .i64 0] rfl (by (try simp only [List.map_toArray, List.map_cons, List.map_nil]); first | done | rfl | (simp only [List.length_drop, List.length_take]; rfl)) ?_; (with_reducible refine (redpencillaw02_named.calls 97 (⟨#[85, 43, 48, 48, 54, 49]⟩ : ByteArray) 0 true _ ?side1 A111.out).mono ?_); (case side1 => exact GOK_below HG.out (by repeat (first | (with_reducible first | exact HB.out | apply below_alloc | apply pw_below_drewN | apply below_drew1) | exact HB.out))); rintro e w124 ⟨rfl, hb⟩; refine ⟨_, rfl, ?_⟩; have n0_ := Aside0.mk (below_step (by repeat (first | (with_reducible first | exact HB.out | apply below_alloc | apply pw_below_drewN | apply below_drew1) | exact HB.out)) hb); clear HB; have HB := n0_; clear n0_; (try clear hb); (try clear hb2); (try clear hk); (try clear hi)) | (go_at_call 13; (with_reducible refine (redpencillaw02_named.calls 128512 (⟨#[85, 43, 49, 70, 54, 48, 48]⟩ : ByteArray) 0 true _ ?side1 A113.out).mono ?_); (case side1 => exact GOK_below HG.out (by repeat (first | (with_reducible first | exact HB.out | apply below_alloc | apply pw_below_drewN | apply below_drew1) | exact HB.out))); rintro e w125 ⟨rfl, hb⟩; have n0_ := Aside0.mk (below_step (by repeat (first | (with_reducible first | exact HB.out | apply below_alloc | apply pw_below_drewN | apply below_drew1) | exact HB.out)) hb); clear HB; have HB := n0_; clear n0_; (try clear hb); (try clear hb2); (try clear hk); (try clear hi)) | (go_at_call 18; (with_reducible refine (redpencillaw02_found.calls (⟨#[85, 43, 50, 48, 65, 67]⟩ : ByteArray) 8364 0 true _ ?side1 A115.out).mono ?_); (case side1 => exact GOK_below HG.out (by repeat (first | (with_reducible first | exact HB.out | apply below_alloc | apply pw_below_drewN | apply below_drew1) | exact HB.out))); rintro e w126 ⟨rfl, hb⟩; have n0_ := Aside0.mk (below_step (by repeat (first | (with_reducible first | exact HB.out | apply below_alloc | apply pw_below_drewN | apply below_drew1) | exact HB.out)) hb); clear HB; have HB := n0_; clear n0_; (try clear hb); (try clear hb2); (try clear hk); (try clear hi)) | (go_at_call 18; (with_reducible refine (redpencillaw02_found.calls (⟨#[85, 43, 48, 48, 48, 48]⟩ : ByteArray) 0 6 true _ ?side1 A117.out).mono ?_); (case side1 => exact GOK_below HG.out (by repeat (first | (with_reducible first | exact HB.out | apply below_alloc | apply pw_below_drewN | apply below_drew1) | exact HB.out))); rintro e w127 ⟨rfl, hb⟩; have n0_ := Aside0.mk (below_step (by repeat (first | (with_reducible first | exact HB.out | apply below_alloc | apply pw_below_drewN | apply below_drew1) | exact HB.out)) hb); clear HB; have HB := n0_; clear n0_; (try clear hb); (try clear hb2); (try clear hk); (try clear hi)) | (go_at_call 18; (with_reducible refine (redpencillaw02_found.calls (⟨#[85, 43, 54, 49]⟩ : ByteArray) 0 6 true _ ?side1 A119.out).mono ?_); (case side1 => exact GOK_below HG.out (by repeat (first | (with_reducible first | exact HB.out | apply below_alloc | apply pw_below_drewN | apply below_drew1) | exact HB.out))); rintro e w128 ⟨rfl, hb⟩; have n0_ := Aside0.mk (below_step (by repeat (first | (with_reducible first | exact HB.out | apply below_alloc | apply pw_below_drewN | apply below_drew1) | exact HB.out)) hb); clear HB; have HB := n0_; clear n0_; (try clear hb); (try clear hb2); (try clear hk); (try clear hi)) | (go_at_call 18; (with_reducible refine (redpencillaw02_found.calls (⟨#[85, 43, 48, 48, 48, 54, 49]⟩ : ByteArray) 0 6 true _ ?side1 A121.out).mono ?_); (case side1 => exact GOK_below HG.out (by repeat (first | (with_reducible first | exact HB.out | apply below_alloc | apply pw_below_drewN | apply below_drew1) | exact HB.out))); rintro e w129 ⟨rfl, hb⟩; have n0_ := Aside0.mk (below_step (by repeat (first | (with_reducible first | exact HB.out | apply below_alloc | apply pw_below_drewN | apply below_drew1) | exact HB.out)) hb); clear HB; have HB := n0_; clear n0_; (try clear hb); (try clear hb2); (try clear hk); (try clear hi)) | (go_at_call 18; (with_reducible refine (redpencillaw02_found.calls (⟨#[117, 43, 48, 48, 54, 49]⟩ : ByteArray) 0 6 true _ ?side1 A123.out).mono ?_); (case side1 => exact GOK_below HG.out (by repeat (first | (with_reducible first | exact HB.out | apply below_alloc | apply pw_below_drewN | apply below_drew1) | exact HB.out))); rintro e w130 ⟨rfl, hb⟩; have n0_ := Aside0.mk (below_step (by repeat (first | (with_reducible first | exact HB.out | apply below_alloc | apply pw_below_drewN | apply below_drew1) | exact HB.out)) hb); clear HB; have HB := n0_; clear n0_; (try clear hb); (try clear hb2); (try clear hk); (try clear hi)))
                   go_ret
                   exact ⟨by first | rfl | (simp [errW_none, errW_some] <;> rfl) | (simp [*, errW_none, errW_some] <;> rfl), by repeat (first | (with_reducible first | exact HB.out | apply below_alloc | apply pw_below_drewN | apply below_drew1) | exact HB.out)⟩
                  ·
                   replace c122 := Bool.eq_false_iff.mpr c122
                   subst c122
                   have H1 : (some false) = some true := by rw [if_neg (show ¬ (false = true) by decide)] at H; exact H
                   exact absurd H1 (by simp)
                 ·
                  replace c120 := Bool.eq_false_iff.mpr c120
                  subst c120
                  have H1 : (some false) = some true := by rw [if_neg (show ¬ (false = true) by decide)] at H; exact H
                  exact absurd H1 (by simp)
                ·
                 replace c118 := Bool.eq_false_iff.mpr c118
                 subst c118
                 have H1 : (some false) = some true := by rw [if_neg (show ¬ (false = true) by decide)] at H; exact H
                 exact absurd H1 (by simp)
               ·
                replace c116 := Bool.eq_false_iff.mpr c116
                subst c116
                have H1 : (some false) = some true := by rw [if_neg (show ¬ (false = true) by decide)] at H; exact H
                exact absurd H1 (by simp)
              ·
               replace c114 := Bool.eq_false_iff.mpr c114
               subst c114
               have H1 : (some false) = some true := by rw [if_neg (show ¬ (false = true) by decide)] at H; exact H
               exact absurd H1 (by simp)
             ·
              replace c112 := Bool.eq_false_iff.mpr c112
              subst c112
              have H1 : (some false) = some true := by rw [if_neg (show ¬ (false = true) by decide)] at H; exact H
              exact absurd H1 (by simp)
theorem redpencillaw02_known.at_ : redpencillaw02_known.f 60 = some true := by decide +kernel
theorem redpencillaw02_known.up_ : ∀ n, redpencillaw02_known.f (60 + n) = some true
  | 0 => redpencillaw02_known.at_
  | n + 1 => redpencillaw02_known.mono (60 + n) _ (redpencillaw02_known.up_ n)
theorem redpencillaw02_known.calls (k : Nat)  (r : Bool) (w : World) (hG : GOK w) (h : redpencillaw02_known.f k  = some r) :
  Calls Tryd.prog 15 #[] w fun e w' => e = .returned (.bool r) ∧ Below w.heap.size w w' := by
  have hr : r = true := by
    have hm : ∀ n, redpencillaw02_known.f (k + n) = some r := by
      intro n
      induction n with
      | zero => exact h
      | succ n ih => exact redpencillaw02_known.mono (k + n) _ ih
    have h1 := hm 60
    have h2 := redpencillaw02_known.up_ k
    rw [Nat.add_comm] at h1
    rw [h1] at h2
    exact Option.some.inj h2
  subst hr
  exact redpencillaw02_known.callsT k w hG h
end Go.Proofs.YtphgoaacmkagmaaDoor.PAll
