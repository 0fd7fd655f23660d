/- Frames: what a call that writes some blocks of the caller's leaves alone; rows of bytes under frames; no program is named here. -/
import Derived.Test.YtbjahfbagbghnaaDoorKit
import Derived.Test.YtbjahfbagbghnaaDoorWMore
namespace Go.Proofs.YtbjahfbagbghnaaDoor.Kit
open Go.RowKit Go.Proofs.YtbjahfbagbghnaaDoorW.PrintWords

/-- From w to w1 only blocks in S, and new ones, have turned. -/
structure Fr (w w1 : World) (S : Nat → Prop) : Prop where
  os : w1.os = w.os
  tape : w1.tape = w.tape
  output : w1.output = w.output
  size : w.heap.size ≤ w1.heap.size
  block : ∀ i, i < w.heap.size → ¬ S i → w1.heap[i]? = w.heap[i]?
section
variable {w0 w w1 w2 : World} {S S' : Nat → Prop}
theorem Fr.refl (w : World) (S : Nat → Prop) : Fr w w S := ⟨rfl, rfl, rfl, Nat.le_refl _, fun _ _ _ => rfl⟩
theorem Fr.below (h : Below w.heap.size w w1) (S : Nat → Prop) : Fr w w1 S := ⟨h.os, h.tape, h.output, h.size, fun i hi _ => h.block i hi⟩
theorem Fr.grown {row : Option Nat} (h : w.grownBy w1 row) : Fr w w1 (fun i => some i = row) := ⟨h.os, h.tape, h.output, h.size, fun i hi hn => h.block i hi hn⟩
theorem Fr.mono (h : Fr w w1 S) (k : ∀ i, i < w.heap.size → S i → S' i) : Fr w w1 S' := ⟨h.os, h.tape, h.output, h.size, fun i hi hn => h.block i hi (fun q => hn (k i hi q))⟩
theorem Fr.then (h : Fr w w1 S) (k : Fr w1 w2 S') (hs : ∀ i, i < w.heap.size → S' i → S i) : Fr w w2 S :=
  ⟨k.os.trans h.os, k.tape.trans h.tape, k.output.trans h.output, Nat.le_trans h.size k.size, fun i hi hn => (k.block i (Nat.lt_of_lt_of_le hi h.size) (fun q => hn (hs i hi q))).trans (h.block i hi hn)⟩
theorem Fr.set (w : World) (g i : Nat) (v : Value) : Fr w (w.setCell ⟨g, i, none⟩ v) (fun j => j = g) := (Fr.grown (grown_set w g i v)).mono fun _ _ q => by injection q
theorem Fr.to_below {B : Nat} (h : Below B w0 w) (k : Fr w w1 S) (hB : B ≤ w.heap.size) (hs : ∀ i, S i → B ≤ i) : Below B w0 w1 :=
  ⟨k.os.trans h.os, k.tape.trans h.tape, k.output.trans h.output, Nat.le_trans h.size k.size, fun i hi => (k.block i (Nat.lt_of_lt_of_le hi hB) (fun q => absurd (hs i q) (by omega))).trans (h.block i hi)⟩
theorem Fr.blk (k : Fr w w1 S) {g : Nat} {o : Obj} (h : w.heap[g]? = some o) (hg : ¬ S g) : w1.heap[g]? = some o := (k.block g (blk_lt h) hg).trans h
end
/-- A row that was made keeps, where its own block does. -/
theorem Fr.row {α : Type} {d : Kd α} (hE : d.E = []) {w w1 : World} {S : Nat → Prop} (k : Fr w w1 S) {e base : Nat} {ok : Nat → Prop} {v : Value} {xs : List α} (h : d.R e w base ok v xs) (hn : ∀ j, v.ownBlock = some j → ¬ S j) : d.R e w1 base ok v xs :=
  Kd.R_mono (Kd.R_step (Kd.R_tight hE h) (fun j hj hlt => k.block j hlt (hn j hj.symm))) (fun j hj => h.1 j hj.symm)
/-- A list that is read keeps, where its block does. -/
theorem Fr.list {k : IntKind} {w w1 : World} {S : Nat → Prop} (f : Fr w w1 S) {A : Option Addr} {n : Nat} {xs : List Int} (h : (Kd.int k).C w A n xs) (hn : ∀ ad, A = some ad → 0 < n → ¬ S ad.block) : (Kd.int k).C w1 A n xs := by
  refine ⟨h.1, h.2.1, fun hp => ?_⟩
  obtain ⟨ad, e, hc⟩ := h.2.2 hp
  refine ⟨ad, e, fun j p hj => ?_⟩
  obtain ⟨c, hl, hK, hcell⟩ := hc j p hj
  refine ⟨c, hl, hK, fun i u hu => ?_⟩
  have h1 := hcell i u hu
  have hlt := World.block_lt_of_cell? w _ h1
  have hb : (ad.add (j * (Kd.int k).sz + i)).block = ad.block := add_block _ _
  rw [← h1]
  unfold World.cell?
  rw [f.block _ hlt (by rw [hb]; exact hn ad e hp)]
/-- What was made from a world on is new. -/
theorem made_ge {α : Type} {d : Kd α} {w : World} {e base : Nat} {ok : Nat → Prop} {v : Value} {xs : List α} (h : d.R e w base ok v xs) : d.R e w base (fun j => ok j ∧ base ≤ j) v xs :=
  Kd.R_mono (Kd.R_bound h) (fun _ hk => ⟨hk.1, hk.2.1⟩)
end Go.Proofs.YtbjahfbagbghnaaDoor.Kit
