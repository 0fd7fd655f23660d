/- Small facts on worlds, blocks and rows that the walks of this seat share; no program is named here. -/
/- Frames: what a call that writes some blocks of the caller's leaves alone; rows of bytes under frames; no program is named here. -/
/- Numbers as bytes, in plain Lean: the groups of a number, what a list of bytes begins with; no program is named here. -/
/- The printed contracts of layer 1's functions on numbers, told by the plain law: number, Size, Zig, Zag and the reference's. -/
/- Writers of layer 1: contracts of Clone, Raw, Num, Int, Put, Bytes, Len. -/
/- Writers of layer 1, more: contracts of Num, Int, Put, Bytes, Len, Size, and the law's number. -/
/- Writers of layer 1, more: contracts of Put and of the law's number. -/
/- Layer 17, plain law: what the printed functions compute on dots, runes and nodes. -/
/- Layer 17, walks: which states are stores; which runes are valid; a text's string. -/
import Derived.Test.YtfbjbajbjlcjfaaWWords
import Derived.WalkKit
import Derived.WalkSpells
import Derived.WalkLawsBesides
import Derived.Lib.Hide
import Derived.BigQuiet
import Derived.Deep.QuietTactic
import Derived.Deep.RegionHeld3
import Derived.Deep.AppendLies
import Derived.BigRegion
import Derived.Deep.RegionLaw
import Derived.Test.YtfbjbajbjlcjfaaWMore
import Derived.Laws.BitsLemmas
import Derived.Laws.BytesArg
import Derived.Test.YtfbjbajbjlcjfaaPCanonStatesx8
import Derived.Lib.SliceRun
import Derived.IntWalk
import Derived.Test.YtfbjbajbjlcjfaaPCanonStatesx7
import Derived.Test.YtfbjbajbjlcjfaaPCanonStatesx10
import Derived.Test.YtfbjbajbjlcjfaaPCanonStatesx9
import Derived.Lib.RuneBytes
import Derived.Laws.Cover4
namespace Go.Proofs.Ytfbjbajbjlcjfaa.Kit
open Go.RowKit Go.Proofs.YtfbjbajbjlcjfaaW.PrintWords

theorem grown_set (w : World) (b i : Nat) (v : Value) : w.grownBy (w.setCell ⟨b, i, none⟩ v) (some b) :=
  ⟨rfl, rfl, rfl, by simp [World.setCell], fun _ _ hk => Below.heap_setCell _ _ _ _ (fun e => hk (by rw [e]))⟩
end Go.Proofs.Ytfbjbajbjlcjfaa.Kit

namespace Go.Proofs.Ytfbjbajbjlcjfaa.Kit
open Go.RowKit Go.Proofs.YtfbjbajbjlcjfaaW.PrintWords

/-- From w to w1 only blocks in S, and new ones, have turned. -/
structure Fr (w w1 : World) (S : Nat → Prop) : Prop where
  os : w1.os = w.os
  tape : w1.tape = w.tape
  output : w1.output = w.output
  size : w.heap.size ≤ w1.heap.size
  block : ∀ i, i < w.heap.size → ¬ S i → w1.heap[i]? = w.heap[i]?
section
variable {w0 w w1 w2 : World} {S S' : Nat → Prop}
theorem Fr.refl (w : World) (S : Nat → Prop) : Fr w w S := ⟨rfl, rfl, rfl, Nat.le_refl _, fun _ _ _ => rfl⟩
theorem Fr.below (h : Below w.heap.size w w1) (S : Nat → Prop) : Fr w w1 S := ⟨h.os, h.tape, h.output, h.size, fun i hi _ => h.block i hi⟩
theorem Fr.grown {row : Option Nat} (h : w.grownBy w1 row) : Fr w w1 (fun i => some i = row) := ⟨h.os, h.tape, h.output, h.size, fun i hi hn => h.block i hi hn⟩
theorem Fr.mono (h : Fr w w1 S) (k : ∀ i, i < w.heap.size → S i → S' i) : Fr w w1 S' := ⟨h.os, h.tape, h.output, h.size, fun i hi hn => h.block i hi (fun q => hn (k i hi q))⟩
theorem Fr.then (h : Fr w w1 S) (k : Fr w1 w2 S') (hs : ∀ i, i < w.heap.size → S' i → S i) : Fr w w2 S :=
  ⟨k.os.trans h.os, k.tape.trans h.tape, k.output.trans h.output, Nat.le_trans h.size k.size, fun i hi hn => (k.block i (Nat.lt_of_lt_of_le hi h.size) (fun q => hn (hs i hi q))).trans (h.block i hi hn)⟩
theorem Fr.set (w : World) (g i : Nat) (v : Value) : Fr w (w.setCell ⟨g, i, none⟩ v) (fun j => j = g) := (Fr.grown (grown_set w g i v)).mono fun _ _ q => by injection q
theorem Fr.to_below {B : Nat} (h : Below B w0 w) (k : Fr w w1 S) (hB : B ≤ w.heap.size) (hs : ∀ i, S i → B ≤ i) : Below B w0 w1 :=
  ⟨k.os.trans h.os, k.tape.trans h.tape, k.output.trans h.output, Nat.le_trans h.size k.size, fun i hi => (k.block i (Nat.lt_of_lt_of_le hi hB) (fun q => absurd (hs i q) (by omega))).trans (h.block i hi)⟩
theorem Fr.blk (k : Fr w w1 S) {g : Nat} {o : Obj} (h : w.heap[g]? = some o) (hg : ¬ S g) : w1.heap[g]? = some o := (k.block g (blk_lt h) hg).trans h
end
/-- A row that was made keeps, where its own block does. -/
theorem Fr.row {α : Type} {d : Kd α} (hE : d.E = []) {w w1 : World} {S : Nat → Prop} (k : Fr w w1 S) {e base : Nat} {ok : Nat → Prop} {v : Value} {xs : List α} (h : d.R e w base ok v xs) (hn : ∀ j, v.ownBlock = some j → ¬ S j) : d.R e w1 base ok v xs :=
  Kd.R_mono (Kd.R_step (Kd.R_tight hE h) (fun j hj hlt => k.block j hlt (hn j hj.symm))) (fun j hj => h.1 j hj.symm)
/-- A list that is read keeps, where its block does. -/
theorem Fr.list {k : IntKind} {w w1 : World} {S : Nat → Prop} (f : Fr w w1 S) {A : Option Addr} {n : Nat} {xs : List Int} (h : (Kd.int k).C w A n xs) (hn : ∀ ad, A = some ad → 0 < n → ¬ S ad.block) : (Kd.int k).C w1 A n xs := by
  refine ⟨h.1, h.2.1, fun hp => ?_⟩
  obtain ⟨ad, e, hc⟩ := h.2.2 hp
  refine ⟨ad, e, fun j p hj => ?_⟩
  obtain ⟨c, hl, hK, hcell⟩ := hc j p hj
  refine ⟨c, hl, hK, fun i u hu => ?_⟩
  have h1 := hcell i u hu
  have hlt := World.block_lt_of_cell? w _ h1
  have hb : (ad.add (j * (Kd.int k).sz + i)).block = ad.block := add_block _ _
  rw [← h1]
  unfold World.cell?
  rw [f.block _ hlt (by rw [hb]; exact hn ad e hp)]
/-- What was made from a world on is new. -/
theorem made_ge {α : Type} {d : Kd α} {w : World} {e base : Nat} {ok : Nat → Prop} {v : Value} {xs : List α} (h : d.R e w base ok v xs) : d.R e w base (fun j => ok j ∧ base ≤ j) v xs :=
  Kd.R_mono (Kd.R_bound h) (fun _ hk => ⟨hk.1, hk.2.1⟩)
end Go.Proofs.Ytfbjbajbjlcjfaa.Kit

namespace Go.Proofs.Ytfbjbajbjlcjfaa.Vn
open Go

/-- The bytes of a number. -/
def enc (n : Nat) : List Int := if h : n < 128 then [(n : Int)] else (((n % 128 : Nat) : Int) + 128) :: enc (n / 128)
termination_by n
decreasing_by omega
theorem enc_lt {n : Nat} (h : n < 128) : enc n = [(n : Int)] := by unfold enc; rw [dif_pos h]
theorem enc_ge {n : Nat} (h : ¬ n < 128) : enc n = (((n % 128 : Nat) : Int) + 128) :: enc (n / 128) := by
  conv => lhs; unfold enc
  rw [dif_neg h]
theorem enc_length : ∀ (j n : Nat), n < 128 ^ (j + 1) → (enc n).length ≤ j + 1
  | 0, n, h => by rw [enc_lt (by simpa using h)]; simp
  | j + 1, n, h => by
    by_cases q : n < 128
    · rw [enc_lt q]; simp
    · rw [enc_ge q]
      have := enc_length j (n / 128) (by rw [Nat.pow_succ] at h; omega)
      simp; omega
theorem enc_length64 {n : Nat} (h : n < 18446744073709551616) : (enc n).length ≤ 10 := enc_length 9 n (by omega)
/-- Bytes. -/
def Bys (xs : List Int) : Prop := ∀ x ∈ xs, 0 ≤ x ∧ x ≤ 255
theorem Bys.drop {xs : List Int} (h : Bys xs) (k : Nat) : Bys (xs.drop k) := fun x hx => h x (List.mem_of_mem_drop hx)
theorem Bys.take {xs : List Int} (h : Bys xs) (k : Nat) : Bys (xs.take k) := fun x hx => h x (List.mem_of_mem_take hx)

/-- The groups of a list, so many of them, as a number. -/
def gs (l : List Int) : Nat → Int
  | 0 => 0
  | k + 1 => gs l k + (l.getD k 0 % 128) * 128 ^ k
/-- So many groups go on, and the next one is the last. -/
structure Ends (l : List Int) (e : Nat) : Prop where
  lt10 : e < 10
  lt : e < l.length
  last : l.getD e 0 < 128
  more : ∀ j, j < e → 128 ≤ l.getD j 0
def Bad (l : List Int) (e : Nat) : Prop := (0 < e ∧ l.getD e 0 = 0) ∨ (e = 9 ∧ 1 < l.getD e 0)
/-- What bytes begin with: a number, how many bytes it has, an error. -/
inductive RdR (l : List Int) : Int → Int → Int → Prop
  | short : l.length < 10 → (∀ j, j < l.length → 128 ≤ l.getD j 0) → RdR l 0 0 4
  | over : 10 ≤ l.length → (∀ j, j < 10 → 128 ≤ l.getD j 0) → RdR l 0 0 12
  | bad (e : Nat) : Ends l e → Bad l e → RdR l 0 0 12
  | good (e : Nat) : Ends l e → ¬ Bad l e → RdR l (gs l (e + 1)) (e + 1 : Nat) 0
end Go.Proofs.Ytfbjbajbjlcjfaa.Vn

namespace Go.Proofs.Ytfbjbajbjlcjfaa.Vn
open Go.RowKit Go.Proofs Go.Proofs.YtfbjbajbjlcjfaaW.PrintWords Go.Proofs.Ytfbjbajbjlcjfaa.Kit
set_option linter.unusedSimpArgs false
set_option linter.unusedVariables false

abbrev k8 : Kd Int := Kd.int .u8
/-- A row of bytes that was made since w. -/
def MadeP (xs : List Int) (w : World) (en : Ending) (w' : World) : Prop :=
  ∃ v, en = .returned v ∧ k8.R 5 w' w.heap.size (fun j => w.heap.size ≤ j) v xs ∧ Below w.heap.size w w'
theorem or128 (x : Int) (h0 : 0 ≤ x) (h1 : x < 256) : Go.bits .or .u8 x 128 = x % 128 + 128 := by
  obtain ⟨n, rfl⟩ : ∃ n : Nat, x = n := ⟨x.toNat, by omega⟩
  have : ∀ n : Fin 256, Go.bits .or .u8 (n.1 : Int) 128 = (n.1 : Int) % 128 + 128 := by decide +kernel
  exact this ⟨n, by omega⟩
open PCanonStates in
theorem number_l0 : ∀ (j n : Nat) (pre : List Int), n < 128 ^ (j + 1) → pre.length + j < 100000 → varint_number.l0 (j + 1) n pre = some (pre ++ enc n)
  | j, n, pre, h, hl => by
    unfold varint_number.l0
    have h3 : pre.length < 140737488355328 := by omega
    by_cases q : n < 128
    · rw [if_neg (by omega), if_pos h3, enc_lt q, show ((n : Int) % 256) = n by omega]
    · rw [if_pos (by omega), if_pos h3]
      cases j with
      | zero => exact absurd h (by simpa using q)
      | succ j =>
        have e1 : (n : Int) / 128 = ((n / 128 : Nat) : Int) := by omega
        rw [e1, number_l0 j (n / 128) _ (by rw [Nat.pow_succ] at h; omega) (by simp; omega), enc_ge q, or128 _ (by omega) (by omega), show ((n : Int) % 256 % 128 + 128) = ((n % 128 : Nat) : Int) + 128 by omega]
        simp
theorem number_any (n : Nat) (hn : n < 18446744073709551616) (w : World) : Calls Try.prog 48 #[.int .u64 n] w (MadeP (enc n) w) := by
  refine (PCanonStates.varint_number.calls 10 n (enc n) w ?_).mono ?_
  · unfold PCanonStates.varint_number.f
    rw [number_l0 9 n [] (by omega) (by simp)]
    rfl
  · rintro en w' ⟨v, rfl, hr, hb⟩
    exact ⟨v, rfl, Kd.R_mono (made_ge hr) (fun _ q => q.2), hb⟩
theorem wrapu (n : Int) : IntKind.u64.wrap n = n % 18446744073709551616 := by simp [IntKind.wrap, IntKind.bits, IntKind.signed]
end Go.Proofs.Ytfbjbajbjlcjfaa.Vn

namespace Go.Proofs.Ytfbjbajbjlcjfaa.Vn
open Go.RowKit Go.Proofs Go.Proofs.YtfbjbajbjlcjfaaW.PrintWords Go.Proofs.Ytfbjbajbjlcjfaa.Kit
set_option linter.unusedSimpArgs false
set_option linter.unusedVariables false

theorem info8 : (Try.prog.info? 5).map (fun i => (i.zero, i.size, i.bytes)) = some (some (.int .u8 0), 1, 1) := by kernel_rfl
theorem C_none {d : Kd Int} {w : World} {n : Nat} {xs : List Int} (h : d.C w none n xs) : xs = [] := by
  rcases Nat.eq_zero_or_pos n with q | q
  · exact List.eq_nil_of_length_eq_zero (h.1.trans q)
  · obtain ⟨_, e, _⟩ := h.2.2 q
    cases e

theorem nil8 (c : Nat) : ∀ w : World, (binOp .eql 24 (.slice none 0 c) (.slice none 0 0)).run Try.prog w = .ok (.bool true) w := fun w => Go.Lib.run_eql_slice_nil w _ _ none 0 c 0 0 Try.underlying24
theorem some8 (ad : Addr) (n c : Nat) : ∀ w : World, (binOp .eql 24 (.slice (some ad) n c) (.slice none 0 0)).run Try.prog w = .ok (.bool false) w := fun w => Go.Lib.run_eql_slice_nil w _ _ (some ad) n c 0 0 Try.underlying24
set_option maxHeartbeats 1000000 in
theorem clone_any (A : Option Addr) (c : Nat) (xs : List Int) (w : World) (hx : k8.C w A xs.length xs) (hl : xs.length ≤ 100000000) : Calls Try.prog 52 #[.slice A xs.length c] w (MadeP xs w) := by
  rcases A with _ | ad
  · obtain rfl := C_none hx
    have hq := nil8 c
    clear hx
    go_enter Try.func52, Try.ntmps52
    go_wp2
    go_ret
    exact ⟨_, rfl, Kd.R_nil _ _ _ _ _, Below.refl _ _⟩
  · have HX := Lib.hid hx
    have hq := some8 ad xs.length c
    clear hx
    go_enter Try.func52, Try.ntmps52
    go_wp2_with (first | ((with_reducible refine gate_dst (N := 5) rfl ?_); refine Kd.R_lit k8 w.heap.size 5 ?hg (N := 5) ?hd (xs := ([] : List Int)) (inner := []) (ok := fun j => w.heap.size ≤ j) (okp := fun _ => False) ?hr ?hp (fun _ hk => hk.elim) (Nat.le_refl _) (Below.refl _ _) (Nat.le_refl _) (by simp) ?_; (case hd => rfl); (case hg => rfl); (case hr => first | (go_simp; done) | (go_simp; rfl)); (case hp => exact Reps.none _ _); intro v5 w5 ho hb hg_ hn_; have O := Lib.hid ho; have B := Lib.hid hb; clear ho hb hg_ hn_) | ((with_reducible refine gate_builtin (b := .append) (xs := #[.tmp 5, .tmp 6]) rfl ?_); at_builtin; refine Kd.R_append_rows k8 (w0 := w) w.heap.size rfl (.tmp 5) (.tmp 6) 24 5 (.int .u8 0) 1 rfl Try.underlying24 info8 rfl (by decide) (by omega) v5 [] xs _ _ _ (fun j => w.heap.size ≤ j) (fun _ => False) rfl rfl O.out (Kd.C_below HX.out B.out) (fun _ _ h => h) (fun _ h => h.elim) (fun k hk => Nat.le_trans B.out.size hk) B.out B.out.size (by simp; omega) ?_; intro v7 w7 ho hb hg_ hat; have O7 := Lib.hid ho; have B7 := Lib.hid hb; clear ho hb hg_ hat))
    go_ret
    exact ⟨_, rfl, by simpa using O7.out, B7.out⟩

/-- Block g is a writer that was made since w0, and has written xs; v is its row. -/
structure Wr (w0 w : World) (g : Nat) (v : Value) (xs : List Int) : Prop where
  own : w.heap[g]? = some (.cells #[v] 68 (0, 0))
  row : k8.R 5 w w0.heap.size (fun j => j ≠ g) v xs
  bel : Below w0.heap.size w0 w
  ge : w0.heap.size ≤ g
def WrS (w w' : World) (g : Nat) (v v' : Value) : Prop := Fr w w' (fun i => i = g ∨ some i = v.ownBlock) ∧ (v'.ownBlock = v.ownBlock ∨ ∃ b, v'.ownBlock = some b ∧ w.heap.size ≤ b)
theorem WrS.refl (w : World) (g : Nat) (v : Value) : WrS w w g v v := ⟨Fr.refl _ _, .inl rfl⟩
theorem WrS.then {w w1 w2 : World} {g : Nat} {v v1 v2 : Value} (h : WrS w w1 g v v1) (k : WrS w1 w2 g v1 v2) : WrS w w2 g v v2 := by
  have hs := h.1.size
  refine ⟨h.1.then k.1 fun i hi q => ?_, ?_⟩
  · rcases q with q | q
    · exact .inl q
    · rcases h.2 with e | ⟨b, e, hb⟩
      · exact .inr (q.trans e)
      · rw [e] at q; injection q with q; omega
  · rcases k.2 with e | ⟨b, e, hb⟩
    · rcases h.2 with e2 | ⟨b, e2, hb⟩
      · exact .inl (e.trans e2)
      · exact .inr ⟨b, e.trans e2, hb⟩
    · exact .inr ⟨b, e, by omega⟩
def WrP (w0 w : World) (g : Nat) (v : Value) (zs : List Int) (en : Ending) (w' : World) : Prop :=
  en = .returned (.tuple #[]) ∧ ∃ v', Wr w0 w' g v' zs ∧ WrS w w' g v v'
section
variable {w0 w w1 : World} {g : Nat} {v : Value} {xs : List Int}
theorem Wr.ne (h : Wr w0 w g v xs) : some g ≠ v.ownBlock := fun e => h.row.1 g e.symm rfl
theorem Wr.below (h : Wr w0 w g v xs) (hb : Below w.heap.size w w1) : Wr w0 w1 g v xs := ⟨blk_below h.own hb, Kd.R_below h.row hb, below_step h.bel hb, h.ge⟩
theorem Wr.slice (h : Wr w0 w g v xs) : ∃ A c, v = .slice A xs.length c ∧ xs.length ≤ c ∧ k8.C w A xs.length xs := Kd.R_reads h.row
theorem WrS.below (h : WrS w w1 g v v) {w2 : World} (hb : Below w1.heap.size w1 w2) : WrS w w2 g v v := ⟨h.1.then (Fr.below hb (fun _ => False)) (fun _ _ q => q.elim), .inl rfl⟩
/-- Another frame's blocks are not the writer's. -/
theorem Wr.frame {S : Nat → Prop} (h : Wr w0 w g v xs) (f : Fr w w1 S) (h1 : ¬ S g) (h2 : ∀ j, v.ownBlock = some j → ¬ S j) (hS : ∀ i, S i → w0.heap.size ≤ i) : Wr w0 w1 g v xs :=
  ⟨f.blk h.own h1, f.row rfl h.row h2, Fr.to_below h.bel f h.bel.size hS, h.ge⟩
end
theorem wr_of_below {w w1 : World} {g : Nat} {v : Value} (hb : Below w.heap.size w w1) : WrS w w1 g v v := ⟨Fr.below hb _, .inl rfl⟩

set_option maxHeartbeats 1000000 in
theorem raw_any (w0 w : World) (g : Nat) (v : Value) (xs ys : List Int) (A : Option Addr) (c : Nat) (h : Wr w0 w g v xs) (hy : k8.C w A ys.length ys) (hl : xs.length + ys.length ≤ 1000000000) :
    Calls Try.prog 47 #[.pointer (some ⟨g, 0, none⟩), .slice A ys.length c] w (WrP w0 w g v (xs ++ ys)) := by
  obtain ⟨A0, c0, rfl, hc0, hC0⟩ := h.slice
  have hcell := (blk_cell h.own 0).trans rfl
  have H := Lib.hid h
  have HY := Lib.hid hy
  clear h hy hC0
  go_enter Try.func47, Try.ntmps47
  go_wp2_with ((with_reducible refine gate_builtin (b := .append) (xs := #[.tmp 10, .tmp 11]) rfl ?_); at_builtin; refine Kd.R_append_rows k8 (w0 := w0) w0.heap.size rfl (.tmp 10) (.tmp 11) 24 5 (.int .u8 0) 1 rfl Try.underlying24 info8 rfl (by decide) (by omega) (.slice A0 xs.length c0) xs ys _ _ _ (fun j => j ≠ g) (fun _ => False) rfl rfl H.out.row HY.out (fun _ _ h => h) (fun _ h => h.elim) (fun k hk => Nat.ne_of_gt (Nat.lt_of_lt_of_le (blk_lt H.out.own) hk)) H.out.bel H.out.bel.size (by omega) ?_; intro v7 w7 ho hb hg hat; (obtain ⟨A7, c7, rfl⟩ := Kd.R_slice ho); have O7 := Lib.hid (And.intro ho (And.intro hb (And.intro hg hat))); have X := Lib.hid (blk_grown H.out.own hg H.out.ne); have hc7 := (blk_cell X.out 0).trans rfl; have hf7 := blk_frozen X.out 0; clear ho hb hg hat hcell)
  go_end0
  have o1 := O7.out.1
  have o2 := O7.out.2.1
  have o3 := O7.out.2.2.1
  have o4 := O7.out.2.2.2
  rw [List.length_append] at o1 o4
  refine ⟨rfl, _, ⟨blk_put X.out 0 _ rfl, (Fr.set w7 g 0 _).row rfl o1 (fun j hj q => ?_), Fr.to_below o2 (Fr.set w7 g 0 _) o2.size (fun i q => ?_), H.out.ge⟩, ?_, o4⟩
  · exact o1.1 j hj q
  · have := H.out.ge; omega
  · exact ((Fr.grown o3).mono (fun i _ q => .inr q)).then (Fr.set w7 g 0 _) (fun i _ q => .inl q)
end Go.Proofs.Ytfbjbajbjlcjfaa.Vn

namespace Go.Proofs.Ytfbjbajbjlcjfaa.Vn
open Go.RowKit Go.Proofs Go.Proofs.YtfbjbajbjlcjfaaW.PrintWords Go.Proofs.Ytfbjbajbjlcjfaa.Kit
set_option linter.unusedSimpArgs false
set_option linter.unusedVariables false

set_option maxHeartbeats 1000000 in
theorem bytes_any (w0 w : World) (g : Nat) (v : Value) (xs : List Int) (h : Wr w0 w g v xs) (hl : xs.length ≤ 100000000) : Calls Try.prog 39 #[.pointer (some ⟨g, 0, none⟩)] w (MadeP xs w) := by
  obtain ⟨A0, c0, rfl, hc0, hC0⟩ := h.slice
  have hcell := (blk_cell h.own 0).trans rfl
  have HC := Lib.hid hC0
  clear h hC0
  go_enter Try.func39, Try.ntmps39
  go_wp2_with (go_at_call 52; refine (clone_any A0 c0 xs w HC.out hl).mono ?_; rintro en w1 ⟨v1, rfl, hr, hb⟩; have O := Lib.hid (And.intro hr hb); clear hr hb)
  go_ret
  exact ⟨_, rfl, O.out.1, O.out.2⟩
/-- Several numbers, one after the other. -/
def encs (ns : List Int) : List Int := ns.flatMap fun n => enc n.toNat
theorem encs_cons (n : Int) (ns : List Int) : encs (n :: ns) = enc n.toNat ++ encs ns := rfl
theorem encs_append (ns ms : List Int) : encs (ns ++ ms) = encs ns ++ encs ms := by unfold encs; simp
theorem encs_one (n : Int) : encs [n] = enc n.toNat := by simp [encs]
def U64 (ns : List Int) : Prop := ∀ n ∈ ns, 0 ≤ n ∧ n ≤ 18446744073709551615
theorem encs_length : ∀ ns, U64 ns → (encs ns).length ≤ 10 * ns.length
  | [], _ => by simp [encs]
  | n :: ns, h => by
    have h1 := encs_length ns (fun m hm => h m (List.mem_cons_of_mem _ hm))
    have h2 := h n List.mem_cons_self
    have h3 := enc_length64 (n := n.toNat) (by omega)
    rw [encs_cons, List.length_append, List.length_cons]
    omega
theorem at_int {k : IntKind} {w : World} {A : Option Addr} {n : Nat} {xs : List Int} (h : (Kd.int k).C w A n xs) (i : Int) (h0 : 0 ≤ i) (h1 : i < n) :
    ∃ ad, A = some ad ∧ w.cell? (ad.add i.toNat) = some (.int k (xs.getD i.toNat 0)) := by
  obtain ⟨ad, c, e, hl, hK, hc⟩ := Kd.C_get h (0 : Int) i h0 h1
  have q0 := hc 0 (.int k (xs.getD i.toNat 0)) (by rw [show c = [.int k (xs.getD i.toNat 0)] from hK]; rfl)
  have e1 : i.toNat * (Kd.int k).sz + 0 = i.toNat := by show i.toNat * 1 + 0 = _; omega
  rw [e1] at q0
  exact ⟨ad, e, q0⟩
theorem take_succ (xs : List Int) (k : Nat) (h : k < xs.length) : xs.take (k + 1) = xs.take k ++ [xs.getD k 0] := by
  rw [List.getD_eq_getElem?_getD, List.getElem?_eq_getElem h, List.take_add_one, List.getElem?_eq_getElem h]
  rfl
theorem mem_getD {xs : List Int} {k : Nat} (h : k < xs.length) : xs.getD k 0 ∈ xs := by
  rw [List.getD_eq_getElem?_getD, List.getElem?_eq_getElem h]
  exact List.getElem_mem h
/-- A list that is no part of the writer's. -/
def Off (A : Option Addr) (n g : Nat) (v : Value) : Prop := ∀ ad, A = some ad → 0 < n → ad.block ≠ g ∧ some ad.block ≠ v.ownBlock
theorem Off.list {k : IntKind} {w w1 : World} {A : Option Addr} {n g : Nat} {v v1 : Value} {xs : List Int} (h : Off A n g v) (hs : WrS w w1 g v v1) (hx : (Kd.int k).C w A n xs) : (Kd.int k).C w1 A n xs :=
  hs.1.list hx fun ad e hp q => by
    have := h ad e hp
    rcases q with q | q
    · exact this.1 q
    · exact this.2 q
set_option maxHeartbeats 2000000 in
theorem wnum_any (w0 w : World) (g : Nat) (v : Value) (xs : List Int) (A : Option Addr) (c : Nat) (ns : List Int) (h : Wr w0 w g v xs) (hx : (Kd.int .u64).C w A ns.length ns) (hu : U64 ns) (ho : Off A ns.length g v) (hl : xs.length + 10 * ns.length ≤ 1000000000) :
    Calls Try.prog 36 #[.pointer (some ⟨g, 0, none⟩), .slice A ns.length c] w (WrP w0 w g v (xs ++ encs ns)) := by
  have lx : ns.length ≤ 9223372036854775807 := hx.2.1
  have H := Lib.hid h
  have HX := Lib.hid hx
  have HU := Lib.hid hu
  have HO := Lib.hid ho
  clear h hx hu ho
  go_enter Try.func36, Try.ntmps36
  go_wp2
  go_loopw [8] (fun i wr => ∃ (k : Nat) (v' : Value), k ≤ ns.length ∧ i = .int .i64 k ∧ Wr w0 wr g v' (xs ++ encs (ns.take k)) ∧ WrS w wr g v v') (fun i _ => (ns.length : Int).toNat - (intOf i).toNat)
  case atStart => exact ⟨0, v, by omega, rfl, by simpa [encs] using H.out, WrS.refl _ _ _⟩
  case round =>
    obtain ⟨k, v', hk, rfl, hW, hS⟩ := hrel
    by_cases hlt : k < ns.length
    · obtain ⟨ad, eA, q0⟩ := at_int (HO.out.list hS HX.out) (k : Int) (by omega) (by omega)
      subst eA
      rw [Int.toNat_natCast] at q0
      have hm := HU.out _ (mem_getD hlt)
      have hT := take_succ ns k hlt
      have hlen : (encs (ns.take k)).length ≤ 10 * k := by
        have := encs_length (ns.take k) (fun m hm => HU.out m (List.mem_of_mem_take hm))
        rw [List.length_take] at this
        omega
      generalize hn : ns.getD k 0 = n at *
      obtain ⟨m, rfl⟩ : ∃ m : Nat, n = m := ⟨n.toNat, by omega⟩
      have hm2 : m < 18446744073709551616 := by omega
      have h10 := enc_length64 hm2
      have HW := Lib.hid hW
      have HS := Lib.hid hS
      have HT := Lib.hid hT
      clear hW hS hT hm hn
      go_wp2_with (first | (go_at_call 48; refine (number_any m hm2 _).mono ?_; rintro en w1 ⟨v1, rfl, hr, hb⟩; obtain ⟨A1, c1, rfl, hc1, hC1⟩ := Kd.R_reads hr; have HW := Lib.hid (HW.out.below hb); have HS := Lib.hid (HS.out.then (wr_of_below hb)); have C1 := Lib.hid hC1; clear hr hb hC1) | (go_at_call 47; refine (raw_any w0 _ g v' (xs ++ encs (ns.take k)) (enc m) A1 c1 HW.out C1.out (by rw [List.length_append]; omega)).mono ?_; rintro en w2 ⟨rfl, v2, hW2, hS2⟩; have HW := Lib.hid hW2; have HS := Lib.hid (HS.out.then hS2); clear hW2 hS2))
      go_roundw
      case rel => exact ⟨k + 1, v2, by omega, by go_num, by rw [HT.out, encs_append, encs_one, Int.toNat_natCast, ← List.append_assoc]; exact HW.out, HS.out⟩
      case measure => simp [intOf]; omega
    · go_wp2
      go_end0
      obtain rfl : k = ns.length := by omega
      rw [List.take_length] at hW
      exact ⟨rfl, v', hW, hS⟩

theorem C_one (k : IntKind) (t : TypeId) (W : World) (x : Int) : (Kd.int k).C (W.alloc (.cells #[.int k x] t)) (some ⟨W.heap.size, 0, none⟩) 1 [x] := by
  refine ⟨rfl, by omega, fun _ => ⟨_, rfl, fun j p hj => ?_⟩⟩
  cases j with
  | zero =>
    have hp : x = p := by simpa using hj
    subst hp
    refine ⟨[.int k x], rfl, rfl, fun i u hu => ?_⟩
    rw [add_plain, blk_cell (blk_new W _)]
    cases i with
    | zero => simpa [Kd.int, Kd.scalar] using hu
    | succ i => simp at hu
  | succ j => simp at hj
theorem off_new {w0 w : World} {g : Nat} {v : Value} {xs : List Int} (h : Wr w0 w g v xs) (n : Nat) : Off (some ⟨w.heap.size, 0, none⟩) n g v := by
  rintro ad e _
  injection e with e
  subst e
  refine ⟨Nat.ne_of_gt (blk_lt h.own), fun e => ?_⟩
  have := Kd.R_lt h.row _ e.symm
  exact absurd this (by simp)
/-- One number: the list is a literal. -/
theorem wnum_one (w0 w : World) (g : Nat) (v : Value) (xs : List Int) (n : Int) (h : Wr w0 w g v xs) (hn : 0 ≤ n ∧ n ≤ 18446744073709551615) (hl : xs.length ≤ 100000000) :
    Calls Try.prog 36 #[.pointer (some ⟨g, 0, none⟩), .slice (some ⟨w.heap.size, 0, none⟩) 1 1] (w.alloc (.cells #[.int .u64 n] 59)) (WrP w0 w g v (xs ++ enc n.toNat)) := by
  have hb : Below w.heap.size w (w.alloc (.cells #[.int .u64 n] 59)) := below_alloc (Below.refl _ _) _
  have := wnum_any w0 _ g v xs (some ⟨w.heap.size, 0, none⟩) 1 [n] (h.below hb) (C_one .u64 59 w n) (fun m hm => by obtain rfl : m = n := (by simpa using hm); exact hn) (off_new h 1) (by simp; omega)
  refine this.mono ?_
  rintro en w' ⟨rfl, v', hW, hS⟩
  rw [encs_one] at hW
  exact ⟨rfl, v', hW, (wr_of_below hb).then hS⟩

end Go.Proofs.Ytfbjbajbjlcjfaa.Vn

namespace Go.Proofs.Ytfbjbajbjlcjfaa.Vn
open Go.RowKit Go.Proofs Go.Proofs.YtfbjbajbjlcjfaaW.PrintWords Go.Proofs.Ytfbjbajbjlcjfaa.Kit
set_option linter.unusedSimpArgs false
set_option linter.unusedVariables false

set_option maxHeartbeats 1000000 in
theorem put_any (w0 w : World) (g : Nat) (v : Value) (xs ys : List Int) (A : Option Addr) (c : Nat) (h : Wr w0 w g v xs) (hy : k8.C w A ys.length ys) (ho : Off A ys.length g v) (hl : xs.length + ys.length ≤ 10000000) :
    Calls Try.prog 38 #[.pointer (some ⟨g, 0, none⟩), .slice A ys.length c] w (WrP w0 w g v (xs ++ (enc ys.length ++ ys))) := by
  have H := Lib.hid h
  have HY := Lib.hid hy
  have HO := Lib.hid ho
  have h10 := enc_length64 (n := ys.length) (by omega)
  have B1 := Lib.hid (show 0 ≤ (ys.length : Int) ∧ (ys.length : Int) ≤ 18446744073709551615 by omega)
  have B2 := Lib.hid (show xs.length ≤ 100000000 by omega)
  have B3 := Lib.hid (show (xs ++ enc ys.length).length + ys.length ≤ 1000000000 by rw [List.length_append]; omega)
  have hwr : IntKind.u64.wrap (ys.length : Int) = ys.length := by rw [wrapu]; omega
  clear h hy ho hl h10
  go_enter Try.func38, Try.ntmps38
  go_wp2_with (first | (go_at_call 36; refine (wnum_one w0 _ g v xs (ys.length : Int) H.out B1.out B2.out).mono ?_; rintro en w2 ⟨rfl, v2, hW2, hS2⟩; rw [Int.toNat_natCast] at hW2; have HW := Lib.hid hW2; have HY := Lib.hid (HO.out.list hS2 HY.out); have HS := Lib.hid hS2; clear hW2 hS2) | (go_at_call 47; refine (raw_any w0 _ g v2 (xs ++ enc ys.length) ys A c HW.out HY.out B3.out).mono ?_; rintro en w3 ⟨rfl, v3, hW3, hS3⟩; have HW := Lib.hid hW3; have HS := Lib.hid (HS.out.then hS3); clear hW3 hS3))
  go_end0
  exact ⟨rfl, v3, by rw [← List.append_assoc]; exact HW.out, HS.out⟩

/-- A new writer, in a box. -/
theorem wr_box {w0 w w1 : World} {g : Nat} (h0 : Below w0.heap.size w0 w) (hg : g = w.heap.size) (hbox : w1.heap[g]? = some (.cells #[.slice none 0 0] 68 (0, 0))) (hb : Below w.heap.size w w1) : Wr w0 w1 g (.slice none 0 0) [] :=
  ⟨hbox, Kd.R_nil _ _ _ _ _, below_step h0 hb, by rw [hg]; exact h0.size⟩
theorem conv8 {w : World} {A : Option Addr} {c : Nat} {xs : List Int} (h : k8.C w A xs.length xs) : (convert 24 9 (.slice A xs.length c)).run Try.prog w = .ok (.string (strOfNums xs)) w :=
  Kd.C_string Try.underlying24 Try.underlying5 Try.underlying9 h
end Go.Proofs.Ytfbjbajbjlcjfaa.Vn

namespace Go.Proofs.Ytfbjbajbjlcjfaa.Cn
open Go Go.RowKit Go.Proofs.Ytfbjbajbjlcjfaa.Vn Go.Proofs.Ytfbjbajbjlcjfaa.PCanonStates Go.Proofs.YtfbjbajbjlcjfaaW.PrintWords
set_option linter.unusedSimpArgs false
set_option linter.unusedVariables false

def okDot (r c : Int) : Prop := 1 ≤ r ∧ r ≤ 64 ∧ 1 ≤ c ∧ c ≤ 4294967295
instance (r c : Int) : Decidable (okDot r c) := by unfold okDot; infer_instance
def okRune (r : Int) : Prop := 1 ≤ r ∧ r ≤ 1114111 ∧ (r < 55296 ∨ 57343 < r)
instance (r : Int) : Decidable (okRune r) := by unfold okRune; infer_instance
def okNode (x : S38) : Prop := okDot x.f0.f0 x.f0.f1 ∧ ((x.f1.f0 = 0 ∧ x.f1.f1 = 0) ∨ okDot x.f1.f0 x.f1.f1) ∧ ¬ (x.f1.f0 = x.f0.f0 ∧ x.f1.f1 = x.f0.f1) ∧ 1 ≤ x.f2 ∧ x.f2 ≤ 4611686018427387904 ∧ (x.f3 = 0 ∨ okRune x.f3)
instance (x : S38) : Decidable (okNode x) := by unfold okNode; infer_instance
theorem dot_f (r c : Int) : dot_Valid.f r c = some (decide (okDot r c)) := by
  unfold dot_Valid.f
  by_cases h1 : r ≥ 1
  · rw [if_pos h1]
    by_cases h2 : r ≤ 64
    · rw [if_pos h2]
      by_cases h3 : c ≥ 1
      · rw [if_pos h3]; congr 1; exact decide_eq_decide.2 (by unfold okDot; omega)
      · rw [if_neg h3, decide_eq_false (by unfold okDot; omega)]
    · rw [if_neg h2, decide_eq_false (by unfold okDot; omega)]
  · rw [if_neg h1, decide_eq_false (by unfold okDot; omega)]
theorem rune_f (k : Nat) (r : Int) : runes_Valid.f (k + 1) r = some (decide (okRune r)) := by
  unfold runes_Valid.f
  by_cases h0 : r = 0
  · rw [if_pos h0, decide_eq_false (by unfold okRune; omega)]
  · rw [if_neg h0]
    have : utf8_ValidRune.f (k + 1) r = some (decide (okRune r)) := by
      have hj : ∀ b, utf8_ValidRune.j0 (k + 1) r b = if b = true then some true else (if 57343 < r then (if r ≤ 1114111 then some true else some false) else some false) := fun b => by unfold utf8_ValidRune.j0; rfl
      unfold utf8_ValidRune.f
      rw [hj, hj]
      by_cases h1 : 0 ≤ r
      · rw [if_pos h1]
        by_cases h2 : r < 55296
        · rw [decide_eq_true h2, if_pos rfl, decide_eq_true (by unfold okRune; omega)]
        · rw [decide_eq_false h2, if_neg (by simp)]
          by_cases h3 : 57343 < r
          · rw [if_pos h3]
            by_cases h4 : r ≤ 1114111
            · rw [if_pos h4, decide_eq_true (by unfold okRune; omega)]
            · rw [if_neg h4, decide_eq_false (by unfold okRune; omega)]
          · rw [if_neg h3, decide_eq_false (by unfold okRune; omega)]
      · rw [if_neg h1, if_neg (by simp), if_neg (by omega), decide_eq_false (by unfold okRune; omega)]
    rw [this]
    rfl
theorem node_f (k : Nat) (x : S38) : node_Valid.f (k + 1) x.f0.f0 x.f0.f1 x.f1.f0 x.f1.f1 x.f2 x.f3 = some (decide (okNode x)) := by
  unfold node_Valid.f dot_Root.f node_Dead.f
  simp only [dot_f, rune_f, Option.bind_some]
  by_cases h1 : okDot x.f0.f0 x.f0.f1
  · rw [decide_eq_true h1, if_pos rfl]
    have e2 : (!(x.f1.f0 == x.f0.f0) || (!(x.f1.f1 == x.f0.f1))) = decide (¬ (x.f1.f0 = x.f0.f0 ∧ x.f1.f1 = x.f0.f1)) := by
      by_cases a : x.f1.f0 = x.f0.f0 <;> by_cases b : x.f1.f1 = x.f0.f1 <;> simp [a, b]
    have e3 : (x.f1.f0 == 0 && (x.f1.f1 == 0)) = decide (x.f1.f0 = 0 ∧ x.f1.f1 = 0) := by
      by_cases a : x.f1.f0 = 0 <;> by_cases b : x.f1.f1 = 0 <;> simp [a, b]
    have e4 : (x.f3 == 0) = decide (x.f3 = 0) := by by_cases a : x.f3 = 0 <;> simp [a]
    rw [e2, e3, e4]
    simp only [decide_eq_true_eq]
    by_cases a1 : (x.f1.f0 = 0 ∧ x.f1.f1 = 0)
    · rw [if_pos a1]
      by_cases a2 : ¬ (x.f1.f0 = x.f0.f0 ∧ x.f1.f1 = x.f0.f1)
      · rw [if_pos a2]
        by_cases a3 : x.f2 ≥ 1
        · rw [if_pos a3]
          by_cases a4 : x.f2 ≤ 4611686018427387904
          · rw [if_pos a4]
            by_cases a5 : x.f3 = 0
            · rw [if_pos a5, decide_eq_true (show okNode x from ⟨h1, .inl a1, a2, a3, a4, .inl a5⟩)]
            · rw [if_neg a5]
              congr 1
              exact decide_eq_decide.2 ⟨fun h => ⟨h1, .inl a1, a2, a3, a4, .inr h⟩, fun h => h.2.2.2.2.2.resolve_left a5⟩
          · rw [if_neg a4, decide_eq_false (fun h : okNode x => a4 h.2.2.2.2.1)]
        · rw [if_neg a3, decide_eq_false (fun h : okNode x => a3 h.2.2.2.1)]
      · rw [if_neg a2, decide_eq_false (fun h : okNode x => a2 h.2.2.1)]
    · rw [if_neg a1]
      by_cases a0 : okDot x.f1.f0 x.f1.f1
      · rw [if_pos a0]
        by_cases a2 : ¬ (x.f1.f0 = x.f0.f0 ∧ x.f1.f1 = x.f0.f1)
        · rw [if_pos a2]
          by_cases a3 : x.f2 ≥ 1
          · rw [if_pos a3]
            by_cases a4 : x.f2 ≤ 4611686018427387904
            · rw [if_pos a4]
              by_cases a5 : x.f3 = 0
              · rw [if_pos a5, decide_eq_true (show okNode x from ⟨h1, .inr a0, a2, a3, a4, .inl a5⟩)]
              · rw [if_neg a5]
                congr 1
                exact decide_eq_decide.2 ⟨fun h => ⟨h1, .inr a0, a2, a3, a4, .inr h⟩, fun h => h.2.2.2.2.2.resolve_left a5⟩
            · rw [if_neg a4, decide_eq_false (fun h : okNode x => a4 h.2.2.2.2.1)]
          · rw [if_neg a3, decide_eq_false (fun h : okNode x => a3 h.2.2.2.1)]
        · rw [if_neg a2, decide_eq_false (fun h : okNode x => a2 h.2.2.1)]
      · rw [if_neg a0, decide_eq_false (fun h : okNode x => h.2.1.elim a1 a0)]
  · rw [decide_eq_false h1, if_neg (by simp), decide_eq_false (fun h => h1 h.1)]
theorem inv_f (k : Nat) (x : S38) : store_invalid.f (k + 1) x.f0.f0 x.f0.f1 x.f1.f0 x.f1.f1 x.f2 x.f3 = some (!decide (okNode x)) := by
  unfold store_invalid.f
  rw [node_f]
  rfl

/-- One dot stands before another one. -/
def before (a b : S36) : Prop := a.f1 < b.f1 ∨ (a.f1 = b.f1 ∧ a.f0 < b.f0)
instance (a b : S36) : Decidable (before a b) := by unfold before; infer_instance
theorem cmp_f (a b : Int) : cmp_Compare_int.f a b = some (if a < b then -1 else if b < a then 1 else 0) := by
  unfold cmp_Compare_int.f cmp_isNaN_int.f
  simp only [Option.bind_some, bne_self_eq_false, Bool.false_eq_true, if_false]
  split
  · rfl
  · split <;> rfl
theorem or_f (k : Nat) (a b : Int) : cmp_Or_int.f (k + 3) [a, b] = some (if a = 0 then b else a) := by
  unfold cmp_Or_int.f
  unfold cmp_Or_int.l0
  rw [if_pos (by simp), if_pos (by omega), if_pos (by simp)]
  rw [show wrap64 (0 + 1) = 1 by simp only [wrap64]; omega, show (([a, b].length : Nat) : Int) = 2 from rfl]
  have e0 : rd [a, b] 0 = a := rfl
  have e1 : rd [a, b] 1 = b := rfl
  rw [e0]
  by_cases h : a = 0
  · rw [if_pos h, if_pos h]
    unfold cmp_Or_int.l0
    rw [if_pos (by omega), if_pos (by omega), if_pos (by simp), e1]
    by_cases h2 : b = 0
    · rw [if_pos h2]
      rw [show wrap64 (1 + 1) = 2 by simp only [wrap64]; omega]
      unfold cmp_Or_int.l0
      rw [if_neg (by omega), h2]
    · rw [if_neg h2]
  · rw [if_neg h, if_neg h]
theorem compare_f (k : Nat) (a b : S36) : ∃ r, dot_Compare.f (k + 3) a.f0 a.f1 b.f0 b.f1 = some r ∧ (0 ≤ r ↔ ¬ before a b) := by
  unfold dot_Compare.f
  simp only [cmp_f, or_f, Option.bind_some]
  refine ⟨_, rfl, ?_⟩
  unfold before
  split <;> split <;> (try split) <;> (try split) <;> omega

theorem w64 {n : Int} (h0 : -9000000000000000000 ≤ n) (h1 : n ≤ 9000000000000000000) : wrap64 n = n := by simp only [wrap64]; omega
def Inc (ds : List S36) : Prop := ∀ j, j + 1 < ds.length → before (ds.getD j z36) (ds.getD (j + 1) z36)
theorem isset_l0 (ds : List S36) (hl : ds.length ≤ 1000000) : ∀ (m i : Nat), ds.length ≤ m + i → 1 ≤ i → (∀ j, j + 1 < i → j + 1 < ds.length → before (ds.getD j z36) (ds.getD (j + 1) z36)) →
    ∃ b, dot_IsSet.l0 (m + 4) ds (i : Int) = some b ∧ (b = true ↔ Inc ds)
  | m, i, hm, hi, hall => by
    by_cases h1 : i < ds.length
    · obtain ⟨m, rfl⟩ : ∃ m', m = m' + 1 := ⟨m - 1, by omega⟩
      unfold dot_IsSet.l0
      have e1 : wrap64 ((i : Int) - 1) = ((i - 1 : Nat) : Int) := by rw [w64 (by omega) (by omega)]; omega
      have e2 : wrap64 ((i : Int) + 1) = ((i + 1 : Nat) : Int) := by rw [w64 (by omega) (by omega)]; omega
      have r1 : rd_T36 ds ((i - 1 : Nat) : Int) = ds.getD (i - 1) z36 := by unfold rd_T36; rw [Int.toNat_natCast]
      have r2 : rd_T36 ds (i : Int) = ds.getD i z36 := by unfold rd_T36; rw [Int.toNat_natCast]
      rw [if_pos (by omega), e1, if_pos (by omega), if_pos (by omega), if_pos (by omega), r1, r2, e2]
      obtain ⟨r, hr, hb⟩ := compare_f (m + 1) (ds.getD (i - 1) z36) (ds.getD i z36)
      rw [show m + 4 = m + 1 + 3 by omega, hr]
      simp only [Option.bind_some]
      by_cases h2 : 0 ≤ r
      · rw [if_pos h2]
        refine ⟨false, rfl, ⟨fun h => absurd h (by simp), fun h => ?_⟩⟩
        have := h (i - 1) (by omega)
        rw [show i - 1 + 1 = i by omega] at this
        exact absurd this (hb.1 h2)
      · rw [if_neg h2]
        refine isset_l0 ds hl m (i + 1) (by omega) (by omega) (fun j hj hj2 => ?_)
        rcases Nat.lt_or_ge (j + 1) i with q | q
        · exact hall j q hj2
        · obtain rfl : j = i - 1 := by omega
          rw [show i - 1 + 1 = i by omega]
          exact Decidable.by_contra fun q => h2 (hb.2 q)
    · have : m + 4 = (m + 3) + 1 := rfl
      rw [this]
      unfold dot_IsSet.l0
      rw [if_neg (by omega)]
      exact ⟨true, rfl, ⟨fun _ j hj => hall j (by omega) hj, fun _ => rfl⟩⟩
theorem isset_f (ds : List S36) (hl : ds.length ≤ 1000000) : ∃ b, dot_IsSet.f (ds.length + 4) ds = some b ∧ (b = true ↔ Inc ds) := isset_l0 ds hl ds.length 1 (by omega) (by omega) (fun j hj => by omega)
theorem dots_l0 (xs : List S38) (hl : xs.length ≤ 1000000) : ∀ (m i : Nat) (pre : List S36), m + i = xs.length → pre = (xs.take i).map (fun x => x.f0) → store_dots.l0 (m + 1) pre xs (xs.length : Int) (i : Int) = some (xs.map (fun x => x.f0))
  | m, i, pre, hm, hp => by
    unfold store_dots.l0
    by_cases h1 : i < xs.length
    · obtain ⟨m, rfl⟩ : ∃ m', m = m' + 1 := ⟨m - 1, by omega⟩
      have hpl : pre.length = i := by rw [hp, List.length_map, List.length_take]; omega
      have e2 : wrap64 ((i : Int) + 1) = ((i + 1 : Nat) : Int) := by rw [w64 (by omega) (by omega)]; omega
      have r2 : rd_T38 xs (i : Int) = xs.getD i z38 := by unfold rd_T38; rw [Int.toNat_natCast]
      rw [if_pos (by omega), if_pos (by omega), if_pos (by omega), if_pos (by omega), r2, e2]
      refine dots_l0 xs hl m (i + 1) _ (by omega) ?_
      rw [hp, List.getD_eq_getElem?_getD, List.getElem?_eq_getElem h1]
      simp only [List.map_take]
      rw [List.take_add_one (l := List.map _ _), List.getElem?_map, List.getElem?_eq_getElem h1]
      rfl
    · rw [if_neg (by omega), hp, List.take_of_length_le (by omega)]
theorem dots_f (xs : List S38) (hl : xs.length ≤ 1000000) : store_dots.f (xs.length + 1) xs = some (xs.map (fun x => x.f0)) := dots_l0 xs hl xs.length 0 [] rfl rfl

/-- A state that is a store. -/
def StoreOk (xs : List S38) : Prop := (∀ j, j < xs.length → okNode (xs.getD j z38)) ∧ ∀ j, j + 1 < xs.length → before (xs.getD j z38).f0 (xs.getD (j + 1) z38).f0
theorem storeOk_iff (xs : List S38) : StoreOk xs ↔ (∀ x ∈ xs, okNode x) ∧ Inc (xs.map (fun x => x.f0)) := by
  have hg : ∀ j, j < xs.length → (xs.map (fun x => x.f0)).getD j z36 = (xs.getD j z38).f0 := fun j hj => by
    rw [List.getD_eq_getElem?_getD, List.getElem?_map, List.getD_eq_getElem?_getD, List.getElem?_eq_getElem hj]
    rfl
  constructor
  · rintro ⟨h1, h2⟩
    refine ⟨fun x hx => ?_, fun j hj => ?_⟩
    · obtain ⟨j, hj, rfl⟩ := List.getElem_of_mem hx
      have := h1 j hj
      rwa [List.getD_eq_getElem?_getD, List.getElem?_eq_getElem hj] at this
    · rw [List.length_map] at hj
      rw [hg j (by omega), hg (j + 1) hj]
      exact h2 j hj
  · rintro ⟨h1, h2⟩
    refine ⟨fun j hj => ?_, fun j hj => ?_⟩
    · rw [List.getD_eq_getElem?_getD, List.getElem?_eq_getElem hj]
      exact h1 _ (List.getElem_mem hj)
    · have := h2 j (by rw [List.length_map]; exact hj)
      rwa [hg j (by omega), hg (j + 1) hj] at this
end Go.Proofs.Ytfbjbajbjlcjfaa.Cn

/- Layer 17, plain law: the bytes of a state. -/
namespace Go.Proofs.Ytfbjbajbjlcjfaa.Cn
open Go Go.RowKit Go.Proofs.Ytfbjbajbjlcjfaa.Vn Go.Proofs.Ytfbjbajbjlcjfaa.PCanonStates Go.Proofs.YtfbjbajbjlcjfaaW.PrintWords
set_option linter.unusedSimpArgs false
set_option linter.unusedVariables false

theorem rnum_l0 : ∀ (j n : Nat) (pre : List Int), n < 128 ^ (j + 1) → n < 18446744073709551616 → pre.length + j < 100000 → ∀ d, redpencilref17_Number.l0 (j + 1 + d) n pre = some (pre ++ enc n)
  | j, n, pre, h, h6, hl, d => by
    rw [show j + 1 + d = (j + d) + 1 by omega]
    unfold redpencilref17_Number.l0
    have h3 : pre.length < 140737488355328 := by omega
    by_cases q : n < 128
    · rw [if_neg (by omega), if_pos h3, enc_lt q, show ((n : Int) % 256) = n by omega]
    · rw [if_pos (by omega), if_pos h3]
      cases j with
      | zero => exact absurd h (by simpa using q)
      | succ j =>
        have e1 : IntKind.u64.wrap (Int.tdiv (n : Int) 128) = ((n / 128 : Nat) : Int) := by
          rw [Int.tdiv_eq_ediv_of_nonneg (by omega), wrapu]; omega
        have e2 : IntKind.u64.wrap (Int.tmod (n : Int) 128 + 128) % 256 = ((n % 128 : Nat) : Int) + 128 := by
          rw [Int.tmod_eq_emod_of_nonneg (by omega), wrapu]; omega
        rw [e1, e2, rnum_l0 j (n / 128) _ (by rw [Nat.pow_succ] at h; omega) (by omega) (by simp; omega) d, enc_ge q]
        simp
theorem rnum_f (n : Int) (h0 : 0 ≤ n) (h1 : n < 18446744073709551616) (d : Nat) : redpencilref17_Number.f (10 + d) n = some (enc n.toNat) := by
  unfold redpencilref17_Number.f
  obtain ⟨m, rfl⟩ : ∃ m : Nat, n = m := ⟨n.toNat, by omega⟩
  rw [Int.toNat_natCast]
  exact rnum_l0 9 m [] (by omega) (by omega) (by simp) d
theorem w32 {n : Int} (h0 : -2000000000 ≤ n) (h1 : n ≤ 2000000000) : wrap32 n = n := by simp only [wrap32]; omega
/-- The bytes of a node behind one with a counter, of nodes, of a text, of a state. -/
def whenOf (x : S38) : Int := 2 * x.f2 + if x.f3 = 0 then 1 else 0
def headBs (last : Int) (x : S38) : List Int := enc x.f0.f0.toNat ++ enc (x.f0.f1 - last).toNat ++ enc x.f1.f0.toNat
def parBs (x : S38) : List Int := if x.f1.f0 = 0 then [] else enc x.f1.f1.toNat
def nodeBs (last : Int) (x : S38) : List Int := headBs last x ++ parBs x ++ enc (whenOf x).toNat
def nodesBs : Int → List S38 → List Int
  | _, [] => []
  | last, x :: xs => nodeBs last x ++ nodesBs x.f0.f1 xs
def textOf (xs : List S38) : List Int := (xs.map (fun x => x.f3)).filter (fun r => r != 0)
def utf8 (rs : List Int) : List Int := rs.flatMap Lib.encodeRuneZ
def canonBs (xs : List S38) : List Int := enc xs.length ++ nodesBs 0 xs ++ (enc (utf8 (textOf xs)).length ++ utf8 (textOf xs))
theorem rune_len (r : Int) : (Lib.encodeRuneZ r).length ≤ 4 := by unfold Lib.encodeRuneZ; split <;> (try split) <;> (try split) <;> (try split) <;> simp
theorem utf8_len : ∀ rs : List Int, (utf8 rs).length ≤ 4 * rs.length
  | [] => by simp [utf8]
  | r :: rs => by
    have := utf8_len rs
    have := rune_len r
    show (Lib.encodeRuneZ r ++ utf8 rs).length ≤ _
    rw [List.length_append, List.length_cons]
    omega
theorem nodeBs_len (last : Int) (x : S38) (h : okNode x) (hl : 0 ≤ last) (hl2 : last ≤ x.f0.f1) : (nodeBs last x).length ≤ 50 := by
  obtain ⟨⟨a1, a2, a3, a4⟩, hp, _, t1, t2, _⟩ := h
  have b1 := enc_length64 (n := x.f0.f0.toNat) (by omega)
  have b2 := enc_length64 (n := (x.f0.f1 - last).toNat) (by omega)
  have b3 := enc_length64 (n := x.f1.f0.toNat) (by rcases hp with ⟨q, _⟩ | ⟨_, q, _⟩ <;> omega)
  have b4 := enc_length64 (n := x.f1.f1.toNat) (by rcases hp with ⟨_, q⟩ | ⟨_, _, _, q⟩ <;> omega)
  have b5 := enc_length64 (n := (whenOf x).toNat) (by unfold whenOf; split <;> omega)
  have b6 : (parBs x).length ≤ 10 := by unfold parBs; split <;> first | exact b4 | simp
  unfold nodeBs headBs
  simp only [List.length_append]
  omega
end Go.Proofs.Ytfbjbajbjlcjfaa.Cn

namespace Go.Proofs.Ytfbjbajbjlcjfaa.Cn
open Go Go.RowKit Go.Proofs Go.Proofs.Ytfbjbajbjlcjfaa.Vn Go.Proofs.Ytfbjbajbjlcjfaa.Kit Go.Proofs.Ytfbjbajbjlcjfaa.PCanonStates Go.Proofs.YtfbjbajbjlcjfaaW.PrintWords
set_option linter.unusedSimpArgs false
set_option linter.unusedVariables false

/-- A value, and nothing of the caller's was written. -/
def BeP (v : Value) (w : World) (en : Ending) (w' : World) : Prop := en = .returned v ∧ Below w.heap.size w w'
/-- The first place at which a list is not of a kind, or -1. -/
def Fst {α : Type} (p : α → Prop) (z : α) (xs : List α) (r : Int) : Prop := (∃ e : Nat, r = e ∧ e < xs.length ∧ ¬ p (xs.getD e z) ∧ ∀ j, j < e → p (xs.getD j z)) ∨ (r = -1 ∧ ∀ j, j < xs.length → p (xs.getD j z))
theorem fst_total {α : Type} (p : α → Prop) [∀ a, Decidable (p a)] (z : α) (xs : List α) : ∃ r, Fst p z xs r := by
  have : ∀ m, m ≤ xs.length → (∃ e, e < m ∧ ¬ p (xs.getD e z) ∧ ∀ j, j < e → p (xs.getD j z)) ∨ ∀ j, j < m → p (xs.getD j z) := by
    intro m
    induction m with
    | zero => exact fun _ => .inr fun j hj => by omega
    | succ m ih =>
      intro hm
      rcases ih (by omega) with ⟨e, h1, h2, h3⟩ | h
      · exact .inl ⟨e, by omega, h2, h3⟩
      · by_cases q : p (xs.getD m z)
        · exact .inr fun j hj => by
            rcases Nat.lt_or_ge j m with q2 | q2
            · exact h j q2
            · obtain rfl : j = m := by omega
              exact q
        · exact .inl ⟨m, by omega, q, h⟩
  rcases this xs.length (Nat.le_refl _) with ⟨e, h1, h2, h3⟩ | h
  · exact ⟨e, .inl ⟨e, rfl, h1, h2, h3⟩⟩
  · exact ⟨-1, .inr ⟨rfl, h⟩⟩
theorem fst_at {α : Type} {p : α → Prop} {z : α} {xs : List α} {r : Int} (h : Fst p z xs r) {k : Nat} (hk : k < xs.length) (hn : ¬ p (xs.getD k z)) (hall : ∀ j, j < k → p (xs.getD j z)) : r = k := by
  rcases h with ⟨e, rfl, h1, h2, h3⟩ | ⟨_, h2⟩
  · rcases Nat.lt_trichotomy e k with q | q | q
    · exact absurd (hall e q) h2
    · rw [q]
    · exact absurd (h3 k q) hn
  · exact absurd (h2 k hk) hn
theorem fst_end {α : Type} {p : α → Prop} {z : α} {xs : List α} {r : Int} (h : Fst p z xs r) (hall : ∀ j, j < xs.length → p (xs.getD j z)) : r = -1 := by
  rcases h with ⟨e, rfl, h1, h2, h3⟩ | ⟨h1, _⟩
  · exact absurd (hall e h1) h2
  · exact h1
theorem inv_any (x : S38) (w : World) : Calls Try.prog 44 #[.agg #[.int .i64 x.f0.f0, .int .i64 x.f0.f1, .int .i64 x.f1.f0, .int .i64 x.f1.f1, .int .i64 x.f2, .int .i32 x.f3]] w (BeP (.bool (!decide (okNode x))) w) :=
  (store_invalid.calls 1 _ _ _ _ _ _ _ w (inv_f 0 x)).mono fun _ _ h => h
set_option maxHeartbeats 4000000 in
theorem idxN_any (A : Option Addr) (c : Nat) (xs : List S38) (r : Int) (w : World) (hx : k38.C w A xs.length xs) (h : Fst okNode z38 xs r) :
    Calls Try.prog 58 #[.slice A xs.length c, .func (.func 44) #[] #[]] w (BeP (.int .i64 r) w) := by
  have lx : xs.length ≤ 9223372036854775807 := hx.2.1
  have HX := Lib.hid hx
  have H := Lib.hid h
  clear hx h
  go_enter Try.func58, Try.ntmps58
  go_wp2
  go_loopw [8] (fun i wr => ∃ k : Nat, k ≤ xs.length ∧ i = .int .i64 k ∧ (∀ j, j < k → okNode (xs.getD j z38)) ∧ Below w.heap.size w wr) (fun i _ => (xs.length : Int).toNat - (intOf i).toNat)
  case atStart => exact ⟨0, by omega, rfl, fun j hj => by omega, Below.refl _ _⟩
  case round =>
    obtain ⟨k, hk, rfl, hall, hB⟩ := hrel
    have HA := Lib.hid hall
    have KB := Lib.hid hB
    clear hall hB
    by_cases hlt : k < xs.length
    · obtain ⟨ad, eA, q0, q1, q2, q3, q4, q5⟩ := at_T38 (Kd.C_below HX.out KB.out) (k : Int) (by omega) (by omega)
      subst eA
      have hrd : rd_T38 xs (k : Int) = xs.getD k z38 := by unfold rd_T38; rw [Int.toNat_natCast]
      rw [hrd, Int.toNat_natCast] at q0 q1 q2 q3 q4 q5
      have hfa := fun (q : ¬ okNode (xs.getD k z38)) => fst_at H.out hlt q HA.out
      have FA := Lib.hid hfa
      clear hfa
      generalize hx : xs.getD k z38 = x at *
      have X := Lib.hid hx
      clear hx hrd
      by_cases hq : okNode x
      · have hd : (!decide (okNode x)) = false := by rw [decide_eq_true hq]; rfl
        have IV := Lib.hid (inv_any x)
        rw [hd] at IV
        go_wp2_with (go_at_call 44; refine (IV.out _).mono ?_; rintro en w1 ⟨rfl, hb⟩; have KB := Lib.hid (below_step KB.out hb); clear hb)
        go_roundw
        case rel => exact ⟨k + 1, by omega, by go_num, fun j hj => by
          rcases Nat.lt_or_ge j k with q | q
          · exact HA.out j q
          · obtain rfl : j = k := by omega
            rw [X.out]; exact hq, KB.out⟩
        case measure => simp [intOf]; omega
      · have hd : (!decide (okNode x)) = true := by rw [decide_eq_false hq]; rfl
        have IV := Lib.hid (inv_any x)
        rw [hd] at IV
        have hr := FA.out hq
        subst hr
        go_wp2_with (go_at_call 44; refine (IV.out _).mono ?_; rintro en w1 ⟨rfl, hb⟩; have KB := Lib.hid (below_step KB.out hb); clear hb)
        go_ret
        exact ⟨rfl, KB.out⟩
    · obtain rfl : k = xs.length := by omega
      have hr := fst_end H.out HA.out
      subst hr
      go_wp2
      go_ret
      exact ⟨rfl, KB.out⟩
theorem conN_any (A : Option Addr) (c : Nat) (xs : List S38) (b : Bool) (w : World) (hx : k38.C w A xs.length xs) (h : b = true ↔ ¬ ∀ x ∈ xs, okNode x) :
    Calls Try.prog 43 #[.slice A xs.length c, .func (.func 44) #[] #[]] w (BeP (.bool b) w) := by
  obtain ⟨r, hr⟩ := fst_total okNode z38 xs
  have hb : b = decide (0 ≤ r) := by
    rcases hr with ⟨e, rfl, h1, h2, h3⟩ | ⟨rfl, h2⟩
    · rw [decide_eq_true (by omega)]
      refine h.2 fun q => h2 ?_
      rw [List.getD_eq_getElem?_getD, List.getElem?_eq_getElem h1]
      exact q _ (List.getElem_mem h1)
    · rw [decide_eq_false (by omega)]
      refine Bool.eq_false_iff.2 fun q => h.1 q fun x hx => ?_
      obtain ⟨j, hj, rfl⟩ := List.getElem_of_mem hx
      have := h2 j hj
      rwa [List.getD_eq_getElem?_getD, List.getElem?_eq_getElem hj] at this
  have HX := Lib.hid hx
  have HR := Lib.hid hr
  clear hx hr h
  subst hb
  go_enter Try.func43, Try.ntmps43
  go_wp2_with (go_at_call 58; refine (idxN_any A c xs r _ HX.out HR.out).mono ?_; rintro en w1 ⟨rfl, hb⟩; have KB := Lib.hid hb; clear hb)
  go_ret
  exact ⟨rfl, KB.out⟩
theorem dots_any (A : Option Addr) (c : Nat) (xs : List S38) (w : World) (hx : k38.C w A xs.length xs) (hc : xs.length ≤ c) (hl : xs.length ≤ 1000000) : Calls Try.prog 46 #[.slice A xs.length c] w fun en w' => ∃ A' c', en = .returned (.slice A' (xs.map (fun x => x.f0)).length c') ∧ k36.C w' A' (xs.map (fun x => x.f0)).length (xs.map (fun x => x.f0)) ∧ (xs.map (fun x => x.f0)).length ≤ c' ∧ Below w.heap.size w w' := by
  refine (store_dots.calls _ A c xs _ w hx hc (dots_f xs hl)).mono ?_
  rintro en w' ⟨v, rfl, hr, hb⟩
  obtain ⟨A', c', rfl, h1, h2⟩ := Kd.R_reads hr
  exact ⟨A', c', rfl, h2, h1, hb⟩
theorem dots_d {ds : List S36} (A : Option Addr) (c : Nat) (xs : List S38) (hd : xs.map (fun x => x.f0) = ds) (w : World) (hx : k38.C w A xs.length xs) (hc : xs.length ≤ c) (hl : xs.length ≤ 1000000) : Calls Try.prog 46 #[.slice A xs.length c] w fun en w' => ∃ A' c', en = .returned (.slice A' ds.length c') ∧ k36.C w' A' ds.length ds ∧ ds.length ≤ c' ∧ Below w.heap.size w w' := by
  subst hd
  exact dots_any A c xs w hx hc hl
set_option maxHeartbeats 2000000 in
theorem svalid_any (A : Option Addr) (c : Nat) (xs : List S38) (b : Bool) (w : World) (hx : k38.C w A xs.length xs) (hc : xs.length ≤ c) (hl : xs.length ≤ 1000000) (h : b = true ↔ StoreOk xs) :
    Calls Try.prog 35 #[.slice A xs.length c] w (BeP (.bool b) w) := by
  obtain ⟨b2, h1, h2⟩ := isset_f (xs.map (fun x => x.f0)) (by rw [List.length_map]; exact hl)
  rw [storeOk_iff] at h
  have DD := Lib.hid (fun ds hd w hx => dots_d (ds := ds) A c xs hd w hx hc hl)
  generalize hds : xs.map (fun x => x.f0) = ds at *
  have HDS := Lib.hid hds
  clear hds
  have HX := Lib.hid hx
  have HC := Lib.hid hc
  have HL := Lib.hid hl
  have H1 := Lib.hid h1
  by_cases hq : ∀ x ∈ xs, okNode x
  · have hbb : b = b2 := by
      cases b2 with
      | true => exact h.2 ⟨hq, h2.1 rfl⟩
      | false => exact Bool.eq_false_iff.2 fun q => by have := h2.2 (h.1 q).2; cases this
    subst hbb
    have CN := Lib.hid (fun (w : World) hx => conN_any A c xs false w hx ⟨fun q => absurd q (by simp), fun q => absurd hq q⟩)
    clear hx hc hl h1 h2 h hq
    go_enter Try.func35, Try.ntmps35
    go_wp2_with (first | (go_at_call 43; refine (CN.out _ HX.out).mono ?_; rintro en w1 ⟨rfl, hb⟩; have KB := Lib.hid hb; clear hb) | (go_at_call 46; refine (DD.out ds rfl _ (Kd.C_below HX.out KB.out)).mono ?_; rintro en w2 ⟨A2, c2, rfl, hC, hc2, hb⟩; have KB := Lib.hid (below_step KB.out hb); have C2 := Lib.hid (And.intro hC hc2); clear hb hC hc2) | (go_at_call 45; refine (dot_IsSet.calls _ A2 c2 ds b _ C2.out.1 C2.out.2 H1.out).mono ?_; rintro en w3 ⟨rfl, hb⟩; have KB := Lib.hid (below_step KB.out hb); clear hb))
    go_ret
    exact ⟨rfl, KB.out⟩
  · have hbb : b = false := Bool.eq_false_iff.2 fun q => hq (h.1 q).1
    subst hbb
    have CN := Lib.hid (fun (w : World) hx => conN_any A c xs true w hx (by simp only [true_iff]; exact hq))
    clear hx hc hl h1 h2 h hq
    go_enter Try.func35, Try.ntmps35
    go_wp2_with (first | (go_at_call 43; refine (CN.out _ HX.out).mono ?_; rintro en w1 ⟨rfl, hb⟩; have KB := Lib.hid hb; clear hb))
    go_ret
    exact ⟨rfl, KB.out⟩
end Go.Proofs.Ytfbjbajbjlcjfaa.Cn

/- Layer 17, walks: runes and their bytes. -/
namespace Go.Proofs.Ytfbjbajbjlcjfaa.Cn
open Go Go.RowKit Go.Proofs Go.Proofs.Ytfbjbajbjlcjfaa.Vn Go.Proofs.Ytfbjbajbjlcjfaa.Kit Go.Proofs.Ytfbjbajbjlcjfaa.PCanonStates Go.Proofs.YtfbjbajbjlcjfaaW.PrintWords
set_option linter.unusedSimpArgs false
set_option linter.unusedVariables false

abbrev k32 : Kd Int := Kd.int .i32
theorem str_app (a b : List Int) : strOfNums (a ++ b) = strOfNums a ++ strOfNums b := by
  apply ByteArray.ext
  simp [strOfNums, ByteArray.data_append]
theorem enc_str (r : Int) (h : okRune r) : Utf8.encode r = strOfNums (Lib.encodeRuneZ r) := by
  obtain ⟨h1, h2, h3⟩ := h
  obtain ⟨n, rfl⟩ : ∃ n : Nat, r = n := ⟨r.toNat, by omega⟩
  have hv : Utf8.valid (n : Int) = true := by unfold Utf8.valid; simp; omega
  unfold Utf8.encode
  rw [hv]
  simp only [if_true, Int.toNat_natCast]
  by_cases q1 : n < 128
  · rw [if_pos q1, Lib.encodeRuneZ_one (by omega) (by omega)]
    simp [strOfNums]
  · rw [if_neg q1]
    by_cases q2 : n < 2048
    · rw [if_pos q2, Lib.encodeRuneZ_two (by omega) (by omega)]
      have e1 : (192 + (n : Int) / 64).toNat = 192 + n / 64 := by omega
      have e2 : (128 + (n : Int) % 64).toNat = 128 + n % 64 := by omega
      simp [strOfNums, e1, e2]
    · rw [if_neg q2]
      by_cases q3 : n < 65536
      · rw [if_pos q3, Lib.encodeRuneZ_three (by omega)]
        have e1 : (224 + (n : Int) / 4096).toNat = 224 + n / 4096 := by omega
        have e2 : (128 + (n : Int) / 64 % 64).toNat = 128 + n / 64 % 64 := by omega
        have e3 : (128 + (n : Int) % 64).toNat = 128 + n % 64 := by omega
        simp [strOfNums, e1, e2, e3]
      · rw [if_neg q3, Lib.encodeRuneZ_four (by omega) (by omega)]
        have e0 : (240 + (n : Int) / 262144).toNat = 240 + n / 262144 := by omega
        have e1 : (128 + (n : Int) / 4096 % 64).toNat = 128 + n / 4096 % 64 := by omega
        have e2 : (128 + (n : Int) / 64 % 64).toNat = 128 + n / 64 % 64 := by omega
        have e3 : (128 + (n : Int) % 64).toNat = 128 + n % 64 := by omega
        simp [strOfNums, e0, e1, e2, e3]
theorem fold_str : ∀ (rs : List Int) (s : ByteArray), (∀ r ∈ rs, okRune r) → rs.foldl (fun r n => r ++ Utf8.encode n) s = s ++ strOfNums (utf8 rs)
  | [], s, _ => by
    apply ByteArray.ext
    simp [strOfNums, utf8, ByteArray.data_append]
  | r :: rs, s, h => by
    show rs.foldl _ (s ++ Utf8.encode r) = _
    rw [fold_str rs _ (fun x hx => h x (List.mem_cons_of_mem _ hx)), enc_str r (h r List.mem_cons_self)]
    show _ = s ++ strOfNums (Lib.encodeRuneZ r ++ utf8 rs)
    rw [str_app, ByteArray.append_assoc]
theorem runes_str (rs : List Int) (h : ∀ r ∈ rs, okRune r) : runesBytes rs = strOfNums (utf8 rs) := by
  unfold runesBytes
  rw [fold_str rs _ h]
  apply ByteArray.ext
  simp [ByteArray.data_append]
theorem conv32 {w : World} {A : Option Addr} {c : Nat} {rs : List Int} (hx : k32.C w A rs.length rs) (h : ∀ r ∈ rs, okRune r) : (convert 70 9 (.slice A rs.length c)).run Try.prog w = .ok (.string (strOfNums (utf8 rs))) w := by
  rcases A with _ | ad
  · obtain rfl := C_none hx
    exact run_convert_runes_nil w 70 9 21 _ _ Try.underlying70 Try.underlying21 Try.underlying9
  · have := run_convert_runes (P := Try.prog) w 70 9 21 ad rs.length c rs (Nat.le_refl _) Try.underlying70 Try.underlying21 Try.underlying9 (fun j hj => by
      obtain ⟨ad', e, q⟩ := Vn.at_int hx (j : Int) (by omega) (by omega)
      injection e with e
      subst e
      rw [Int.toNat_natCast] at q
      exact q)
    rw [List.take_length, runes_str rs h] at this
    exact this
theorem rvalid_any (r : Int) (w : World) : Calls Try.prog 51 #[.int .i32 r] w (BeP (.bool (decide (okRune r))) w) := by
  refine (runes_Valid.calls 1 r _ w (rune_f 0 r)).mono ?_
  rintro en w' ⟨rfl, hd⟩
  obtain ⟨n, rfl⟩ := hd.out
  exact ⟨rfl, pw_below_drewN (Below.refl _ _) n⟩
theorem litR_any (r : Int) (h : okRune r) (w : World) : Calls Try.prog 50 #[.int .i32 r] w (BeP (.bool false) w) := by
  have RV := Lib.hid (rvalid_any r)
  rw [decide_eq_true h] at RV
  clear h
  go_enter Try.func50, Try.ntmps50
  go_wp2_with (go_at_call 51; refine (RV.out _).mono ?_; rintro en w1 ⟨rfl, hb⟩; have KB := Lib.hid hb; clear hb)
  go_ret
  exact ⟨rfl, KB.out⟩
set_option maxHeartbeats 2000000 in
theorem idxR_ok (A : Option Addr) (c : Nat) (rs : List Int) (w : World) (hx : k32.C w A rs.length rs) (h : ∀ r ∈ rs, okRune r) :
    Calls Try.prog 61 #[.slice A rs.length c, .func (.func 50) #[] #[]] w (BeP (.int .i64 (-1)) w) := by
  have lx : rs.length ≤ 9223372036854775807 := hx.2.1
  have HX := Lib.hid hx
  have H := Lib.hid h
  clear hx h
  go_enter Try.func61, Try.ntmps61
  go_wp2
  go_loopw [8] (fun i wr => ∃ k : Nat, k ≤ rs.length ∧ i = .int .i64 k ∧ Below w.heap.size w wr) (fun i _ => (rs.length : Int).toNat - (intOf i).toNat)
  case atStart => exact ⟨0, by omega, rfl, Below.refl _ _⟩
  case round =>
    obtain ⟨k, hk, rfl, hB⟩ := hrel
    have KB := Lib.hid hB
    clear hB
    by_cases hlt : k < rs.length
    · obtain ⟨ad, eA, q0⟩ := Vn.at_int (Kd.C_below HX.out KB.out) (k : Int) (by omega) (by omega)
      subst eA
      rw [Int.toNat_natCast] at q0
      have hm := H.out _ (mem_getD hlt)
      generalize rs.getD k 0 = r at *
      have LR := Lib.hid (litR_any r hm)
      clear hm
      go_wp2_with (go_at_call 50; refine (LR.out _).mono ?_; rintro en w1 ⟨rfl, hb⟩; have KB := Lib.hid (below_step KB.out hb); clear hb)
      go_roundw
      case rel => exact ⟨k + 1, by omega, by go_num, KB.out⟩
      case measure => simp [intOf]; omega
    · go_wp2
      go_ret
      exact ⟨rfl, KB.out⟩
theorem conR_ok (A : Option Addr) (c : Nat) (rs : List Int) (w : World) (hx : k32.C w A rs.length rs) (h : ∀ r ∈ rs, okRune r) :
    Calls Try.prog 49 #[.slice A rs.length c, .func (.func 50) #[] #[]] w (BeP (.bool false) w) := by
  have IX := Lib.hid (idxR_ok A c rs w hx h)
  clear hx h
  go_enter Try.func49, Try.ntmps49
  go_wp2_with (go_at_call 61; refine IX.out.mono ?_; rintro en w1 ⟨rfl, hb⟩; have KB := Lib.hid hb; clear hb)
  go_ret
  exact ⟨rfl, KB.out⟩
theorem rencode_ok (A : Option Addr) (c : Nat) (rs : List Int) (w : World) (hx : k32.C w A rs.length rs) (h : ∀ r ∈ rs, okRune r) :
    Calls Try.prog 37 #[.slice A rs.length c] w (BeP (.tuple #[.string (strOfNums (utf8 rs)), .int .i64 0]) w) := by
  have CR := Lib.hid (conR_ok A c rs w hx h)
  have HX := Lib.hid hx
  have H := Lib.hid h
  clear hx h
  go_enter Try.func37, Try.ntmps37
  go_wp2_with (go_at_call 49; refine CR.out.mono ?_; rintro en w1 ⟨rfl, hb⟩; have hq := conv32 (c := c) (Kd.C_below HX.out hb) H.out; have KB := Lib.hid hb; clear hb)
  go_ret2
  exact ⟨rfl, KB.out⟩
end Go.Proofs.Ytfbjbajbjlcjfaa.Cn

/- Layer 17, walks: canon.Encode on stores. -/
namespace Go.Proofs.Ytfbjbajbjlcjfaa.Cn
open Go Go.RowKit Go.Proofs Go.Proofs.Ytfbjbajbjlcjfaa.Vn Go.Proofs.Ytfbjbajbjlcjfaa.Kit Go.Proofs.Ytfbjbajbjlcjfaa.PCanonStates Go.Proofs.YtfbjbajbjlcjfaaW.PrintWords
set_option linter.unusedSimpArgs false
set_option linter.unusedVariables false

theorem info32 : (Try.prog.info? 21).map (fun i => (i.zero, i.size, i.bytes)) = some (some (.int .i32 0), 1, 4) := by kernel_rfl
/-- A row of runes that is none of the writer's. -/
def Tx (w0 w : World) (g : Nat) (v u : Value) (zs : List Int) : Prop := k32.R 21 w w0.heap.size (fun j => w0.heap.size ≤ j ∧ j ≠ g ∧ some j ≠ v.ownBlock) u zs
section
variable {w0 w w1 : World} {g : Nat} {v v1 u : Value} {xs zs : List Int}
theorem Tx.below (h : Tx w0 w g v u zs) (hb : Below w.heap.size w w1) : Tx w0 w1 g v u zs := Kd.R_below h hb
theorem Tx.fresh (hW : Wr w0 w g v xs) : ∀ k, w.heap.size ≤ k → w0.heap.size ≤ k ∧ k ≠ g ∧ some k ≠ v.ownBlock := fun k hk =>
  ⟨Nat.le_trans hW.bel.size hk, Nat.ne_of_gt (Nat.lt_of_lt_of_le (blk_lt hW.own) hk), fun e => by have := Kd.R_lt hW.row k e.symm; omega⟩
theorem Tx.wr (h : Tx w0 w g v u zs) (hW : Wr w0 w g v xs) (hg : w.grownBy w1 u.ownBlock) : Wr w0 w1 g v xs :=
  hW.frame (Fr.grown hg) (fun e => (h.1 g e.symm).2.1 rfl) (fun j hj e => (h.1 j e.symm).2.2 hj.symm) (fun i e => Kd.R_base h i e.symm)
theorem Tx.nil : Tx w0 w g v (.slice none 0 0) [] := Kd.R_nil _ _ _ _ _
theorem Tx.wrote (h : Tx w0 w g v u zs) (hS : WrS w w1 g v v1) : Tx w0 w1 g v1 u zs := by
  have h2 := Fr.row rfl hS.1 h (fun j hj q => by
    have := h.1 j hj
    rcases q with q | q
    · exact this.2.1 q
    · exact this.2.2 q)
  refine Kd.R_mono (Kd.R_tight rfl h2) (fun k hk => ?_)
  have h3 := h.1 k hk.symm
  refine ⟨h3.1, h3.2.1, fun e => ?_⟩
  rcases hS.2 with q | ⟨b, q, hb⟩
  · exact h3.2.2 (e.trans q)
  · rw [q] at e
    injection e with e
    have := Kd.R_lt h k hk.symm
    omega
end
/-- What the writer owns is not a block. -/
theorem vlt_step {w w1 : World} {g g6 : Nat} {v v1 : Value} (h : some g6 ≠ v.ownBlock) (hS : WrS w w1 g v v1) (hg : g6 < w.heap.size) : some g6 ≠ v1.ownBlock := by
  rcases hS.2 with q | ⟨b, q, hb⟩
  · rw [q]; exact h
  · rw [q]; intro e; injection e with e; omega
theorem wnum_lit (ns : List Int) {n : Nat} {cs : Array Value} (t : TypeId) (hn : ns.length = n) (hcs : cs = (ns.map (fun x => Value.int .u64 x)).toArray) (hl : ns.length ≤ 10) (w0 w : World) (g : Nat) (v : Value) (xs : List Int) (h : Wr w0 w g v xs) (hu : U64 ns) (hx : xs.length ≤ 100000000) :
    Calls Try.prog 36 #[.pointer (some ⟨g, 0, none⟩), .slice (some ⟨w.heap.size, 0, none⟩) n n] (w.alloc (.cells cs t)) (WrP w0 w g v (xs ++ Vn.encs ns)) := by
  have hb : Below w.heap.size w (w.alloc (.cells cs t)) := below_alloc (Below.refl _ _) _
  have hC : (Kd.int .u64).C (w.alloc (.cells cs t)) (some ⟨w.heap.size, 0, none⟩) n ns := by
    subst hn
    subst hcs
    refine ⟨rfl, by omega, fun _ => ⟨_, rfl, fun j p hj => ?_⟩⟩
    refine ⟨[.int .u64 p], rfl, rfl, fun i u hu => ?_⟩
    rw [add_plain, blk_cell (blk_new w _)]
    cases i with
    | zero =>
      have hu : Value.int .u64 p = u := by simpa [Kd.int, Kd.scalar] using hu
      subst hu
      have : j * (Kd.int .u64).sz = j := by show j * 1 = j; omega
      simp [this, hj]
    | succ i => simp at hu
  subst hn
  refine (wnum_any w0 _ g v xs _ _ ns (h.below hb) hC hu (off_new h _) (by omega)).mono ?_
  rintro en w' ⟨rfl, v', hW, hS⟩
  exact ⟨rfl, v', hW, (wr_of_below hb).then hS⟩
theorem bys_str {xs : List Int} (h : Bys xs) : bytesOf (strOfNums xs) = xs := by
  unfold bytesOf strOfNums
  rw [List.toList_toArray, List.map_map]
  refine (List.map_congr_left fun x hx => ?_).trans (List.map_id xs)
  have := h x hx
  show ((UInt8.ofNat x.toNat).toNat : Int) = x
  rw [UInt8.toNat_ofNat']
  omega
theorem utf8_bys (rs : List Int) : Bys (utf8 rs) := fun x hx => by
  obtain ⟨r, _, hr⟩ := List.mem_flatMap.1 hx
  have := Lib.encodeRuneZ_byte r x hr
  omega
/-- The counter of the node before. -/
def lastOf (xs : List S38) (k : Nat) : Int := if k = 0 then 0 else (xs.getD (k - 1) z38).f0.f1
theorem nodesBs_snoc : ∀ (l : Int) (xs : List S38) (x : S38), nodesBs l (xs ++ [x]) = nodesBs l xs ++ nodeBs (xs.foldl (fun _ y => y.f0.f1) l) x
  | l, [], x => by simp [nodesBs]
  | l, y :: xs, x => by
    show nodeBs l y ++ nodesBs y.f0.f1 (xs ++ [x]) = nodeBs l y ++ nodesBs y.f0.f1 xs ++ _
    rw [nodesBs_snoc, List.append_assoc]
    rfl
theorem take_s {xs : List S38} {k : Nat} (h : k < xs.length) : xs.take (k + 1) = xs.take k ++ [xs.getD k z38] := by
  rw [List.getD_eq_getElem?_getD, List.getElem?_eq_getElem h, List.take_add_one, List.getElem?_eq_getElem h]
  rfl
theorem last_fold (xs : List S38) : ∀ k, k ≤ xs.length → (xs.take k).foldl (fun _ y => y.f0.f1) 0 = lastOf xs k
  | 0, _ => rfl
  | k + 1, hk => by
    rw [take_s (by omega), List.foldl_append]
    show (xs.getD k z38).f0.f1 = _
    unfold lastOf
    rw [if_neg (by omega)]
    rfl
theorem nodes_take {xs : List S38} {k : Nat} (h : k < xs.length) : nodesBs 0 (xs.take (k + 1)) = nodesBs 0 (xs.take k) ++ nodeBs (lastOf xs k) (xs.getD k z38) := by
  rw [take_s h, nodesBs_snoc, last_fold xs k (by omega)]
theorem text_take {xs : List S38} {k : Nat} (h : k < xs.length) : textOf (xs.take (k + 1)) = textOf (xs.take k) ++ (if (xs.getD k z38).f3 = 0 then [] else [(xs.getD k z38).f3]) := by
  rw [take_s h]
  generalize xs.getD k z38 = y
  unfold textOf
  rw [List.map_append, List.filter_append]
  congr 1
  split <;> rename_i q <;> simp [q]
theorem lastOf_le {xs : List S38} (h : StoreOk xs) {k : Nat} (hk : k < xs.length) : 0 ≤ lastOf xs k ∧ lastOf xs k ≤ (xs.getD k z38).f0.f1 := by
  unfold lastOf
  have h0 := (h.1 k hk).1.2.2.1
  split
  · omega
  · have h1 := (h.1 (k - 1) (by omega)).1.2.2.1
    have h2 := h.2 (k - 1) (by omega)
    rw [show k - 1 + 1 = k by omega] at h2
    rcases h2 with q | ⟨q, _⟩ <;> omega
theorem nodes_len {xs : List S38} (h : StoreOk xs) : ∀ k, k ≤ xs.length → (nodesBs 0 (xs.take k)).length ≤ 50 * k
  | 0, _ => by simp [nodesBs]
  | k + 1, hk => by
    have := nodes_len h k (by omega)
    have hl := lastOf_le h (show k < xs.length by omega)
    have := nodeBs_len (lastOf xs k) _ (h.1 k (by omega)) hl.1 hl.2
    rw [nodes_take (by omega), List.length_append]
    omega
theorem text_ok {xs : List S38} (h : StoreOk xs) : ∀ r ∈ textOf xs, okRune r := by
  intro r hr
  unfold textOf at hr
  rw [List.mem_filter] at hr
  obtain ⟨h1, h2⟩ := hr
  obtain ⟨x, hx, rfl⟩ := List.mem_map.1 h1
  have := (storeOk_iff xs).1 h |>.1 x hx
  exact this.2.2.2.2.2.resolve_left (by simpa using h2)
theorem text_len (xs : List S38) (k : Nat) : (textOf (xs.take k)).length ≤ k := by
  unfold textOf
  have := List.length_filter_le (fun r : Int => r != 0) ((xs.take k).map (fun x => x.f3))
  rw [List.length_map, List.length_take] at this
  omega
end Go.Proofs.Ytfbjbajbjlcjfaa.Cn

/- Layer 17, walks: canon.Encode. -/
namespace Go.Proofs.Ytfbjbajbjlcjfaa.Cn
open Go Go.RowKit Go.Proofs Go.Proofs.Ytfbjbajbjlcjfaa.Vn Go.Proofs.Ytfbjbajbjlcjfaa.Kit Go.Proofs.Ytfbjbajbjlcjfaa.PCanonStates Go.Proofs.YtfbjbajbjlcjfaaW.PrintWords
set_option linter.unusedSimpArgs false
set_option linter.unusedVariables false

theorem cencode_bad (A : Option Addr) (c : Nat) (xs : List S38) (w : World) (hx : k38.C w A xs.length xs) (hc : xs.length ≤ c) (hl : xs.length ≤ 1000000) (h : ¬ StoreOk xs) :
    Calls Try.prog 23 #[.slice A xs.length c] w (BeP (.tuple #[.slice none 0 0, .int .i64 2]) w) := by
  have SV := Lib.hid (svalid_any A c xs false w hx hc hl ⟨fun q => absurd q (by simp), fun q => absurd q h⟩)
  clear hx hc hl h
  go_enter Try.func23, Try.ntmps23
  go_wp2_with (go_at_call 35; refine SV.out.mono ?_; rintro en w1 ⟨rfl, hb⟩; have KB := Lib.hid hb; clear hb)
  go_ret2
  exact ⟨rfl, KB.out⟩
theorem cencode_long (A : Option Addr) (c : Nat) (xs : List S38) (w : World) (hx : k38.C w A xs.length xs) (hc : xs.length ≤ c) (hl : xs.length ≤ 1000000) (h : StoreOk xs) (hm : 65536 < xs.length) :
    Calls Try.prog 23 #[.slice A xs.length c] w (BeP (.tuple #[.slice none 0 0, .int .i64 5]) w) := by
  have SV := Lib.hid (svalid_any A c xs true w hx hc hl ⟨fun q => h, fun q => rfl⟩)
  have hd : decide ((65536 : Int) < (xs.length : Int)) = true := decide_eq_true (by omega)
  have lx : xs.length ≤ 9223372036854775807 := by omega
  clear hx hc hl h hm
  go_enter Try.func23, Try.ntmps23
  go_wp2_with (go_at_call 35; refine SV.out.mono ?_; rintro en w1 ⟨rfl, hb⟩; have KB := Lib.hid hb; clear hb)
  go_ret2
  exact ⟨rfl, KB.out⟩
/-- A row of bytes that was made, and no error. -/
def MadeE (xs : List Int) (w : World) (en : Ending) (w' : World) : Prop :=
  ∃ v, en = .returned (.tuple #[v, .int .i64 0]) ∧ k8.R 5 w' w.heap.size (fun j => w.heap.size ≤ j) v xs ∧ Below w.heap.size w w'
theorem bytes_event {P : Program} {ops : Array Oper} {rest : List Oper} {o : Oper} {a : Act} {Q : Exit → Act → World → Prop} {W : World} (hgd : o.guard = none) {N : Tmp} (_hd : o.dst = some N) (e : TypeId) (Z : List Int) (hZ : Bys Z) (hl : Z.length ≤ 9223372036854775807)
    (hrun : (execOp a.eval o).run P W = .ok (.value (.slice (some ⟨W.heap.size, 0, none⟩) (strOfNums Z).size (grownCap W (strOfNums Z).size 0 e))) (Lib.bytesWorld W e (strOfNums Z)))
    (h : ∀ A c w1, k8.C w1 A Z.length Z → Below W.heap.size W w1 → (∀ ad, A = some ad → W.heap.size ≤ ad.block) → wpList P ops Q rest (a.put o.dst (.slice A Z.length c)) w1) : wpList P ops Q (o :: rest) a W := by
  have hs : (strOfNums Z).size = Z.length := strOfNums_size Z
  have hr := bytes_reads W e (strOfNums Z) (by rw [hs]; exact hl)
  rw [bys_str hZ, hs] at hr
  rw [hs] at hrun
  exact Kd.event_run hgd hrun (h _ _ _ (Kd.C_of_reads (h1 := fun _ => rfl) (readsInt_of.1 hr)) (bytes_below (Below.refl _ _) (Nat.le_refl _) e _) (fun ad q => by injection q with q; subst q; exact Nat.le_refl _))
set_option maxHeartbeats 8000000 in
set_option maxRecDepth 100000 in
theorem cencode_ok (A : Option Addr) (c : Nat) (xs : List S38) (w : World) (hx : k38.C w A xs.length xs) (hc : xs.length ≤ c) (hl : xs.length ≤ 65536) (h : StoreOk xs) :
    Calls Try.prog 23 #[.slice A xs.length c] w (MadeE (canonBs xs) w) := by
  have SV := Lib.hid (svalid_any A c xs true w hx hc (by omega) ⟨fun q => h, fun q => rfl⟩)
  have hd : decide ((65536 : Int) < (xs.length : Int)) = false := decide_eq_false (by omega)
  have lx : xs.length ≤ 9223372036854775807 := by omega
  have hwl : IntKind.u64.wrap (xs.length : Int) = xs.length := by rw [wrapu]; omega
  have he := enc_length64 (n := xs.length) (by omega)
  have HX := Lib.hid hx
  have HL := Lib.hid hl
  have H := Lib.hid h
  have HE := Lib.hid he
  have U0 := Lib.hid (show (0 : Int) ≤ (xs.length : Int) ∧ (xs.length : Int) ≤ 18446744073709551615 by omega)
  clear hx hc hl h he
  go_enter Try.func23, Try.ntmps23
  go_upto_region 9 with (first | (go_at_call 35; refine SV.out.mono ?_; rintro en w1 ⟨rfl, hb⟩; have KD := Lib.hid hb; clear hb) | ((with_reducible refine gate_dst (N := 4) rfl ?_); refine box_event rfl (N := 4) rfl (cs := #[.slice none 0 0]) (t := 68) ?hr ?_; (case hr => first | (go_simp; done) | (go_simp; rfl)); intro g hg w2 hbox hb; have HW := Lib.hid (wr_box KD.out hg hbox hb); clear hb hbox hg) | (go_at_call 36; refine (wnum_one w _ g _ [] (xs.length : Int) HW.out U0.out (by simp)).mono ?_; rintro en w3 ⟨rfl, v0, hW2, hS2⟩; rw [List.nil_append, Int.toNat_natCast] at hW2; have HW := Lib.hid hW2; clear hW2 hS2))
  clear hd
  go_wp2
  go_loopw [5, 6, 27] (fun tx last i wr => ∃ (k : Nat) (v : Value), k ≤ xs.length ∧ i = .int .i64 k ∧ last = .int .i64 (lastOf xs k) ∧ Wr w wr g v (enc xs.length ++ nodesBs 0 (xs.take k)) ∧ Tx w wr g v tx (textOf (xs.take k))) (fun _ _ i _ => (xs.length : Int).toNat - (intOf i).toNat)
  case atStart => exact ⟨0, v0, by omega, rfl, rfl, by simpa [nodesBs] using HW.out, Tx.nil⟩
  case round =>
    clear HW KD
    obtain ⟨k, v, hk, rfl, rfl, hW, hT⟩ := hrel
    have HW := Lib.hid hW
    have HT := Lib.hid hT
    clear hW hT
    by_cases hlt : k < xs.length
    · obtain ⟨ad, eA, q0, q1, q2, q3, q4, q5⟩ := at_T38 (Kd.C_below HX.out HW.out.bel) (k : Int) (by omega) (by omega)
      subst eA
      have hrd : rd_T38 xs (k : Int) = xs.getD k z38 := by unfold rd_T38; rw [Int.toNat_natCast]
      rw [hrd, Int.toNat_natCast] at q0 q1 q2 q3 q4 q5
      have hok := H.out.1 k hlt
      have hla := lastOf_le H.out hlt
      have hnt := nodes_take hlt
      have htt := text_take hlt
      have hnl := nodes_len H.out k hk
      have htl := text_len xs k
      have hlast : lastOf xs (k + 1) = (xs.getD k z38).f0.f1 := by unfold lastOf; rw [if_neg (by omega)]; rfl
      generalize xs.getD k z38 = x at *
      generalize hlst : lastOf xs k = lst at *
      have hnb := nodeBs_len lst x hok hla.1 hla.2
      have hok2 := hok
      obtain ⟨⟨a1, a2, a3, a4⟩, hp, _, t1, t2, hr3⟩ := hok
      have pp0 : 0 ≤ x.f1.f0 ∧ x.f1.f0 ≤ 64 := by rcases hp with ⟨q, _⟩ | ⟨_, q, _⟩ <;> omega
      have pp1 : 0 ≤ x.f1.f1 ∧ x.f1.f1 ≤ 4294967295 := by rcases hp with ⟨_, q⟩ | ⟨_, _, _, q⟩ <;> omega
      have uw1 : IntKind.u64.wrap x.f0.f0 = x.f0.f0 := by rw [wrapu]; omega
      have uw2 : IntKind.u64.wrap (x.f0.f1 - lst) = x.f0.f1 - lst := by rw [wrapu]; omega
      have uw3 : IntKind.u64.wrap x.f1.f0 = x.f1.f0 := by rw [wrapu]; omega
      have uw4 : IntKind.u64.wrap x.f1.f1 = x.f1.f1 := by rw [wrapu]; omega
      have uw5 : IntKind.u64.wrap x.f2 = x.f2 := by rw [wrapu]; omega
      have uw6 : IntKind.u64.wrap (2 * x.f2) = 2 * x.f2 := by rw [wrapu]; omega
      have uw7 : IntKind.u64.wrap (2 * x.f2 + 1) = 2 * x.f2 + 1 := by rw [wrapu]; omega
      have U3 := Lib.hid (show U64 [x.f0.f0, x.f0.f1 - lst, x.f1.f0] from fun n hn => by
        rcases List.mem_cons.1 hn with rfl | hn
        · omega
        · rcases List.mem_cons.1 hn with rfl | hn
          · omega
          · obtain rfl : n = x.f1.f0 := by simpa using hn
            omega)
      have U1 := Lib.hid (show U64 [x.f1.f1] from fun n hn => by obtain rfl : n = x.f1.f1 := (by simpa using hn); omega)
      have ng6 : wr.heap.size ≠ g := Nat.ne_of_gt (blk_lt HW.out.own)
      have vlt : some wr.heap.size ≠ v.ownBlock := fun e => absurd (Kd.R_lt HW.out.row _ e.symm) (Nat.lt_irrefl _)
      have NG6 := Lib.hid ng6
      have VLT := Lib.hid vlt
      go_upto_region 12 with (fail)
      have HBX := Lib.hid (blk_new wr (.cells #[.int .i64 x.f0.f0, .int .i64 x.f0.f1, .int .i64 x.f1.f0, .int .i64 x.f1.f1, .int .i64 x.f2, .int .i32 x.f3] 38))
      have hb6 := below_alloc (Below.refl wr.heap.size wr) (.cells #[.int .i64 x.f0.f0, .int .i64 x.f0.f1, .int .i64 x.f1.f0, .int .i64 x.f1.f1, .int .i64 x.f2, .int .i32 x.f3] 38)
      have HW := Lib.hid (HW.out.below hb6)
      have HT := Lib.hid (HT.out.below hb6)
      have hbx := HBX.out
      have p0 := (blk_cell hbx 0).trans rfl
      have p1 := (blk_cell hbx 1).trans rfl
      have p2 := (blk_cell hbx 2).trans rfl
      have p3 := (blk_cell hbx 3).trans rfl
      have p4 := (blk_cell hbx 4).trans rfl
      have p5 := (blk_cell hbx 5).trans rfl
      have LXA := Lib.hid (show (enc xs.length ++ nodesBs 0 (xs.take k)).length ≤ 100000000 by have := HE.out; have := HL.out; rw [List.length_append]; omega)
      have LXB := Lib.hid (show (enc xs.length ++ nodesBs 0 (xs.take k) ++ Vn.encs [x.f0.f0, x.f0.f1 - lst, x.f1.f0]).length ≤ 100000000 by have := HE.out; have := HL.out; have h3 := encs_length _ U3.out; simp only [List.length_append, List.length_cons, List.length_nil] at h3 ⊢; omega)
      have LXC := Lib.hid (show (enc xs.length ++ nodesBs 0 (xs.take k) ++ Vn.encs [x.f0.f0, x.f0.f1 - lst, x.f1.f0] ++ Vn.encs [x.f1.f1]).length ≤ 100000000 by have := HE.out; have := HL.out; have h3 := encs_length _ U3.out; have h4 := encs_length _ U1.out; simp only [List.length_append, List.length_cons, List.length_nil] at h3 h4 ⊢; omega)
      have LXT := Lib.hid (show ((textOf (xs.take k)).length + 1) * 4 ≤ 140737488355328 by have := HL.out; omega)
      have e3 : Vn.encs [x.f0.f0, x.f0.f1 - lst, x.f1.f0] = headBs lst x := by simp [Vn.encs, headBs]
      have E3 := Lib.hid e3
      have NT := Lib.hid hnt
      have TT := Lib.hid htt
      have LA := Lib.hid hlast
      have b1 : x.f0.f0 ≤ 64 := a2
      have A3 := Lib.hid (fun wq vq Xq (hq : Wr w wq g vq Xq) hxq => wnum_lit [x.f0.f0, x.f0.f1 - lst, x.f1.f0] (n := 3) (cs := #[.int .u64 x.f0.f0, .int .u64 (x.f0.f1 - lst), .int .u64 x.f1.f0]) 59 rfl rfl (by simp) w wq g vq Xq hq U3.out hxq)
      have A1 := Lib.hid (fun wq vq Xq (hq : Wr w wq g vq Xq) hxq => wnum_lit [x.f1.f1] (n := 1) (cs := #[.int .u64 x.f1.f1]) 59 rfl rfl (by simp) w wq g vq Xq hq U1.out hxq)
      have b2 : 0 ≤ x.f0.f1 - lst := by omega
      have b3 : x.f0.f1 - lst ≤ 4294967295 := by omega
      clear hb6 q0 q1 q2 q3 q4 q5 hbx ng6 vlt hnt htt hlast hnl htl hnb hok2 hp hr3 e3
      generalize wr.alloc (.cells #[.int .i64 x.f0.f0, .int .i64 x.f0.f1, .int .i64 x.f1.f0, .int .i64 x.f1.f1, .int .i64 x.f2, .int .i32 x.f3] 38) = w6 at *
      generalize wr.heap.size = g6 at *
      by_cases hp0 : x.f1.f0 = 0
      · have z0 : (x.f1.f0 == 0) = true := beq_iff_eq.2 hp0
        have z1 : (x.f1.f0 != 0) = false := by rw [bne, z0]; rfl
        by_cases hr : x.f3 = 0
        · have y0 : (x.f3 == 0) = true := beq_iff_eq.2 hr
          have UW := Lib.hid (show U64 [2 * x.f2 + 1] from fun n hn => by obtain rfl : n = 2 * x.f2 + 1 := (by simpa using hn); omega)
          have AW := Lib.hid (fun wq vq Xq (hq : Wr w wq g vq Xq) hxq => wnum_lit [2 * x.f2 + 1] (n := 1) (cs := #[.int .u64 (2 * x.f2 + 1)]) 59 rfl rfl (by simp) w wq g vq Xq hq UW.out hxq)
          have WH := Lib.hid (show whenOf x = 2 * x.f2 + 1 by unfold whenOf; rw [if_pos hr])
          have PB := Lib.hid (show parBs x = [] by unfold parBs; rw [if_pos hp0])
          have TL := Lib.hid (show (if x.f3 = 0 then ([] : List Int) else [x.f3]) = [] from if_pos hr)
          clear hp0 hr
          go_wp2_with (first | (go_at_call 36; (with_reducible refine (A3.out _ _ _ HW.out LXA.out).mono ?_); rintro en w9 ⟨rfl, v1, hW2, hS2⟩; have HT := Lib.hid (HT.out.wrote hS2); have hbx := hS2.1.blk HBX.out (fun q => q.elim NG6.out VLT.out); have VLT := Lib.hid (vlt_step VLT.out hS2 (blk_lt HBX.out)); have HW := Lib.hid hW2; have HBX := Lib.hid hbx; have p0 := (blk_cell hbx 0).trans rfl; have p1 := (blk_cell hbx 1).trans rfl; have p2 := (blk_cell hbx 2).trans rfl; have p3 := (blk_cell hbx 3).trans rfl; have p4 := (blk_cell hbx 4).trans rfl; have p5 := (blk_cell hbx 5).trans rfl; clear hW2 hS2 hbx) | (go_at_call 36; (with_reducible refine (AW.out _ _ _ HW.out LXB.out).mono ?_); rintro en w9 ⟨rfl, v3, hW2, hS2⟩; have HT := Lib.hid (HT.out.wrote hS2); have HW := Lib.hid hW2; clear hW2 hS2))
          go_roundw
          case rel => exact ⟨k + 1, v3, by omega, by go_num, by rw [LA.out], by rw [NT.out]; unfold nodeBs; rw [PB.out, WH.out, ← E3.out]; have := HW.out; rw [encs_one] at this; simpa only [List.append_assoc, List.append_nil, List.nil_append] using this, by rw [TT.out, TL.out]; rw [List.append_nil]; exact HT.out⟩
          case measure => simp [intOf]; omega
        · have y0 : (x.f3 == 0) = false := beq_eq_false_iff_ne.2 hr
          have UW := Lib.hid (show U64 [2 * x.f2] from fun n hn => by obtain rfl : n = 2 * x.f2 := (by simpa using hn); omega)
          have AW := Lib.hid (fun wq vq Xq (hq : Wr w wq g vq Xq) hxq => wnum_lit [2 * x.f2] (n := 1) (cs := #[.int .u64 (2 * x.f2)]) 59 rfl rfl (by simp) w wq g vq Xq hq UW.out hxq)
          have WH := Lib.hid (show whenOf x = 2 * x.f2 by unfold whenOf; rw [if_neg hr]; omega)
          have PB := Lib.hid (show parBs x = [] by unfold parBs; rw [if_pos hp0])
          have TL := Lib.hid (show (if x.f3 = 0 then ([] : List Int) else [x.f3]) = [x.f3] from if_neg hr)
          clear hp0 hr
          go_wp2_with (first | (go_at_call 36; (with_reducible refine (A3.out _ _ _ HW.out LXA.out).mono ?_); rintro en w9 ⟨rfl, v1, hW2, hS2⟩; have HT := Lib.hid (HT.out.wrote hS2); have hbx := hS2.1.blk HBX.out (fun q => q.elim NG6.out VLT.out); have VLT := Lib.hid (vlt_step VLT.out hS2 (blk_lt HBX.out)); have HW := Lib.hid hW2; have HBX := Lib.hid hbx; have p0 := (blk_cell hbx 0).trans rfl; have p1 := (blk_cell hbx 1).trans rfl; have p2 := (blk_cell hbx 2).trans rfl; have p3 := (blk_cell hbx 3).trans rfl; have p4 := (blk_cell hbx 4).trans rfl; have p5 := (blk_cell hbx 5).trans rfl; clear hW2 hS2 hbx) | ((with_reducible refine gate_builtin (b := .append) (xs := #[.tmp 69, .tmp 72]) rfl ?_); at_builtin; refine Kd.R_append_rows k32 (w0 := w) w.heap.size rfl (.tmp 69) (.tmp 72) 70 21 (.int .i32 0) 4 rfl Try.underlying70 info32 rfl (by decide) (by omega) u5 (textOf (xs.take k)) [x.f3] _ _ _ (fun j => w.heap.size ≤ j ∧ j ≠ g ∧ some j ≠ (v1).ownBlock) (fun _ => False) rfl rfl (Kd.R_alloc HT.out _) (C_one .i32 21 _ x.f3) (fun _ _ h => h) (fun _ h => h.elim) (Tx.fresh (HW.out.below (below_alloc (Below.refl _ _) _))) (below_alloc HW.out.bel _) (below_alloc HW.out.bel _).size LXT.out ?_; intro v7 w7 ho hb hg_ hat; have HW := Lib.hid (Tx.wr (HT.out.below (below_alloc (Below.refl _ _) _)) (HW.out.below (below_alloc (Below.refl _ _) _)) hg_); have HT := Lib.hid (show Tx w w7 g v1 v7 _ from ho); clear ho hb hg_ hat) | (go_at_call 36; (with_reducible refine (AW.out _ _ _ HW.out LXB.out).mono ?_); rintro en w9 ⟨rfl, v3, hW2, hS2⟩; have HT := Lib.hid (HT.out.wrote hS2); have HW := Lib.hid hW2; clear hW2 hS2))
          go_roundw
          case rel => exact ⟨k + 1, v3, by omega, by go_num, by rw [LA.out], by rw [NT.out]; unfold nodeBs; rw [PB.out, WH.out, ← E3.out]; have := HW.out; rw [encs_one] at this; simpa only [List.append_assoc, List.append_nil, List.nil_append] using this, by rw [TT.out, TL.out]; exact HT.out⟩
          case measure => simp [intOf]; omega
      · have z0 : (x.f1.f0 == 0) = false := beq_eq_false_iff_ne.2 hp0
        have z1 : (x.f1.f0 != 0) = true := by rw [bne, z0]; rfl
        by_cases hr : x.f3 = 0
        · have y0 : (x.f3 == 0) = true := beq_iff_eq.2 hr
          have UW := Lib.hid (show U64 [2 * x.f2 + 1] from fun n hn => by obtain rfl : n = 2 * x.f2 + 1 := (by simpa using hn); omega)
          have AW := Lib.hid (fun wq vq Xq (hq : Wr w wq g vq Xq) hxq => wnum_lit [2 * x.f2 + 1] (n := 1) (cs := #[.int .u64 (2 * x.f2 + 1)]) 59 rfl rfl (by simp) w wq g vq Xq hq UW.out hxq)
          have WH := Lib.hid (show whenOf x = 2 * x.f2 + 1 by unfold whenOf; rw [if_pos hr])
          have PB := Lib.hid (show parBs x = enc x.f1.f1.toNat by unfold parBs; rw [if_neg hp0])
          have TL := Lib.hid (show (if x.f3 = 0 then ([] : List Int) else [x.f3]) = [] from if_pos hr)
          clear hp0 hr
          go_wp2_with (first | (go_at_call 36; (with_reducible refine (A3.out _ _ _ HW.out LXA.out).mono ?_); rintro en w9 ⟨rfl, v1, hW2, hS2⟩; have HT := Lib.hid (HT.out.wrote hS2); have hbx := hS2.1.blk HBX.out (fun q => q.elim NG6.out VLT.out); have VLT := Lib.hid (vlt_step VLT.out hS2 (blk_lt HBX.out)); have HW := Lib.hid hW2; have HBX := Lib.hid hbx; have p0 := (blk_cell hbx 0).trans rfl; have p1 := (blk_cell hbx 1).trans rfl; have p2 := (blk_cell hbx 2).trans rfl; have p3 := (blk_cell hbx 3).trans rfl; have p4 := (blk_cell hbx 4).trans rfl; have p5 := (blk_cell hbx 5).trans rfl; clear hW2 hS2 hbx) | (go_at_call 36; (with_reducible refine (A1.out _ _ _ HW.out LXB.out).mono ?_); rintro en w9 ⟨rfl, v2, hW2, hS2⟩; have HT := Lib.hid (HT.out.wrote hS2); have hbx := hS2.1.blk HBX.out (fun q => q.elim NG6.out VLT.out); have VLT := Lib.hid (vlt_step VLT.out hS2 (blk_lt HBX.out)); have HW := Lib.hid hW2; have HBX := Lib.hid hbx; have p0 := (blk_cell hbx 0).trans rfl; have p1 := (blk_cell hbx 1).trans rfl; have p2 := (blk_cell hbx 2).trans rfl; have p3 := (blk_cell hbx 3).trans rfl; have p4 := (blk_cell hbx 4).trans rfl; have p5 := (blk_cell hbx 5).trans rfl; clear hW2 hS2 hbx) | (go_at_call 36; (with_reducible refine (AW.out _ _ _ HW.out LXC.out).mono ?_); rintro en w9 ⟨rfl, v3, hW2, hS2⟩; have HT := Lib.hid (HT.out.wrote hS2); have HW := Lib.hid hW2; clear hW2 hS2))
          go_roundw
          case rel => exact ⟨k + 1, v3, by omega, by go_num, by rw [LA.out], by rw [NT.out]; unfold nodeBs; rw [PB.out, WH.out, ← E3.out]; have := HW.out; rw [encs_one] at this; rw [encs_one] at this; simpa only [List.append_assoc, List.append_nil, List.nil_append] using this, by rw [TT.out, TL.out]; rw [List.append_nil]; exact HT.out⟩
          case measure => simp [intOf]; omega
        · have y0 : (x.f3 == 0) = false := beq_eq_false_iff_ne.2 hr
          have UW := Lib.hid (show U64 [2 * x.f2] from fun n hn => by obtain rfl : n = 2 * x.f2 := (by simpa using hn); omega)
          have AW := Lib.hid (fun wq vq Xq (hq : Wr w wq g vq Xq) hxq => wnum_lit [2 * x.f2] (n := 1) (cs := #[.int .u64 (2 * x.f2)]) 59 rfl rfl (by simp) w wq g vq Xq hq UW.out hxq)
          have WH := Lib.hid (show whenOf x = 2 * x.f2 by unfold whenOf; rw [if_neg hr]; omega)
          have PB := Lib.hid (show parBs x = enc x.f1.f1.toNat by unfold parBs; rw [if_neg hp0])
          have TL := Lib.hid (show (if x.f3 = 0 then ([] : List Int) else [x.f3]) = [x.f3] from if_neg hr)
          clear hp0 hr
          go_wp2_with (first | (go_at_call 36; (with_reducible refine (A3.out _ _ _ HW.out LXA.out).mono ?_); rintro en w9 ⟨rfl, v1, hW2, hS2⟩; have HT := Lib.hid (HT.out.wrote hS2); have hbx := hS2.1.blk HBX.out (fun q => q.elim NG6.out VLT.out); have VLT := Lib.hid (vlt_step VLT.out hS2 (blk_lt HBX.out)); have HW := Lib.hid hW2; have HBX := Lib.hid hbx; have p0 := (blk_cell hbx 0).trans rfl; have p1 := (blk_cell hbx 1).trans rfl; have p2 := (blk_cell hbx 2).trans rfl; have p3 := (blk_cell hbx 3).trans rfl; have p4 := (blk_cell hbx 4).trans rfl; have p5 := (blk_cell hbx 5).trans rfl; clear hW2 hS2 hbx) | (go_at_call 36; (with_reducible refine (A1.out _ _ _ HW.out LXB.out).mono ?_); rintro en w9 ⟨rfl, v2, hW2, hS2⟩; have HT := Lib.hid (HT.out.wrote hS2); have hbx := hS2.1.blk HBX.out (fun q => q.elim NG6.out VLT.out); have VLT := Lib.hid (vlt_step VLT.out hS2 (blk_lt HBX.out)); have HW := Lib.hid hW2; have HBX := Lib.hid hbx; have p0 := (blk_cell hbx 0).trans rfl; have p1 := (blk_cell hbx 1).trans rfl; have p2 := (blk_cell hbx 2).trans rfl; have p3 := (blk_cell hbx 3).trans rfl; have p4 := (blk_cell hbx 4).trans rfl; have p5 := (blk_cell hbx 5).trans rfl; clear hW2 hS2 hbx) | ((with_reducible refine gate_builtin (b := .append) (xs := #[.tmp 69, .tmp 72]) rfl ?_); at_builtin; refine Kd.R_append_rows k32 (w0 := w) w.heap.size rfl (.tmp 69) (.tmp 72) 70 21 (.int .i32 0) 4 rfl Try.underlying70 info32 rfl (by decide) (by omega) u5 (textOf (xs.take k)) [x.f3] _ _ _ (fun j => w.heap.size ≤ j ∧ j ≠ g ∧ some j ≠ (v2).ownBlock) (fun _ => False) rfl rfl (Kd.R_alloc HT.out _) (C_one .i32 21 _ x.f3) (fun _ _ h => h) (fun _ h => h.elim) (Tx.fresh (HW.out.below (below_alloc (Below.refl _ _) _))) (below_alloc HW.out.bel _) (below_alloc HW.out.bel _).size LXT.out ?_; intro v7 w7 ho hb hg_ hat; have HW := Lib.hid (Tx.wr (HT.out.below (below_alloc (Below.refl _ _) _)) (HW.out.below (below_alloc (Below.refl _ _) _)) hg_); have HT := Lib.hid (show Tx w w7 g v2 v7 _ from ho); clear ho hb hg_ hat) | (go_at_call 36; (with_reducible refine (AW.out _ _ _ HW.out LXC.out).mono ?_); rintro en w9 ⟨rfl, v3, hW2, hS2⟩; have HT := Lib.hid (HT.out.wrote hS2); have HW := Lib.hid hW2; clear hW2 hS2))
          go_roundw
          case rel => exact ⟨k + 1, v3, by omega, by go_num, by rw [LA.out], by rw [NT.out]; unfold nodeBs; rw [PB.out, WH.out, ← E3.out]; have := HW.out; rw [encs_one] at this; rw [encs_one] at this; simpa only [List.append_assoc, List.append_nil, List.nil_append] using this, by rw [TT.out, TL.out]; exact HT.out⟩
          case measure => simp [intOf]; omega
    · obtain rfl : k = xs.length := by omega
      rw [List.take_length] at HW HT
      have hok := text_ok H.out
      have htl := text_len xs xs.length
      rw [List.take_length] at htl
      obtain ⟨A5, c5, rfl, _, hC5⟩ := Kd.R_reads HT.out
      have RE := Lib.hid (fun wq hq => rencode_ok A5 c5 (textOf xs) wq hq hok)
      have C5 := Lib.hid hC5
      have hul := utf8_len (textOf xs)
      have hub := utf8_bys (textOf xs)
      have hcan : canonBs xs = enc xs.length ++ nodesBs 0 xs ++ (enc (utf8 (textOf xs)).length ++ utf8 (textOf xs)) := rfl
      have hnl := nodes_len H.out xs.length (Nat.le_refl _)
      rw [List.take_length] at hnl
      generalize utf8 (textOf xs) = Z at *
      have UB := Lib.hid hub
      have HCAN := Lib.hid hcan
      have hlz := HL.out
      have he9 := HE.out
      have hez := enc_length64 (n := Z.length) (by omega)
      have LZ := Lib.hid (show Z.length ≤ 9223372036854775807 by omega)
      have LP1 := Lib.hid (show (enc xs.length ++ nodesBs 0 xs).length + Z.length ≤ 10000000 by rw [List.length_append]; omega)
      have LP2 := Lib.hid (show (enc xs.length ++ nodesBs 0 xs ++ (enc Z.length ++ Z)).length ≤ 100000000 by simp only [List.length_append]; omega)
      have kb := fun W => print_bytes (P := Try.prog) 9 24 5 Try.underlying9 Try.underlying24 Try.underlying5 (strOfNums Z) W
      clear hC5 hok hcan hub hul htl hnl hez he9 hlz
      go_wp2_with (first | (go_at_call 37; refine (RE.out _ C5.out).mono ?_; rintro en w5 ⟨rfl, hb⟩; have HW := Lib.hid (HW.out.below hb); clear hb) | ((with_reducible refine gate_dst (N := 87) rfl ?_); refine bytes_event rfl (N := 87) rfl 5 Z UB.out LZ.out ?hr ?_; (case hr => first | (go_simp; done) | (go_simp; rfl) | (simp [execOp, kb]; done) | (go_loud (rfl))); intro A6 c6 w6 hC6 hb h6; have OF := Lib.hid (show Off A6 Z.length g v from fun ad e hp => ⟨by have := h6 ad e; have := blk_lt HW.out.own; omega, fun e2 => by have := h6 ad e; have := Kd.R_lt HW.out.row _ e2.symm; omega⟩); have HW := Lib.hid (HW.out.below hb); have C6 := Lib.hid hC6; clear hC6 hb h6) | (go_at_call 38; refine (put_any w _ g v _ Z A6 c6 HW.out C6.out OF.out LP1.out).mono ?_; rintro en w7 ⟨rfl, v7, hW2, hS2⟩; have HW := Lib.hid hW2; clear hW2 hS2) | (go_at_call 39; refine (bytes_any w _ g v7 _ HW.out LP2.out).mono ?_; rintro en w8 ⟨v8, rfl, hr, hb⟩; have R8 := Lib.hid hr; have KD := Lib.hid (below_step HW.out.bel hb); have SZ := Lib.hid HW.out.bel.size; clear hr hb))
      go_ret2
      refine ⟨v8, rfl, ?_, KD.out⟩
      rw [HCAN.out]
      exact Kd.R_lower (Kd.R_mono R8.out (fun k hk => Nat.le_trans SZ.out hk)) SZ.out
end Go.Proofs.Ytfbjbajbjlcjfaa.Cn
