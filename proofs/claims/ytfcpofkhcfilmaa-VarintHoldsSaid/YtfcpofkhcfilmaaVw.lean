/- Writers of layer 1: contracts of Clone, Raw, Num, Int, Put, Bytes, Len. -/
import Derived.Test.YtfcpofkhcfilmaaVm
import Derived.Lib.SliceRun
namespace Go.Proofs.Ytfcpofkhcfilmaa.Vn
open Go.RowKit Go.Proofs Go.Proofs.YtfcpofkhcfilmaaW.PrintWords Go.Proofs.Ytfcpofkhcfilmaa.Kit
set_option linter.unusedSimpArgs false
set_option linter.unusedVariables false

theorem info8 : (Try.prog.info? 5).map (fun i => (i.zero, i.size, i.bytes)) = some (some (.int .u8 0), 1, 1) := by kernel_rfl
theorem C_none {d : Kd Int} {w : World} {n : Nat} {xs : List Int} (h : d.C w none n xs) : xs = [] := by
  rcases Nat.eq_zero_or_pos n with q | q
  · exact List.eq_nil_of_length_eq_zero (h.1.trans q)
  · obtain ⟨_, e, _⟩ := h.2.2 q
    cases e

theorem nil8 (c : Nat) : ∀ w : World, (binOp .eql 23 (.slice none 0 c) (.slice none 0 0)).run Try.prog w = .ok (.bool true) w := fun w => Go.Lib.run_eql_slice_nil w _ _ none 0 c 0 0 Try.underlying23
theorem some8 (ad : Addr) (n c : Nat) : ∀ w : World, (binOp .eql 23 (.slice (some ad) n c) (.slice none 0 0)).run Try.prog w = .ok (.bool false) w := fun w => Go.Lib.run_eql_slice_nil w _ _ (some ad) n c 0 0 Try.underlying23
set_option maxHeartbeats 1000000 in
theorem clone_any (A : Option Addr) (c : Nat) (xs : List Int) (w : World) (hx : k8.C w A xs.length xs) (hl : xs.length ≤ 100000000) : Calls Try.prog 40 #[.slice A xs.length c] w (MadeP xs w) := by
  rcases A with _ | ad
  · obtain rfl := C_none hx
    have hq := nil8 c
    clear hx
    go_enter Try.func40, Try.ntmps40
    go_wp2
    go_ret
    exact ⟨_, rfl, Kd.R_nil _ _ _ _ _, Below.refl _ _⟩
  · have HX := Lib.hid hx
    have hq := some8 ad xs.length c
    clear hx
    go_enter Try.func40, Try.ntmps40
    go_wp2_with (first | ((with_reducible refine gate_dst (N := 5) rfl ?_); refine Kd.R_lit k8 w.heap.size 5 ?hg (N := 5) ?hd (xs := ([] : List Int)) (inner := []) (ok := fun j => w.heap.size ≤ j) (okp := fun _ => False) ?hr ?hp (fun _ hk => hk.elim) (Nat.le_refl _) (Below.refl _ _) (Nat.le_refl _) (by simp) ?_; (case hd => rfl); (case hg => rfl); (case hr => first | (go_simp; done) | (go_simp; rfl)); (case hp => exact Reps.none _ _); intro v5 w5 ho hb hg_ hn_; have O := Lib.hid ho; have B := Lib.hid hb; clear ho hb hg_ hn_) | ((with_reducible refine gate_builtin (b := .append) (xs := #[.tmp 5, .tmp 6]) rfl ?_); at_builtin; refine Kd.R_append_rows k8 (w0 := w) w.heap.size rfl (.tmp 5) (.tmp 6) 23 5 (.int .u8 0) 1 rfl Try.underlying23 info8 rfl (by decide) (by omega) v5 [] xs _ _ _ (fun j => w.heap.size ≤ j) (fun _ => False) rfl rfl O.out (Kd.C_below HX.out B.out) (fun _ _ h => h) (fun _ h => h.elim) (fun k hk => Nat.le_trans B.out.size hk) B.out B.out.size (by simp; omega) ?_; intro v7 w7 ho hb hg_ hat; have O7 := Lib.hid ho; have B7 := Lib.hid hb; clear ho hb hg_ hat))
    go_ret
    exact ⟨_, rfl, by simpa using O7.out, B7.out⟩

/-- Block g is a writer that was made since w0, and has written xs; v is its row. -/
structure Wr (w0 w : World) (g : Nat) (v : Value) (xs : List Int) : Prop where
  own : w.heap[g]? = some (.cells #[v] 40 (0, 0))
  row : k8.R 5 w w0.heap.size (fun j => j ≠ g) v xs
  bel : Below w0.heap.size w0 w
  ge : w0.heap.size ≤ g
def WrS (w w' : World) (g : Nat) (v v' : Value) : Prop := Fr w w' (fun i => i = g ∨ some i = v.ownBlock) ∧ (v'.ownBlock = v.ownBlock ∨ ∃ b, v'.ownBlock = some b ∧ w.heap.size ≤ b)
theorem WrS.refl (w : World) (g : Nat) (v : Value) : WrS w w g v v := ⟨Fr.refl _ _, .inl rfl⟩
theorem WrS.then {w w1 w2 : World} {g : Nat} {v v1 v2 : Value} (h : WrS w w1 g v v1) (k : WrS w1 w2 g v1 v2) : WrS w w2 g v v2 := by
  have hs := h.1.size
  refine ⟨h.1.then k.1 fun i hi q => ?_, ?_⟩
  · rcases q with q | q
    · exact .inl q
    · rcases h.2 with e | ⟨b, e, hb⟩
      · exact .inr (q.trans e)
      · rw [e] at q; injection q with q; omega
  · rcases k.2 with e | ⟨b, e, hb⟩
    · rcases h.2 with e2 | ⟨b, e2, hb⟩
      · exact .inl (e.trans e2)
      · exact .inr ⟨b, e.trans e2, hb⟩
    · exact .inr ⟨b, e, by omega⟩
def WrP (w0 w : World) (g : Nat) (v : Value) (zs : List Int) (en : Ending) (w' : World) : Prop :=
  en = .returned (.tuple #[]) ∧ ∃ v', Wr w0 w' g v' zs ∧ WrS w w' g v v'
section
variable {w0 w w1 : World} {g : Nat} {v : Value} {xs : List Int}
theorem Wr.ne (h : Wr w0 w g v xs) : some g ≠ v.ownBlock := fun e => h.row.1 g e.symm rfl
theorem Wr.below (h : Wr w0 w g v xs) (hb : Below w.heap.size w w1) : Wr w0 w1 g v xs := ⟨blk_below h.own hb, Kd.R_below h.row hb, below_step h.bel hb, h.ge⟩
theorem Wr.slice (h : Wr w0 w g v xs) : ∃ A c, v = .slice A xs.length c ∧ xs.length ≤ c ∧ k8.C w A xs.length xs := Kd.R_reads h.row
theorem WrS.below (h : WrS w w1 g v v) {w2 : World} (hb : Below w1.heap.size w1 w2) : WrS w w2 g v v := ⟨h.1.then (Fr.below hb (fun _ => False)) (fun _ _ q => q.elim), .inl rfl⟩
/-- Another frame's blocks are not the writer's. -/
theorem Wr.frame {S : Nat → Prop} (h : Wr w0 w g v xs) (f : Fr w w1 S) (h1 : ¬ S g) (h2 : ∀ j, v.ownBlock = some j → ¬ S j) (hS : ∀ i, S i → w0.heap.size ≤ i) : Wr w0 w1 g v xs :=
  ⟨f.blk h.own h1, f.row rfl h.row h2, Fr.to_below h.bel f h.bel.size hS, h.ge⟩
end
theorem wr_of_below {w w1 : World} {g : Nat} {v : Value} (hb : Below w.heap.size w w1) : WrS w w1 g v v := ⟨Fr.below hb _, .inl rfl⟩

set_option maxHeartbeats 1000000 in
theorem raw_any (w0 w : World) (g : Nat) (v : Value) (xs ys : List Int) (A : Option Addr) (c : Nat) (h : Wr w0 w g v xs) (hy : k8.C w A ys.length ys) (hl : xs.length + ys.length ≤ 1000000000) :
    Calls Try.prog 38 #[.pointer (some ⟨g, 0, none⟩), .slice A ys.length c] w (WrP w0 w g v (xs ++ ys)) := by
  obtain ⟨A0, c0, rfl, hc0, hC0⟩ := h.slice
  have hcell := (blk_cell h.own 0).trans rfl
  have H := Lib.hid h
  have HY := Lib.hid hy
  clear h hy hC0
  go_enter Try.func38, Try.ntmps38
  go_wp2_with ((with_reducible refine gate_builtin (b := .append) (xs := #[.tmp 10, .tmp 11]) rfl ?_); at_builtin; refine Kd.R_append_rows k8 (w0 := w0) w0.heap.size rfl (.tmp 10) (.tmp 11) 23 5 (.int .u8 0) 1 rfl Try.underlying23 info8 rfl (by decide) (by omega) (.slice A0 xs.length c0) xs ys _ _ _ (fun j => j ≠ g) (fun _ => False) rfl rfl H.out.row HY.out (fun _ _ h => h) (fun _ h => h.elim) (fun k hk => Nat.ne_of_gt (Nat.lt_of_lt_of_le (blk_lt H.out.own) hk)) H.out.bel H.out.bel.size (by omega) ?_; intro v7 w7 ho hb hg hat; (obtain ⟨A7, c7, rfl⟩ := Kd.R_slice ho); have O7 := Lib.hid (And.intro ho (And.intro hb (And.intro hg hat))); have X := Lib.hid (blk_grown H.out.own hg H.out.ne); have hc7 := (blk_cell X.out 0).trans rfl; have hf7 := blk_frozen X.out 0; clear ho hb hg hat hcell)
  go_end0
  have o1 := O7.out.1
  have o2 := O7.out.2.1
  have o3 := O7.out.2.2.1
  have o4 := O7.out.2.2.2
  rw [List.length_append] at o1 o4
  refine ⟨rfl, _, ⟨blk_put X.out 0 _ rfl, (Fr.set w7 g 0 _).row rfl o1 (fun j hj q => ?_), Fr.to_below o2 (Fr.set w7 g 0 _) o2.size (fun i q => ?_), H.out.ge⟩, ?_, o4⟩
  · exact o1.1 j hj q
  · have := H.out.ge; omega
  · exact ((Fr.grown o3).mono (fun i _ q => .inr q)).then (Fr.set w7 g 0 _) (fun i _ q => .inl q)
end Go.Proofs.Ytfcpofkhcfilmaa.Vn
