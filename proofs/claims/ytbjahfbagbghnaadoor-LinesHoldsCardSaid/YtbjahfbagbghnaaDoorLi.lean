/- Layer 41, walks: lines.in: the line of an index, by the library's search. -/
import Derived.Test.YtbjahfbagbghnaaDoorLn
import Derived.RegionTactic
namespace Go.Proofs.YtbjahfbagbghnaaDoor.Rn
open Go Go.RowKit Go.Proofs Go.Proofs.YtbjahfbagbghnaaDoorW.PrintWords Go.Proofs.YtbjahfbagbghnaaDoor.Kit Go.Proofs.YtbjahfbagbghnaaDoor.PAll
set_option linter.unusedSimpArgs false
set_option linter.unusedVariables false

abbrev k64 : Kd Int := Kd.int .i64
theorem at_num {w : World} {A : Option Addr} {rs : List Int} (hx : k64.C w A rs.length rs) {k : Nat} (hk : k < rs.length) : ∃ ad, A = some ad ∧ w.cell? (ad.add k) = some (.int .i64 (rs.getD k 0)) := by
  obtain ⟨ad, e, q⟩ := Kd.at_int hx (k : Int) (by omega) (by omega)
  exact ⟨ad, e, by simpa [rd, rdOf] using q⟩
def DrewP (v : Value) (w : World) (en : Ending) (w' : World) : Prop := en = .returned v ∧ ∃ q, w' = w.drewN q
set_option maxHeartbeats 2000000 in
theorem in1_any (g1 g2 : Nat) (A : Option Addr) (c : Nat) (l : List Int) (a : Int) (i : Nat) (W : World) (hb1 : W.heap[g1]? = some (.cells #[.slice A l.length c] 53 (0, 0))) (hb2 : W.heap[g2]? = some (.cells #[.int .i64 a] 3 (0, 0))) (hC : k64.C W A l.length l) (hi : i < l.length) :
    Calls Tryd.prog 45 #[.int .i64 i, .pointer (some ⟨g1, 0, none⟩), .pointer (some ⟨g2, 0, none⟩)] W (DrewP (.bool (decide (a < l.getD i 0))) W) := by
  obtain ⟨ad, eA, q0⟩ := at_num hC hi
  subst eA
  have lx : l.length ≤ 9223372036854775807 := hC.2.1
  have p0 := (blk_cell hb1 0).trans rfl
  have p1 := (blk_cell hb2 0).trans rfl
  have b0 : (0 : Int) ≤ (i : Int) := by omega
  have b1 : (i : Int) < (l.length : Int) := by omega
  clear hb1 hb2 hC
  generalize l.getD i 0 = x at *
  go_enter Tryd.func45, Tryd.ntmps45
  go_wp2
  go_quiet (fail)
  go_wp2
  go_ret
  exact ⟨rfl, _, rfl⟩
theorem range_count (l : List Int) (a : Int) : (List.range l.length).countP (fun i => !decide (a < l.getD i 0)) = l.countP (fun x => decide (x ≤ a)) := by
  have h : l = (List.range l.length).map (fun i => l.getD i 0) := by
    apply List.ext_getElem
    · simp
    · intro i h1 h2
      simp only [List.getElem_map, List.getElem_range]
      rw [List.getD_eq_getElem?_getD, List.getElem?_eq_getElem h1]
      rfl
  conv => rhs; rw [h]
  rw [List.countP_map]
  congr 1
  funext i
  simp only [Function.comp]
  rw [Bool.eq_iff_iff]
  simp
theorem sorted_get {l : List Int} (h : l.Pairwise (fun x y => x ≤ y)) {i j : Nat} (hij : i ≤ j) (hj : j < l.length) : l.getD i 0 ≤ l.getD j 0 := by
  rw [List.getD_eq_getElem?_getD, List.getElem?_eq_getElem (by omega), List.getD_eq_getElem?_getD, List.getElem?_eq_getElem hj]
  rcases Nat.eq_or_lt_of_le hij with q | q
  · subst q; exact Int.le_refl _
  · exact List.pairwise_iff_getElem.1 h i j (by omega) hj q
set_option maxHeartbeats 4000000 in
theorem in_any (A : Option Addr) (c : Nat) (l : List Int) (a : Int) (w : World) (hx : k64.C w A l.length l) (hs : l.Pairwise (fun x y => x ≤ y)) (hl : l.length < 4611686018427387904) :
    Calls Tryd.prog 36 #[.slice A l.length c, .int .i64 a] w (BeP (.int .i64 (((l.countP (fun x => decide (x ≤ a)) : Nat) : Int) - 1)) w) := by
  have HX := Lib.hid hx
  have RC := range_count l a
  have hcn : (l.countP (fun x => decide (x ≤ a)) : Nat) ≤ 4611686018427387904 := Nat.le_trans List.countP_le_length (by omega)
  generalize l.countP (fun x => decide (x ≤ a)) = n at *
  have SR := Lib.hid (fun (g1 g2 : Nat) (W : World) (hb1 : W.heap[g1]? = some (.cells #[.slice A l.length c] 53 (0, 0))) (hb2 : W.heap[g2]? = some (.cells #[.int .i64 a] 3 (0, 0))) (hC : k64.C W A l.length l) =>
    show Calls Tryd.prog 44 #[.int .i64 l.length, .func (.func 45) #[] #[.pointer (some ⟨g1, 0, none⟩), .pointer (some ⟨g2, 0, none⟩)]] W (fun e w' => e = .returned (.int .i64 n) ∧ ∃ q os, w' = Go.Sort.grow (W.drewN q) os) by
      have := Any.sort_Search Tryd.lays16 45 #[.pointer (some ⟨g1, 0, none⟩), .pointer (some ⟨g2, 0, none⟩)] l.length (fun i => decide (a < l.getD i 0)) W (fun _ _ => by kernel_rfl) hl (fun m os i hi => by
        have hbg := Go.Proofs.below_grown_sl W.heap.size W m os (Nat.le_refl _)
        refine (in1_any g1 g2 A c l a i _ (blk_below hb1 hbg) (blk_below hb2 hbg) (Kd.C_below hC hbg) hi).mono ?_
        rintro en w' ⟨rfl, q, rfl⟩
        exact ⟨rfl, q, #[], by rw [Go.Sort.grow_empty]⟩) (fun x y hxy hy h => by
        have := sorted_get hs hxy hy
        simp only [decide_eq_true_eq] at h ⊢
        omega)
      rw [RC] at this
      exact this)
  clear hx hs hl RC
  go_enter Tryd.func36, Tryd.ntmps36
  go_wp2_with (first | ((with_reducible refine gate_dst (N := 2) rfl ?_); refine box_event rfl (N := 2) rfl (cs := #[.slice A l.length c]) (t := 53) ?hr ?_; (case hr => first | (go_simp; done) | (go_simp; rfl)); intro g1 hg1 w1 hbox hb; have HB1 := Lib.hid hbox; have KB := Lib.hid hb; clear hb hbox hg1) | ((with_reducible refine gate_dst (N := 3) rfl ?_); refine box_event rfl (N := 3) rfl (cs := #[.int .i64 a]) (t := 3) ?hr ?_; (case hr => first | (go_simp; done) | (go_simp; rfl)); intro g2 hg2 w2 hbox hb; have HB2 := Lib.hid hbox; have HB1 := Lib.hid (blk_below HB1.out hb); have KB := Lib.hid (below_step KB.out hb); have p0 := (blk_cell HB1.out 0).trans rfl; clear hb hbox hg2) | (go_at_call 44; refine (SR.out _ _ _ HB1.out HB2.out (Kd.C_below HX.out KB.out)).mono ?_; rintro en w3 ⟨rfl, q, os, rfl⟩; have KB := Lib.hid (below_step KB.out (Go.Proofs.below_grown_sl w2.heap.size w2 q os (Nat.le_refl _)))))
  go_ret
  exact ⟨rfl, KB.out⟩
end Go.Proofs.YtbjahfbagbghnaaDoor.Rn
