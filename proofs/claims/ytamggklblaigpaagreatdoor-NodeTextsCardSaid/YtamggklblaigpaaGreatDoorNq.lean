/- Texts of nodes: the walk of the reference's Parse. -/
import Derived.Deep.DeepCutAuto
import Derived.Test.YtamggklblaigpaaGreatDoorNmc
import Derived.Test.YtamggklblaigpaaGreatDoorNmd
namespace Go.Proofs.YtamggklblaigpaaGreatDoor.Nx
open Go Go.RowKit Go.Proofs Go.Proofs.YtamggklblaigpaaGreatDoorW.PrintWords Go.Proofs.YtamggklblaigpaaGreatDoor.Kit Go.Proofs.YtamggklblaigpaaGreatDoor.PAll Go.Proofs.YtamggklblaigpaaGreatDoor.Dx Go.Proofs.YtamggklblaigpaaGreatDoor.Hx Go.Proofs.YtamggklblaigpaaGreatDoor.Rn
set_option linter.unusedSimpArgs false
set_option linter.unusedVariables false

/-- What the four pieces of a node's text read as. -/
theorem pieces_of {s a b c d : ByteArray} (hs : spl s.data.toList = [a.data.toList, b.data.toList, c.data.toList, d.data.toList]) {m : Nd} (hm : okN m) (he : ntL m = s.data.toList) :
    dotP a = (m.r, m.c, 0) ∧ dotP b = (m.p, m.q, 0) ∧ c.data.toList = Lib.decDigits m.t.toNat ∧ ((d.data.toList = [45] ∧ m.u = 0) ∨ (d.data.toList ≠ [45] ∧ bynP d = (m.u, 0))) := by
  rw [← he, spl_nt hm] at hs
  injection hs with ha hs
  injection hs with hb hs
  injection hs with hc' hs
  injection hs with hd' _
  refine ⟨?_, ?_, hc'.symm, ?_⟩
  · have := dotP_dt (.inl hm.1 : okDot m.r m.c ∨ (m.r = 0 ∧ m.c = 0))
    rw [ha] at this
    exact this
  · have := dotP_dt hm.2.1
    rw [hb] at this
    exact this
  · unfold nmL at hd'
    by_cases h0 : m.u = 0
    · rw [if_pos h0] at hd'
      exact .inl ⟨hd'.symm, h0⟩
    · rw [if_neg h0] at hd'
      refine .inr ⟨fun q => name_dash _ (hd'.trans q), ?_⟩
      have hr : okRune m.u := hm.2.2.2.2.resolve_left h0
      have hu : ((m.u.toNat : Nat) : Int) = m.u := Int.toNat_of_nonneg (by have := hr.1; omega)
      have e := byn_yes (r := m.u.toNat) (by rw [hu]; exact hr)
      have ed : nameP m.u.toNat = d := bytes_eq hd'
      rw [ed, hu] at e
      exact e
/-- What Parse makes of any reading of the pieces that reads a node's text right. -/
theorem nodP_read (s : ByteArray) (n : Nd) (B : Prop) [Decidable B] (h : ∀ m, okN m → ntL m = s.data.toList → B ∧ n = m) : nodP s = if B ∧ okN n ∧ ntP n = s then (n, 0) else (zN, 6) := by
  by_cases q : ∃ m, okN m ∧ ntL m = s.data.toList
  · obtain ⟨m, hm, he⟩ := q
    obtain ⟨hB, rfl⟩ := h m hm he
    have es : ntP n = s := bytes_eq he
    rw [if_pos ⟨hB, hm, es⟩, ← es, nodP_yes hm]
  · have q : ∀ n, okN n → ntL n ≠ s.data.toList := fun n a b => q ⟨n, a, b⟩
    rw [nodP_no q, if_neg]
    rintro ⟨_, h1, h2⟩
    exact q n h1 (by rw [← h2]; rfl)
def flatB (x : Nd × Int) : Int × Int × Int × Int × Int × Int × Bool := (x.1.r, x.1.c, x.1.p, x.1.q, x.1.t, x.1.u, decide (x.2 = 0))
/-- What Parse answers, of its pieces' readings. -/
def PR (s a b : ByteArray) (v u : Int) (cf : Bool) : Prop := nodP s = if ((refP a).2.2 = true ∧ (refP b).2.2 = true ∧ cf = true) ∧ okN ⟨(refP a).1, (refP a).2.1, (refP b).1, (refP b).2.1, v, u⟩ ∧ ntP ⟨(refP a).1, (refP a).2.1, (refP b).1, (refP b).2.1, v, u⟩ = s then (⟨(refP a).1, (refP a).2.1, (refP b).1, (refP b).2.1, v, u⟩, 0) else (zN, 6)
theorem pr_dash {s a b c d : ByteArray} (hs : spl s.data.toList = [a.data.toList, b.data.toList, c.data.toList, d.data.toList]) {v : Int} (hv : ∀ t, 1 ≤ t → t ≤ maxT → c.data.toList = Lib.decDigits t.toNat → v = t) (hdash : d.data.toList = [45]) : PR s a b v 0 true := by
  unfold PR
  rw [refP_eq, refP_eq]
  exact nodP_read s ⟨(dotP a).1, (dotP a).2.1, (dotP b).1, (dotP b).2.1, v, 0⟩ (decide ((dotP a).2.2 = 0) = true ∧ decide ((dotP b).2.2 = 0) = true ∧ true = true) (fun m hm he => by
    obtain ⟨p1, p2, p3, p4⟩ := pieces_of hs hm he
    rcases p4 with ⟨_, p5⟩ | ⟨p5, _⟩
    · rw [p1, p2, hv m.t hm.2.2.2.1.1 hm.2.2.2.1.2 p3]
      exact ⟨⟨rfl, rfl, rfl⟩, nd_ext rfl rfl rfl rfl rfl p5.symm⟩
    · exact absurd hdash p5)
theorem pr_name {s a b c d : ByteArray} (hs : spl s.data.toList = [a.data.toList, b.data.toList, c.data.toList, d.data.toList]) {v : Int} (hv : ∀ t, 1 ≤ t → t ≤ maxT → c.data.toList = Lib.decDigits t.toNat → v = t) (hdash : ¬ d.data.toList = [45]) : PR s a b v (bynP d).1 ((bynP d).2 == 0) := by
  unfold PR
  rw [refP_eq, refP_eq]
  exact nodP_read s ⟨(dotP a).1, (dotP a).2.1, (dotP b).1, (dotP b).2.1, v, (bynP d).1⟩ (decide ((dotP a).2.2 = 0) = true ∧ decide ((dotP b).2.2 = 0) = true ∧ ((bynP d).2 == 0) = true) (fun m hm he => by
    obtain ⟨p1, p2, p3, p4⟩ := pieces_of hs hm he
    rcases p4 with ⟨p5, _⟩ | ⟨_, p5⟩
    · exact absurd p5 hdash
    · rw [p1, p2, hv m.t hm.2.2.2.1.1 hm.2.2.2.1.2 p3, p5]
      exact ⟨⟨rfl, rfl, rfl⟩, rfl⟩)
theorem byn_int (s : ByteArray) : -2147483648 ≤ (bynP s).1 ∧ (bynP s).1 ≤ 2147483647 := by
  unfold bynP
  split
  · rename_i h
    have h1 := h.1.1
    have h2 := h.1.2.1
    show -2147483648 ≤ ((hexV _ : Nat) : Int) ∧ ((hexV _ : Nat) : Int) ≤ 2147483647
    omega
  · decide
theorem four_row {w : World} {e : TypeId} {base : Nat} {ok : Nat → Prop} {v0 : Value} {a b c d : ByteArray} (h : Kd.R Kd.string e w base ok v0 [a, b, c, d]) :
    ∃ g cp, v0 = .slice (some ⟨g, 0, none⟩) 4 cp ∧ w.cell? ⟨g, 0, none⟩ = some (.string a) ∧ w.cell? ⟨g, 1, none⟩ = some (.string b) ∧ w.cell? ⟨g, 2, none⟩ = some (.string c) ∧ w.cell? ⟨g, 3, none⟩ = some (.string d) := by
  obtain ⟨inner, ho⟩ := Kd.R_own h
  obtain ⟨A, cp, he, _, hC⟩ := Kd.R_reads h
  rcases ho.2 with ⟨hv, hn⟩ | ⟨g, cap, cur, hv, _⟩
  · simp at hn
  · rw [he] at hv
    injection hv with hA _ _
    subst hA
    obtain ⟨ad, e0, q0⟩ := Kd.at_string hC 0 (by omega) (by simp)
    obtain ⟨ad1, e1, q1⟩ := Kd.at_string hC 1 (by omega) (by simp)
    obtain ⟨ad2, e2, q2⟩ := Kd.at_string hC 2 (by omega) (by simp)
    obtain ⟨ad3, e3, q3⟩ := Kd.at_string hC 3 (by omega) (by simp)
    obtain rfl := Option.some.inj e0
    obtain rfl := Option.some.inj e1
    obtain rfl := Option.some.inj e2
    obtain rfl := Option.some.inj e3
    refine ⟨g, cp, he, ?_, ?_, ?_, ?_⟩
    · have z : w.cell? ⟨g, 0, none⟩ = some (.string (rdOf ByteArray.empty [a, b, c, d] 0)) := by simpa [add_plain] using q0
      exact z
    · have z : w.cell? ⟨g, 1, none⟩ = some (.string (rdOf ByteArray.empty [a, b, c, d] 1)) := by simpa [add_plain] using q1
      exact z
    · have z : w.cell? ⟨g, 2, none⟩ = some (.string (rdOf ByteArray.empty [a, b, c, d] 2)) := by simpa [add_plain] using q2
      exact z
    · have z : w.cell? ⟨g, 3, none⟩ = some (.string (rdOf ByteArray.empty [a, b, c, d] 3)) := by simpa [add_plain] using q3
      exact z
theorem andThen_ok {α β : Type} (a : α) (w : World) (f : α → World → Result β) : (Result.ok a w).andThen f = f a w := rfl
/-- A store of six cells, cell by cell. -/
theorem six_put {w : World} {q : Nat} {t : TypeId} {u0 u1 u2 u3 u4 u5 : Value} (h0 : w.heap[q]? = some (.cells #[u0, u1, u2, u3, u4, u5] t (0, 0))) (v0 v1 v2 v3 v4 v5 : Value) : w.cell? ⟨q, 0, none⟩ = some u0 ∧ w.frozen? ⟨q, 0, none⟩ = false ∧ (w.setCell ⟨q, 0, none⟩ v0).cell? ⟨q, 1, none⟩ = some u1 ∧ (w.setCell ⟨q, 0, none⟩ v0).frozen? ⟨q, 1, none⟩ = false ∧ ((w.setCell ⟨q, 0, none⟩ v0).setCell ⟨q, 1, none⟩ v1).cell? ⟨q, 2, none⟩ = some u2 ∧ ((w.setCell ⟨q, 0, none⟩ v0).setCell ⟨q, 1, none⟩ v1).frozen? ⟨q, 2, none⟩ = false ∧ (((w.setCell ⟨q, 0, none⟩ v0).setCell ⟨q, 1, none⟩ v1).setCell ⟨q, 2, none⟩ v2).cell? ⟨q, 3, none⟩ = some u3 ∧ (((w.setCell ⟨q, 0, none⟩ v0).setCell ⟨q, 1, none⟩ v1).setCell ⟨q, 2, none⟩ v2).frozen? ⟨q, 3, none⟩ = false ∧ ((((w.setCell ⟨q, 0, none⟩ v0).setCell ⟨q, 1, none⟩ v1).setCell ⟨q, 2, none⟩ v2).setCell ⟨q, 3, none⟩ v3).cell? ⟨q, 4, none⟩ = some u4 ∧ ((((w.setCell ⟨q, 0, none⟩ v0).setCell ⟨q, 1, none⟩ v1).setCell ⟨q, 2, none⟩ v2).setCell ⟨q, 3, none⟩ v3).frozen? ⟨q, 4, none⟩ = false ∧ (((((w.setCell ⟨q, 0, none⟩ v0).setCell ⟨q, 1, none⟩ v1).setCell ⟨q, 2, none⟩ v2).setCell ⟨q, 3, none⟩ v3).setCell ⟨q, 4, none⟩ v4).cell? ⟨q, 5, none⟩ = some u5 ∧ (((((w.setCell ⟨q, 0, none⟩ v0).setCell ⟨q, 1, none⟩ v1).setCell ⟨q, 2, none⟩ v2).setCell ⟨q, 3, none⟩ v3).setCell ⟨q, 4, none⟩ v4).frozen? ⟨q, 5, none⟩ = false ∧ ((((((w.setCell ⟨q, 0, none⟩ v0).setCell ⟨q, 1, none⟩ v1).setCell ⟨q, 2, none⟩ v2).setCell ⟨q, 3, none⟩ v3).setCell ⟨q, 4, none⟩ v4).setCell ⟨q, 5, none⟩ v5).heap[q]? = some (.cells #[v0, v1, v2, v3, v4, v5] t (0, 0)) := by
  have h1 : (w.setCell ⟨q, 0, none⟩ v0).heap[q]? = some (.cells #[v0, u1, u2, u3, u4, u5] t (0, 0)) := blk_put h0 0 v0 rfl
  have h2 : ((w.setCell ⟨q, 0, none⟩ v0).setCell ⟨q, 1, none⟩ v1).heap[q]? = some (.cells #[v0, v1, u2, u3, u4, u5] t (0, 0)) := blk_put h1 1 v1 rfl
  have h3 : (((w.setCell ⟨q, 0, none⟩ v0).setCell ⟨q, 1, none⟩ v1).setCell ⟨q, 2, none⟩ v2).heap[q]? = some (.cells #[v0, v1, v2, u3, u4, u5] t (0, 0)) := blk_put h2 2 v2 rfl
  have h4 : ((((w.setCell ⟨q, 0, none⟩ v0).setCell ⟨q, 1, none⟩ v1).setCell ⟨q, 2, none⟩ v2).setCell ⟨q, 3, none⟩ v3).heap[q]? = some (.cells #[v0, v1, v2, v3, u4, u5] t (0, 0)) := blk_put h3 3 v3 rfl
  have h5 : (((((w.setCell ⟨q, 0, none⟩ v0).setCell ⟨q, 1, none⟩ v1).setCell ⟨q, 2, none⟩ v2).setCell ⟨q, 3, none⟩ v3).setCell ⟨q, 4, none⟩ v4).heap[q]? = some (.cells #[v0, v1, v2, v3, v4, u5] t (0, 0)) := blk_put h4 4 v4 rfl
  have h6 : ((((((w.setCell ⟨q, 0, none⟩ v0).setCell ⟨q, 1, none⟩ v1).setCell ⟨q, 2, none⟩ v2).setCell ⟨q, 3, none⟩ v3).setCell ⟨q, 4, none⟩ v4).setCell ⟨q, 5, none⟩ v5).heap[q]? = some (.cells #[v0, v1, v2, v3, v4, v5] t (0, 0)) := blk_put h5 5 v5 rfl
  exact ⟨(blk_cell h0 0).trans rfl, blk_frozen h0 0, (blk_cell h1 1).trans rfl, blk_frozen h1 1, (blk_cell h2 2).trans rfl, blk_frozen h2 2, (blk_cell h3 3).trans rfl, blk_frozen h3 3, (blk_cell h4 4).trans rfl, blk_frozen h4 4, (blk_cell h5 5).trans rfl, blk_frozen h5 5, h6⟩
theorem six_far {w : World} {q : Nat} {x : Addr} {o : Option Value} (hn : q ≠ x.block) (h : w.cell? x = o) (v0 v1 v2 v3 v4 v5 : Value) : ((((((w.setCell ⟨q, 0, none⟩ v0).setCell ⟨q, 1, none⟩ v1).setCell ⟨q, 2, none⟩ v2).setCell ⟨q, 3, none⟩ v3).setCell ⟨q, 4, none⟩ v4).setCell ⟨q, 5, none⟩ v5).cell? x = o := by
  rw [World.cell?_setCell_far _ _ _ _ hn, World.cell?_setCell_far _ _ _ _ hn, World.cell?_setCell_far _ _ _ _ hn, World.cell?_setCell_far _ _ _ _ hn, World.cell?_setCell_far _ _ _ _ hn, World.cell?_setCell_far _ _ _ _ hn]
  exact h
theorem six_blk {w : World} {g q : Nat} {t : TypeId} {cs : Array Value} (hn : g ≠ q) (h : w.heap[g]? = some (.cells cs t (0, 0))) (v0 v1 v2 v3 v4 v5 : Value) : ((((((w.setCell ⟨q, 0, none⟩ v0).setCell ⟨q, 1, none⟩ v1).setCell ⟨q, 2, none⟩ v2).setCell ⟨q, 3, none⟩ v3).setCell ⟨q, 4, none⟩ v4).setCell ⟨q, 5, none⟩ v5).heap[g]? = some (.cells cs t (0, 0)) :=
  blk_far (blk_far (blk_far (blk_far (blk_far (blk_far h hn _) hn _) hn _) hn _) hn _) hn _
theorem six_below {W w : World} {q : Nat} (hn : W.heap.size ≤ q) (h : Below W.heap.size W w) (v0 v1 v2 v3 v4 v5 : Value) : Below W.heap.size W ((((((w.setCell ⟨q, 0, none⟩ v0).setCell ⟨q, 1, none⟩ v1).setCell ⟨q, 2, none⟩ v2).setCell ⟨q, 3, none⟩ v3).setCell ⟨q, 4, none⟩ v4).setCell ⟨q, 5, none⟩ v5) :=
  below_set (below_set (below_set (below_set (below_set (below_set h hn) hn) hn) hn) hn) hn
def RqP (s : ByteArray) (w : World) (e : Ending) (w' : World) : Prop := e = .returned (.tuple #[.agg #[.int .i64 (flatB (nodP s)).1, .int .i64 (flatB (nodP s)).2.1, .int .i64 (flatB (nodP s)).2.2.1, .int .i64 (flatB (nodP s)).2.2.2.1, .int .i64 (flatB (nodP s)).2.2.2.2.1, .int .i32 (flatB (nodP s)).2.2.2.2.2.1], .bool (flatB (nodP s)).2.2.2.2.2.2]) ∧ Below w.heap.size w w'
set_option maxHeartbeats 8000000 in
set_option maxRecDepth 100000 in
theorem rnParse_any (s : ByteArray) (hl : s.size ≤ 100000) (w : World) : Calls Tryz.prog 12 #[.string s] w (RqP s w) := by
  obtain ⟨W, eW, hW⟩ := words_f s (by omega) (s.size + 100) (by omega)
  have WD := Lib.hid (fun X => redpencilref09_words.calls (s.size + 100) s W X eW)
  clear eW
  by_cases h4 : W.length = 4
  · obtain ⟨a, b, c, d, rfl⟩ : ∃ a b c d, W = [a, b, c, d] := by
      match W, h4 with
      | [a, b, c, d], _ => exact ⟨a, b, c, d, rfl⟩
    have hsz : ∀ x ∈ [a, b, c, d], x.size ≤ s.size := fun x hx => by
      have : x.data.toList ∈ spl s.data.toList := by rw [← hW]; exact List.mem_map_of_mem hx
      have := spl_mem_len _ _ this
      rw [Lib.size_eq x, Lib.size_eq s]
      exact this
    have ha := hsz a (by simp)
    have hb := hsz b (by simp)
    have hc := hsz c (by simp)
    have hd := hsz d (by simp)
    have PA := Lib.hid (fun X => rparse_any a (by omega) X)
    have PB := Lib.hid (fun X => rparse_any b (by omega) X)
    have hs : spl s.data.toList = [a.data.toList, b.data.toList, c.data.toList, d.data.toList] := hW.symm
    obtain ⟨v, ev, hv⟩ := time_f c (by omega) (s.size + 100) (by omega)
    have TM := Lib.hid (fun X => (redpencilref09_time.calls (s.size + 100) c v X ev).mono (R' := Dx.BeP (.int .i64 v) X) (fun e w' h => ⟨h.1, by obtain ⟨n, q⟩ := h.2; rw [q]; exact below_alike (Below.refl _ _) n⟩))
    have BY := Lib.hid (fun X => (redpencilref02_ByName.calls (s.size + 100) d (bynP d).1 ((bynP d).2 == 0) X (Up.byname_f d (s.size + 100) (by omega))).mono (R' := Dx.BeP (.tuple #[.int .i32 (bynP d).1, .bool ((bynP d).2 == 0)]) X) (fun e w' h => ⟨h.1, by obtain ⟨n, q⟩ := h.2; rw [q]; exact below_alike (Below.refl _ _) n⟩))
    have R0 := Lib.hid (fun h : d.data.toList = [45] => pr_dash hs hv h)
    have R1 := Lib.hid (fun h : ¬ d.data.toList = [45] => pr_name hs hv h)
    have RV := Lib.hid (fun u (hu : -2147483648 ≤ u ∧ u ≤ 2147483647) X => redpencilref09_Valid.calls (refP a).1 (refP a).2.1 (refP b).1 (refP b).2.1 v u _ X (rnvalid_f ⟨(refP a).1, (refP a).2.1, (refP b).1, (refP b).2.1, v, u⟩ hu.1 hu.2))
    have RT := Lib.hid (fun n hn X => redpencilref09_Text.calls (s.size + 100) n.r n.c n.p n.q n.t n.u (ntP n) X (ntext_f n hn _ (by omega)))
    clear ev hv hs hW hsz ha hb hc hd h4 hl
    go_enter Tryz.func12, Tryz.ntmps12
    go_upto_region 6 with (first
      | (go_at_call 31; refine (WD.out _).mono ?_; rintro en w1 ⟨v0, rfl, hr, hbl⟩; have D1 := Lib.hid (blk_below (blk_new w _) hbl); have K1 := Lib.hid (below_step (below_alloc (Below.refl _ _) _) hbl); clear hbl; obtain ⟨g, cp, rfl, q0, q1, q2, q3⟩ := four_row hr; clear hr; have Q1 := Lib.hid (And.intro q1 (And.intro q2 q3)); clear q1 q2 q3)
      | (go_at_call 32; (with_reducible refine (PA.out _).mono ?_); rintro en w2 ⟨rfl, hbl⟩; have D2 := Lib.hid (blk_below D1.out hbl); have K2 := Lib.hid (below_step K1.out hbl); have Q2 := Lib.hid (And.intro (Dx.cell_keep Q1.out.1 hbl) (And.intro (Dx.cell_keep Q1.out.2.1 hbl) (Dx.cell_keep Q1.out.2.2 hbl))); have q1 : (w2.alloc (.cells #[.int .i64 (refP a).1, .int .i64 (refP a).2.1] 23)).cell? ⟨g, 1, none⟩ = some (.string b) := Dx.cell_keep Q2.out.1 (below_alloc (Below.refl _ _) _); clear hbl)
      | (go_at_call 32; (with_reducible refine (PB.out _).mono ?_); rintro en w3 ⟨rfl, hbl⟩; have D3 := Lib.hid (blk_below (blk_below D2.out (below_alloc (Below.refl _ _) _)) hbl); have K3 := Lib.hid (below_step (below_alloc K2.out _) hbl); have X3 := Lib.hid (blk_below (blk_new w2 _) hbl); have Q3 := Lib.hid (And.intro (Dx.cell_keep (Dx.cell_keep Q2.out.2.1 (below_alloc (Below.refl _ _) _)) hbl) (Dx.cell_keep (Dx.cell_keep Q2.out.2.2 (below_alloc (Below.refl _ _) _)) hbl)); clear hbl))
    have X4 := Lib.hid (blk_below X3.out (below_alloc (Below.refl _ (w3)) (.cells #[.int .i64 (refP b).1, .int .i64 (refP b).2.1] 23)))
    have Y4 := Lib.hid (blk_new w3 (.cells #[.int .i64 (refP b).1, .int .i64 (refP b).2.1] 23))
    have D4 := Lib.hid (blk_below D3.out (below_alloc (Below.refl _ (w3)) (.cells #[.int .i64 (refP b).1, .int .i64 (refP b).2.1] 23)))
    have K4 := Lib.hid (below_alloc K3.out (.cells #[.int .i64 (refP b).1, .int .i64 (refP b).2.1] 23))
    have Q4 := Lib.hid (And.intro (Dx.cell_keep Q3.out.1 (below_alloc (Below.refl _ (w3)) (.cells #[.int .i64 (refP b).1, .int .i64 (refP b).2.1] 23))) (Dx.cell_keep Q3.out.2 (below_alloc (Below.refl _ (w3)) (.cells #[.int .i64 (refP b).1, .int .i64 (refP b).2.1] 23))))
    have hW4 : ∃ W4, W4 = (w3.alloc (.cells #[.int .i64 (refP b).1, .int .i64 (refP b).2.1] 23)) := ⟨_, rfl⟩
    obtain ⟨W4, hW4⟩ := hW4
    rw [← hW4] at X4 Y4 D4 K4 Q4 ⊢
    clear hW4 D1 K1 D2 K2 D3 K3 X3 Q1 Q2 Q3 q0 PA PB WD
    have x0 : W4.drew.cell? ⟨w2.heap.size, 0, none⟩ = some (.int .i64 (refP a).1) := (blk_cell (blk_drew X4.out) 0).trans rfl
    have x1 : W4.drew.cell? ⟨w2.heap.size, 1, none⟩ = some (.int .i64 (refP a).2.1) := (blk_cell (blk_drew X4.out) 1).trans rfl
    have y0 : W4.drew.cell? ⟨w3.heap.size, 0, none⟩ = some (.int .i64 (refP b).1) := (blk_cell (blk_drew Y4.out) 0).trans rfl
    have y1 : W4.drew.cell? ⟨w3.heap.size, 1, none⟩ = some (.int .i64 (refP b).2.1) := (blk_cell (blk_drew Y4.out) 1).trans rfl
    have s2 : W4.drew.cell? ⟨g, 2, none⟩ = some (.string c) := Q4.out.1
    have s3 : W4.drew.cell? ⟨g, 3, none⟩ = some (.string d) := Q4.out.2
    have p0 : W4.cell? ⟨w2.heap.size, 0, none⟩ = some (.int .i64 (refP a).1) := (blk_cell X4.out 0).trans rfl
    have p1 : W4.cell? ⟨w2.heap.size, 1, none⟩ = some (.int .i64 (refP a).2.1) := (blk_cell X4.out 1).trans rfl
    have p2 : W4.cell? ⟨w3.heap.size, 0, none⟩ = some (.int .i64 (refP b).1) := (blk_cell Y4.out 0).trans rfl
    have p3 : W4.cell? ⟨w3.heap.size, 1, none⟩ = some (.int .i64 (refP b).2.1) := (blk_cell Y4.out 1).trans rfl
    have P4 := Lib.hid (And.intro p0 (And.intro p1 (And.intro p2 (And.intro p3 Q4.out))))
    clear p0 p1 p2 p3
    have D5 := Lib.hid (blk_drew D4.out)
    have K5 := Lib.hid (below_drew K4.out)
    clear Q4 X4 Y4
    have L0 : w.heap.size < W4.heap.size := blk_lt D5.out
    go_cut [9] (fun s9 wx => ∃ q : Nat, s9 = .pointer (some ⟨q, 0, none⟩) ∧ wx.heap[q]? = some (.cells #[.int .i64 (refP a).1, .int .i64 (refP a).2.1, .int .i64 (refP b).1, .int .i64 (refP b).2.1, .int .i64 v, .int .i32 0] 25 (0, 0)) ∧ wx.heap[w.heap.size]? = some (.cells #[.int .i64 0, .int .i64 0, .int .i64 0, .int .i64 0, .int .i64 0, .int .i32 0] 25 (0, 0)) ∧ wx.cell? ⟨g, 3, none⟩ = some (.string d) ∧ Below w.heap.size w wx ∧ w.heap.size < q)
    case first =>
      go_region_held3 (fun w' => w'.cell? ⟨w2.heap.size, 0, none⟩ = some (.int .i64 (refP a).1) ∧ w'.cell? ⟨w2.heap.size, 1, none⟩ = some (.int .i64 (refP a).2.1) ∧ w'.cell? ⟨w3.heap.size, 0, none⟩ = some (.int .i64 (refP b).1) ∧ w'.cell? ⟨w3.heap.size, 1, none⟩ = some (.int .i64 (refP b).2.1) ∧ w'.cell? ⟨g, 2, none⟩ = some (.string c)) (refine ⟨?_, ?_, ?_, ?_, ?_⟩ <;> first | assumption | exact Lib.cell?_alloc_some _ (by assumption)) (first
        | (go_at_call 33; (with_reducible refine (TM.out W4.drew).mono ?_); rintro en w5 ⟨rfl, hbl⟩; have x0 := Dx.cell_keep x0 hbl; have x1 := Dx.cell_keep x1 hbl; have y0 := Dx.cell_keep y0 hbl; have y1 := Dx.cell_keep y1 hbl; have s2 := Dx.cell_keep s2 hbl; have s3 := Dx.cell_keep s3 hbl; have D6 := Lib.hid (blk_below D5.out hbl); have K6 := Lib.hid (below_step K5.out hbl); have L6 : w.heap.size < w5.heap.size := Nat.lt_of_lt_of_le L0 hbl.size; clear hbl)
        | (go_at_call 33; (with_reducible refine (TM.out _).mono ?_); rintro en w5 ⟨rfl, hbl⟩; have hbm := below_step (below_drew (below_alloc (Below.refl _ W4) _)) hbl; have x0 := Dx.cell_keep P4.out.1 hbm; have x1 := Dx.cell_keep P4.out.2.1 hbm; have y0 := Dx.cell_keep P4.out.2.2.1 hbm; have y1 := Dx.cell_keep P4.out.2.2.2.1 hbm; have s2 := Dx.cell_keep P4.out.2.2.2.2.1 hbm; have s3 := Dx.cell_keep P4.out.2.2.2.2.2 hbm; have N6 := Lib.hid (blk_below (blk_drew (blk_new W4 _)) hbl); have E6 := Lib.hid (And.intro (World.new_ne W4 _ P4.out.1) (And.intro (World.new_ne W4 _ P4.out.2.1) (And.intro (World.new_ne W4 _ P4.out.2.2.1) (And.intro (World.new_ne W4 _ P4.out.2.2.2.1) (And.intro (World.new_ne W4 _ P4.out.2.2.2.2.1) (World.new_ne W4 _ P4.out.2.2.2.2.2)))))); have D6 := Lib.hid (blk_below D4.out hbm); have K6 := Lib.hid (below_step K4.out hbm); clear hbl hbm)
        | (obtain ⟨c0, g0, c1, g1, c2, g2, c3, g3, c4, g4, c5, g5, hN⟩ := six_put N6.out (.int .i64 (refP a).1) (.int .i64 (refP a).2.1) (.int .i64 (refP b).1) (.int .i64 (refP b).2.1) (.int .i64 v) (.int .i32 0); have hN := Lib.hid hN; rw [c0]; dsimp only; rw [g0, if_neg Bool.false_ne_true, andThen_ok]; (try dsimp only); rw [c1]; dsimp only; rw [g1, if_neg Bool.false_ne_true, andThen_ok]; (try dsimp only); rw [c2]; dsimp only; rw [g2, if_neg Bool.false_ne_true, andThen_ok]; (try dsimp only); rw [c3]; dsimp only; rw [g3, if_neg Bool.false_ne_true, andThen_ok]; (try dsimp only); rw [c4]; dsimp only; rw [g4, if_neg Bool.false_ne_true, andThen_ok]; (try dsimp only); rw [c5]; dsimp only; rw [g5, if_neg Bool.false_ne_true, andThen_ok]; (try dsimp only); clear c0 g0 c1 g1 c2 g2 c3 g3 c4 g4 c5 g5; have x0 := six_far E6.out.1 x0 (.int .i64 (refP a).1) (.int .i64 (refP a).2.1) (.int .i64 (refP b).1) (.int .i64 (refP b).2.1) (.int .i64 v) (.int .i32 0); have x1 := six_far E6.out.2.1 x1 (.int .i64 (refP a).1) (.int .i64 (refP a).2.1) (.int .i64 (refP b).1) (.int .i64 (refP b).2.1) (.int .i64 v) (.int .i32 0); have y0 := six_far E6.out.2.2.1 y0 (.int .i64 (refP a).1) (.int .i64 (refP a).2.1) (.int .i64 (refP b).1) (.int .i64 (refP b).2.1) (.int .i64 v) (.int .i32 0); have y1 := six_far E6.out.2.2.2.1 y1 (.int .i64 (refP a).1) (.int .i64 (refP a).2.1) (.int .i64 (refP b).1) (.int .i64 (refP b).2.1) (.int .i64 v) (.int .i32 0); have s2 := six_far E6.out.2.2.2.2.1 s2 (.int .i64 (refP a).1) (.int .i64 (refP a).2.1) (.int .i64 (refP b).1) (.int .i64 (refP b).2.1) (.int .i64 v) (.int .i32 0); have s3 := six_far E6.out.2.2.2.2.2 s3 (.int .i64 (refP a).1) (.int .i64 (refP a).2.1) (.int .i64 (refP b).1) (.int .i64 (refP b).2.1) (.int .i64 v) (.int .i32 0); have DN := Lib.hid (six_blk (Nat.ne_of_lt L0) D6.out (.int .i64 (refP a).1) (.int .i64 (refP a).2.1) (.int .i64 (refP b).1) (.int .i64 (refP b).2.1) (.int .i64 v) (.int .i32 0)); have KN := Lib.hid (six_below (Nat.le_of_lt L0) K6.out (.int .i64 (refP a).1) (.int .i64 (refP a).2.1) (.int .i64 (refP b).1) (.int .i64 (refP b).2.1) (.int .i64 v) (.int .i32 0)); generalize ((((((w5.setCell ⟨W4.heap.size, 0, none⟩ (.int .i64 (refP a).1)).setCell ⟨W4.heap.size, 1, none⟩ (.int .i64 (refP a).2.1)).setCell ⟨W4.heap.size, 2, none⟩ (.int .i64 (refP b).1)).setCell ⟨W4.heap.size, 3, none⟩ (.int .i64 (refP b).2.1)).setCell ⟨W4.heap.size, 4, none⟩ (.int .i64 v)).setCell ⟨W4.heap.size, 5, none⟩ (.int .i32 0)) = w6 at hN x0 x1 y0 y1 s2 s3 DN KN ⊢))
      · go_wp2_with fail
        go_meet
        exact ⟨w5.heap.size, rfl, blk_new w5 _, blk_alloc D6.out _, Dx.cell_keep s3 (below_alloc (Below.refl _ w5) _), below_alloc K6.out _, L6⟩
      · go_wp2_with fail
        go_meet
        exact ⟨W4.heap.size, rfl, hN.out, DN.out, s3, KN.out, L0⟩
    case rest =>
      obtain ⟨q, rfl, NB, DB, s3, KB, hq⟩ := hcut
      have NB := Lib.hid NB
      have DB := Lib.hid DB
      have KB := Lib.hid KB
      clear x0 x1 y0 y1 s2 D5 K5 D4 K4 P4 TM L0
      go_upto_if 41 with (fail)
      go_cut [10] (fun s10 wx => ∃ (u : Int) (cf : Bool), s10 = .bool cf ∧ wx.heap[q]? = some (.cells #[.int .i64 (refP a).1, .int .i64 (refP a).2.1, .int .i64 (refP b).1, .int .i64 (refP b).2.1, .int .i64 v, .int .i32 u] 25 (0, 0)) ∧ wx.heap[w.heap.size]? = some (.cells #[.int .i64 0, .int .i64 0, .int .i64 0, .int .i64 0, .int .i64 0, .int .i32 0] 25 (0, 0)) ∧ Below w.heap.size w wx ∧ (-2147483648 ≤ u ∧ u ≤ 2147483647) ∧ PR s a b v u cf)
      case first =>
        have nb5 := blk_frozen NB.out 5
        by_cases hdash : d.data.toList = [45]
        · have hP := Lib.hid (R0.out hdash)
          have hdd : (d.toList == [45]) = true := beq_iff_eq.2 ((Lib.toList_data d).trans hdash)
          clear hdash R0 R1 BY
          rw [hdd]
          go_wp2
          go_meet
          exact ⟨0, true, rfl, NB.out, DB.out, KB.out, by decide, hP.out⟩
        · have hP := Lib.hid (R1.out hdash)
          have hdd : (d.toList == [45]) = false := beq_eq_false_iff_ne.2 fun q => hdash (by rw [← Lib.toList_data]; exact q)
          clear hdash R0 R1
          rw [hdd]
          go_wp2_with (go_at_call 34; refine (BY.out _).mono ?_; rintro en w6 ⟨rfl, hb⟩; have B6 := Lib.hid (blk_below NB.out hb); have D6 := Lib.hid (blk_below DB.out hb); have K6 := Lib.hid (below_step KB.out hb); obtain ⟨n0, n1, n2, n3, n4, n5⟩ := cells6 B6.out; have m5 := blk_frozen B6.out 5; clear hb)
          go_meet
          exact ⟨(bynP d).1, (bynP d).2 == 0, rfl, blk_put B6.out 5 _ rfl, blk_far D6.out (Nat.ne_of_lt hq) _, below_set K6.out (Nat.le_of_lt hq), byn_int d, hP.out⟩
      case rest =>
        obtain ⟨u, cf, rfl, NB, DB, KB, hu, hP⟩ := hcut
        have NB := Lib.hid NB
        have DB := Lib.hid DB
        have KB := Lib.hid KB
        have VL := Lib.hid (RV.out u hu)
        have TX := Lib.hid (fun h X => RT.out ⟨(refP a).1, (refP a).2.1, (refP b).1, (refP b).2.1, v, u⟩ h X)
        unfold PR at hP
        have HP := Lib.hid hP
        clear hP R0 R1 RV RT BY hu
        obtain ⟨n0, n1, n2, n3, n4, n5⟩ := cells6 NB.out
        generalize (refP a).2.2 = fa at *
        generalize (refP b).2.2 = fb at *
        cases fa
        · skip
          have E := Lib.hid (show nodP s = (zN, 6) from HP.out.trans (if_neg (fun h => by simp at h)))
          clear HP VL TX n0 n1 n2 n3 n4 n5
          obtain ⟨d0, d1, d2, d3, d4, d5⟩ := cells6 DB.out
          have g0 := blk_frozen DB.out 0
          have g1 := blk_frozen DB.out 1
          have g2 := blk_frozen DB.out 2
          have g3 := blk_frozen DB.out 3
          have g4 := blk_frozen DB.out 4
          have g5 := blk_frozen DB.out 5
          go_wp2
          refine bodyPost_ret (res6 rfl _ _ w.heap.size 25 #[.int .i64 0, .int .i64 0, .int .i64 0, .int .i64 0, .int .i64 0, .int .i32 0] (0, 0) _ rfl (blk_put (blk_put (blk_put (blk_put (blk_put (blk_put DB.out 0 _ rfl) 1 _ rfl) 2 _ rfl) 3 _ rfl) 4 _ rfl) 5 _ rfl) Tryz.underlying25 rfl (by kernel_rfl)) rfl ?_
          unfold RqP
          rw [E.out]
          exact ⟨rfl, ((((((KB.out).setCell (Nat.le_refl _) _).setCell (Nat.le_refl _) _).setCell (Nat.le_refl _) _).setCell (Nat.le_refl _) _).setCell (Nat.le_refl _) _).setCell (Nat.le_refl _) _⟩
        cases fb
        · skip
          have E := Lib.hid (show nodP s = (zN, 6) from HP.out.trans (if_neg (fun h => by simp at h)))
          clear HP VL TX n0 n1 n2 n3 n4 n5
          obtain ⟨d0, d1, d2, d3, d4, d5⟩ := cells6 DB.out
          have g0 := blk_frozen DB.out 0
          have g1 := blk_frozen DB.out 1
          have g2 := blk_frozen DB.out 2
          have g3 := blk_frozen DB.out 3
          have g4 := blk_frozen DB.out 4
          have g5 := blk_frozen DB.out 5
          go_wp2
          refine bodyPost_ret (res6 rfl _ _ w.heap.size 25 #[.int .i64 0, .int .i64 0, .int .i64 0, .int .i64 0, .int .i64 0, .int .i32 0] (0, 0) _ rfl (blk_put (blk_put (blk_put (blk_put (blk_put (blk_put DB.out 0 _ rfl) 1 _ rfl) 2 _ rfl) 3 _ rfl) 4 _ rfl) 5 _ rfl) Tryz.underlying25 rfl (by kernel_rfl)) rfl ?_
          unfold RqP
          rw [E.out]
          exact ⟨rfl, ((((((KB.out).setCell (Nat.le_refl _) _).setCell (Nat.le_refl _) _).setCell (Nat.le_refl _) _).setCell (Nat.le_refl _) _).setCell (Nat.le_refl _) _).setCell (Nat.le_refl _) _⟩
        cases cf
        · skip
          have E := Lib.hid (show nodP s = (zN, 6) from HP.out.trans (if_neg (fun h => by simp at h)))
          clear HP VL TX n0 n1 n2 n3 n4 n5
          obtain ⟨d0, d1, d2, d3, d4, d5⟩ := cells6 DB.out
          have g0 := blk_frozen DB.out 0
          have g1 := blk_frozen DB.out 1
          have g2 := blk_frozen DB.out 2
          have g3 := blk_frozen DB.out 3
          have g4 := blk_frozen DB.out 4
          have g5 := blk_frozen DB.out 5
          go_wp2
          refine bodyPost_ret (res6 rfl _ _ w.heap.size 25 #[.int .i64 0, .int .i64 0, .int .i64 0, .int .i64 0, .int .i64 0, .int .i32 0] (0, 0) _ rfl (blk_put (blk_put (blk_put (blk_put (blk_put (blk_put DB.out 0 _ rfl) 1 _ rfl) 2 _ rfl) 3 _ rfl) 4 _ rfl) 5 _ rfl) Tryz.underlying25 rfl (by kernel_rfl)) rfl ?_
          unfold RqP
          rw [E.out]
          exact ⟨rfl, ((((((KB.out).setCell (Nat.le_refl _) _).setCell (Nat.le_refl _) _).setCell (Nat.le_refl _) _).setCell (Nat.le_refl _) _).setCell (Nat.le_refl _) _).setCell (Nat.le_refl _) _⟩
        by_cases hok : okN ⟨(refP a).1, (refP a).2.1, (refP b).1, (refP b).2.1, v, u⟩
        · have TX := Lib.hid (TX.out hok)
          have hkk : decide (okN ⟨(refP a).1, (refP a).2.1, (refP b).1, (refP b).2.1, v, u⟩) = true := decide_eq_true hok
          rw [hkk] at VL
          by_cases hx : ntP ⟨(refP a).1, (refP a).2.1, (refP b).1, (refP b).2.1, v, u⟩ = s
          · have E := Lib.hid (show nodP s = (⟨(refP a).1, (refP a).2.1, (refP b).1, (refP b).2.1, v, u⟩, 0) from HP.out.trans (if_pos ⟨⟨rfl, rfl, rfl⟩, hok, hx⟩))
            have hxx : decide (s.toList = s.toList) = true := decide_eq_true rfl
            rw [hx] at TX
            clear HP hx hok hkk
            go_wp2_with (first | (go_at_call 9; refine (VL.out _).mono ?_; rintro en w6 ⟨rfl, hb⟩; have B6 := Lib.hid (blk_below NB.out hb); have D6 := Lib.hid (blk_below DB.out hb); have K6 := Lib.hid (below_step KB.out hb); obtain ⟨n0, n1, n2, n3, n4, n5⟩ := cells6 B6.out; clear hb) | (go_at_call 11; refine (TX.out _).mono ?_; rintro en w7 ⟨rfl, hb⟩; have B7 := Lib.hid (blk_below B6.out hb); have D7 := Lib.hid (blk_below D6.out hb); have K7 := Lib.hid (below_step K6.out hb); obtain ⟨n0, n1, n2, n3, n4, n5⟩ := cells6 B7.out; obtain ⟨d0, d1, d2, d3, d4, d5⟩ := cells6 D7.out; have g0 := blk_frozen D7.out 0; have g1 := blk_frozen D7.out 1; have g2 := blk_frozen D7.out 2; have g3 := blk_frozen D7.out 3; have g4 := blk_frozen D7.out 4; have g5 := blk_frozen D7.out 5; clear hb))
            refine bodyPost_ret (res6 rfl _ _ w.heap.size 25 #[.int .i64 (refP a).1, .int .i64 (refP a).2.1, .int .i64 (refP b).1, .int .i64 (refP b).2.1, .int .i64 v, .int .i32 u] (0, 0) _ rfl (blk_put (blk_put (blk_put (blk_put (blk_put (blk_put D7.out 0 _ rfl) 1 _ rfl) 2 _ rfl) 3 _ rfl) 4 _ rfl) 5 _ rfl) Tryz.underlying25 rfl (by kernel_rfl)) rfl ?_
            unfold RqP
            rw [E.out]
            exact ⟨rfl, ((((((K7.out).setCell (Nat.le_refl _) _).setCell (Nat.le_refl _) _).setCell (Nat.le_refl _) _).setCell (Nat.le_refl _) _).setCell (Nat.le_refl _) _).setCell (Nat.le_refl _) _⟩
          · have E := Lib.hid (show nodP s = (zN, 6) from HP.out.trans (if_neg (fun h => hx h.2.2)))
            generalize hz : ntP ⟨(refP a).1, (refP a).2.1, (refP b).1, (refP b).2.1, v, u⟩ = z at TX hx
            have hxx : (!z.toList == s.toList) = true := by
              have : ¬ z.toList = s.toList := fun q => hx ((str_dec _ _).1 q)
              simpa using this
            clear HP hx hok hkk hz
            go_wp2_with (first | (go_at_call 9; refine (VL.out _).mono ?_; rintro en w6 ⟨rfl, hb⟩; have B6 := Lib.hid (blk_below NB.out hb); have D6 := Lib.hid (blk_below DB.out hb); have K6 := Lib.hid (below_step KB.out hb); obtain ⟨n0, n1, n2, n3, n4, n5⟩ := cells6 B6.out; clear hb) | (go_at_call 11; refine (TX.out _).mono ?_; rintro en w7 ⟨rfl, hb⟩; have B7 := Lib.hid (blk_below B6.out hb); have D7 := Lib.hid (blk_below D6.out hb); have K7 := Lib.hid (below_step K6.out hb); obtain ⟨n0, n1, n2, n3, n4, n5⟩ := cells6 B7.out; obtain ⟨d0, d1, d2, d3, d4, d5⟩ := cells6 D7.out; have g0 := blk_frozen D7.out 0; have g1 := blk_frozen D7.out 1; have g2 := blk_frozen D7.out 2; have g3 := blk_frozen D7.out 3; have g4 := blk_frozen D7.out 4; have g5 := blk_frozen D7.out 5; clear hb))
            refine bodyPost_ret (res6 rfl _ _ w.heap.size 25 #[.int .i64 0, .int .i64 0, .int .i64 0, .int .i64 0, .int .i64 0, .int .i32 0] (0, 0) _ rfl (blk_put (blk_put (blk_put (blk_put (blk_put (blk_put D7.out 0 _ rfl) 1 _ rfl) 2 _ rfl) 3 _ rfl) 4 _ rfl) 5 _ rfl) Tryz.underlying25 rfl (by kernel_rfl)) rfl ?_
            unfold RqP
            rw [E.out]
            exact ⟨rfl, ((((((K7.out).setCell (Nat.le_refl _) _).setCell (Nat.le_refl _) _).setCell (Nat.le_refl _) _).setCell (Nat.le_refl _) _).setCell (Nat.le_refl _) _).setCell (Nat.le_refl _) _⟩
        · skip
          have hkk : decide (okN ⟨(refP a).1, (refP a).2.1, (refP b).1, (refP b).2.1, v, u⟩) = false := decide_eq_false hok
          rw [hkk] at VL
          have E := Lib.hid (show nodP s = (zN, 6) from HP.out.trans (if_neg (fun h => hok h.2.1)))
          clear HP TX
          go_wp2_with (go_at_call 9; refine (VL.out _).mono ?_; rintro en w6 ⟨rfl, hb⟩; have B6 := Lib.hid (blk_below NB.out hb); have D6 := Lib.hid (blk_below DB.out hb); have K6 := Lib.hid (below_step KB.out hb); obtain ⟨n0, n1, n2, n3, n4, n5⟩ := cells6 B6.out; obtain ⟨d0, d1, d2, d3, d4, d5⟩ := cells6 D6.out; have g0 := blk_frozen D6.out 0; have g1 := blk_frozen D6.out 1; have g2 := blk_frozen D6.out 2; have g3 := blk_frozen D6.out 3; have g4 := blk_frozen D6.out 4; have g5 := blk_frozen D6.out 5; clear hb)
          refine bodyPost_ret (res6 rfl _ _ w.heap.size 25 #[.int .i64 0, .int .i64 0, .int .i64 0, .int .i64 0, .int .i64 0, .int .i32 0] (0, 0) _ rfl (blk_put (blk_put (blk_put (blk_put (blk_put (blk_put D6.out 0 _ rfl) 1 _ rfl) 2 _ rfl) 3 _ rfl) 4 _ rfl) 5 _ rfl) Tryz.underlying25 rfl (by kernel_rfl)) rfl ?_
          unfold RqP
          rw [E.out]
          exact ⟨rfl, ((((((K6.out).setCell (Nat.le_refl _) _).setCell (Nat.le_refl _) _).setCell (Nat.le_refl _) _).setCell (Nat.le_refl _) _).setCell (Nat.le_refl _) _).setCell (Nat.le_refl _) _⟩
  · have E := Lib.hid (show nodP s = (zN, 6) from nodP_len (by rw [← hW, List.length_map]; exact h4))
    have hi : ¬ (W.length : Int) = 4 := by omega
    have b0 : ((W.length : Int) == 4) = false := beq_eq_false_iff_ne.2 hi
    have b1 : ((W.length : Int) != 4) = true := bne_iff_ne.2 hi
    clear hW hl h4
    go_enter Tryz.func12, Tryz.ntmps12
    go_wp2_with (go_at_call 31; refine (WD.out _).mono ?_; rintro en w1 ⟨v0, rfl, hr, hbl⟩; have D1 := Lib.hid (blk_below (blk_new w _) hbl); have K1 := Lib.hid (below_step (below_alloc (Below.refl _ _) _) hbl); obtain ⟨A, cp, rfl, _, _⟩ := Kd.R_reads hr; obtain ⟨d0, d1, d2, d3, d4, d5⟩ := cells6 D1.out; have g0 := blk_frozen D1.out 0; have g1 := blk_frozen D1.out 1; have g2 := blk_frozen D1.out 2; have g3 := blk_frozen D1.out 3; have g4 := blk_frozen D1.out 4; have g5 := blk_frozen D1.out 5; clear hr hbl)
    refine bodyPost_ret (res6 rfl _ _ w.heap.size 25 #[.int .i64 0, .int .i64 0, .int .i64 0, .int .i64 0, .int .i64 0, .int .i32 0] (0, 0) _ rfl (blk_put (blk_put (blk_put (blk_put (blk_put (blk_put D1.out 0 _ rfl) 1 _ rfl) 2 _ rfl) 3 _ rfl) 4 _ rfl) 5 _ rfl) Tryz.underlying25 rfl (by kernel_rfl)) rfl ?_
    unfold RqP
    rw [E.out]
    exact ⟨rfl, ((((((K1.out).setCell (Nat.le_refl _) _).setCell (Nat.le_refl _) _).setCell (Nat.le_refl _) _).setCell (Nat.le_refl _) _).setCell (Nat.le_refl _) _).setCell (Nat.le_refl _) _⟩
end Go.Proofs.YtamggklblaigpaaGreatDoor.Nx
