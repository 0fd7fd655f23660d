/- Layer 17: CanonStates of layer 17, walked by hand, as its row calls it: it answers true for every state and every bytes. -/
import Derived.Test.YtfbjbajbjlcjfaaCt
import Derived.Test.YtfbjbajbjlcjfaaCfs
import Derived.Test.YtfbjbajbjlcjfaaPCanonStatesx5
import Derived.Test.YtfbjbajbjlcjfaaPCanonStatesx13
import Derived.Laws.CopyOwn
import Derived.Laws.MakeOwn
namespace Go.Proofs.Ytfbjbajbjlcjfaa.Cn
open Go Go.RowKit Go.Proofs Go.Proofs.Ytfbjbajbjlcjfaa.Vn Go.Proofs.Ytfbjbajbjlcjfaa.Kit Go.Proofs.Ytfbjbajbjlcjfaa.PCanonStates Go.Proofs.YtfbjbajbjlcjfaaW.PrintWords
set_option linter.unusedSimpArgs false
set_option linter.unusedVariables false

theorem diff38 (x y : S38) : (((!((x.f0.f0) == (y.f0.f0)) || (!((x.f0.f1) == (y.f0.f1)))) || ((!((x.f1.f0) == (y.f1.f0)) || (!((x.f1.f1) == (y.f1.f1)))) || (!((x.f2) == (y.f2)) || (!((x.f3) == (y.f3)))))) = true) ↔ x ≠ y := by
  obtain ⟨⟨a, b⟩, ⟨c, d⟩, e, f⟩ := x
  obtain ⟨⟨a', b'⟩, ⟨c', d'⟩, e', f'⟩ := y
  simp only [Bool.or_eq_true, Bool.not_eq_true', beq_eq_false_iff_ne, ne_eq, S38.mk.injEq, S36.mk.injEq]
  omega
theorem eq_get {α : Type} (z : α) {a b : List α} (hl : a.length = b.length) (h : ∀ j, j < a.length → a.getD j z = b.getD j z) : a = b := by
  apply List.ext_getElem hl
  intro j h1 h2
  have := h j h1
  rw [List.getD_eq_getElem?_getD, List.getD_eq_getElem?_getD, List.getElem?_eq_getElem h1, List.getElem?_eq_getElem h2] at this
  exact this
theorem same_l0 (a b : List S38) (hl : a.length = b.length) (ha : a.length ≤ 1000000) : ∀ (m i : Nat), m + i = a.length → (∀ j, j < i → a.getD j z38 = b.getD j z38) →
    ∃ r, redpencilref14_Same.l0 (m + 1) a b (i : Int) = some r ∧ (r = true ↔ a = b)
  | m, i, hm, hall => by
    unfold redpencilref14_Same.l0
    by_cases h : i < a.length
    · obtain ⟨m, rfl⟩ : ∃ m', m = m' + 1 := ⟨m - 1, by omega⟩
      have r1 : rd_T38 a (i : Int) = a.getD i z38 := by unfold rd_T38; rw [Int.toNat_natCast]
      have r2 : rd_T38 b (i : Int) = b.getD i z38 := by unfold rd_T38; rw [Int.toNat_natCast]
      rw [if_pos (by omega), if_pos (by omega), if_pos (by omega), r1, r2, show wrap64 ((i : Int) + 1) = ((i + 1 : Nat) : Int) by rw [w64 (by omega) (by omega)]; omega]
      by_cases q : a.getD i z38 = b.getD i z38
      · rw [if_neg (fun e => (diff38 _ _).1 e q)]
        refine same_l0 a b hl ha m (i + 1) (by omega) (fun j hj => ?_)
        rcases Nat.lt_or_ge j i with p | p
        · exact hall j p
        · obtain rfl : j = i := by omega
          exact q
      · rw [if_pos ((diff38 _ _).2 q)]
        exact ⟨false, rfl, ⟨(fun e => by cases e), fun e => absurd (by rw [e]) q⟩⟩
    · rw [if_neg (by omega)]
      exact ⟨true, rfl, ⟨fun _ => eq_get z38 hl (fun j hj => hall j (by omega)), fun _ => rfl⟩⟩
theorem same_f (a b : List S38) (ha : a.length ≤ 60) {k : Nat} (hk : 61 ≤ k) : ∃ r, redpencilref14_Same.f k a b = some r ∧ (r = true ↔ a = b) := by
  unfold redpencilref14_Same.f
  by_cases h : a.length = b.length
  · rw [if_pos (by omega)]
    obtain ⟨r, h1, h2⟩ := same_l0 a b h (by omega) a.length 0 rfl (fun j hj => by omega)
    exact ⟨r, leO_up (g := fun k => redpencilref14_Same.l0 k a b 0) (fun k => redpencilref14_Same.mono_l k a b 0) h1 k (by omega), h2⟩
  · rw [if_neg (by omega)]
    exact ⟨false, rfl, ⟨(fun e => by cases e), fun e => absurd (by rw [e]) h⟩⟩

theorem right_f (xs : List S38) (hl : xs.length ≤ 60) {k : Nat} (hk : 61 ≤ k) (b : Bool) (hb : b = true ↔ StoreOk xs) : redpencilref17_Right.f k xs = some b := by
  obtain ⟨q, hq, hi⟩ := store_f xs (by omega)
  have hq := leO_up (redpencilref14_Store.mono xs) hq k (by omega)
  unfold redpencilref17_Right.f
  rw [hq, Option.bind_some]
  have e : q = b := by rw [Bool.eq_iff_iff, hi, hb]
  subst e
  cases q with
  | true => rw [if_pos rfl, decide_eq_true (by omega)]
  | false => rfl
theorem known_be (W : World) : Calls Try.prog 8 #[] W (BeP (.bool true) W) := redpencillaw17_known.calls 60 true W (known_f (Nat.le_refl _))
theorem right_be (A : Option Addr) (c : Nat) (xs : List S38) (hl : xs.length ≤ 60) (b : Bool) (hb : b = true ↔ StoreOk xs) (W : World) (hx : k38.C W A xs.length xs) (hc : xs.length ≤ c) :
    Calls Try.prog 9 #[.slice A xs.length c] W (BeP (.bool b) W) := redpencilref17_Right.calls 61 A c xs b W hx hc (right_f xs hl (by omega) b hb)
theorem C8_nil (W : World) : k8.C W none 0 [] := ⟨rfl, by omega, fun h => absurd h (by omega)⟩
theorem states_long (A : Option Addr) (c : Nat) (xs : List S38) (Ab : Option Addr) (cb : Nat) (b : List Int) (w : World) (lx : xs.length ≤ 9223372036854775807) (lb : b.length ≤ 9223372036854775807) (h : 60 < xs.length ∨ 60 < b.length) :
    Calls Try.prog 3 #[.slice A xs.length c, .slice Ab b.length cb] w (BeP (.bool true) w) := by
  by_cases q : 60 < xs.length
  · have hd : decide ((60 : Int) < (xs.length : Int)) = true := decide_eq_true (by omega)
    clear h q
    go_enter Try.func3, Try.ntmps3
    go_wp2_with (go_at_call 8; refine (known_be _).mono ?_; rintro en w1 ⟨rfl, hb⟩; have KB := Lib.hid hb; clear hb)
    go_ret
    exact ⟨rfl, KB.out⟩
  · have hd : decide ((60 : Int) < (xs.length : Int)) = false := decide_eq_false (by omega)
    have hd2 : decide ((60 : Int) < (b.length : Int)) = true := decide_eq_true (by omega)
    clear h q
    go_enter Try.func3, Try.ntmps3
    go_wp2_with (go_at_call 8; refine (known_be _).mono ?_; rintro en w1 ⟨rfl, hb⟩; have KB := Lib.hid hb; clear hb)
    go_ret
    exact ⟨rfl, KB.out⟩
theorem states_bad (A : Option Addr) (c : Nat) (xs : List S38) (Ab : Option Addr) (cb : Nat) (b : List Int) (w : World) (hx : k38.C w A xs.length xs) (hc : xs.length ≤ c) (hb : k8.C w Ab b.length b) (lx : xs.length ≤ 60) (lb : b.length ≤ 60) (h : ¬ StoreOk xs) :
    Calls Try.prog 3 #[.slice A xs.length c, .slice Ab b.length cb] w (BeP (.bool true) w) := by
  have hd : decide ((60 : Int) < (xs.length : Int)) = false := decide_eq_false (by omega)
  have hd2 : decide ((60 : Int) < (b.length : Int)) = false := decide_eq_false (by omega)
  have RI := Lib.hid (right_be A c xs lx false ⟨fun q => Bool.noConfusion q, fun q => absurd q h⟩ w hx hc)
  have EN := Lib.hid (fun W (hW : Below w.heap.size w W) => encodes_yes A c xs [] 2 none 0 W (Kd.C_below hx hW) hc (by omega) (.inl ⟨h, rfl, rfl⟩) (C8_nil W))
  have AP := Lib.hid (fun W (hW : Below w.heap.size w W) => appends_yes Ab cb b A c xs [] 2 none 0 [] W (Kd.C_below hb hW) (by omega) (Kd.C_below hx hW) hc (by omega) (.inl ⟨h, rfl, rfl⟩) (C8_nil W) rfl)
  have SI := Lib.hid (fun W (hW : Below w.heap.size w W) => sizes_yes A c xs [] 2 W (Kd.C_below hx hW) hc (by omega) (.inl ⟨h, rfl, rfl⟩) 0 rfl)
  have lx2 : xs.length ≤ 9223372036854775807 := by omega
  have lb2 : b.length ≤ 9223372036854775807 := by omega
  clear h hx hb hc lx lb
  go_enter Try.func3, Try.ntmps3
  go_wp2_with (first | (go_at_call 9; refine RI.out.mono ?_; rintro en w1 ⟨rfl, hb⟩; have KB := Lib.hid hb; clear hb) | (go_at_call 10; refine (EN.out _ KB.out).mono ?_; rintro en w1 ⟨rfl, hb⟩; have KB := Lib.hid (below_step KB.out hb); clear hb) | (go_at_call 11; refine (AP.out _ KB.out).mono ?_; rintro en w1 ⟨rfl, hb⟩; have KB := Lib.hid (below_step KB.out hb); clear hb) | (go_at_call 12; refine (SI.out _ KB.out).mono ?_; rintro en w1 ⟨rfl, hb⟩; have KB := Lib.hid (below_step KB.out hb); clear hb) | (go_at_call 8; refine (known_be _).mono ?_; rintro en w1 ⟨rfl, hb⟩; have KB := Lib.hid (below_step KB.out hb); clear hb))
  go_ret
  exact ⟨rfl, KB.out⟩

/-- The room's block: the bytes, and six hundred zeros behind them. -/
def roomCs (b : List Int) : List Value := splice ((madeCells #[.int .u8 0] (b.length + 600)).toList) 0 (b.map (Value.int .u8))
theorem made_list (n : Nat) : (madeCells #[.int .u8 0] n).toList = List.replicate n (Value.int .u8 0) := by
  apply List.ext_getElem
  · simp [madeCells]
  · intro i h1 h2
    simp [madeCells, Nat.mod_one]
theorem room_eq (b : List Int) : roomCs b = b.map (Value.int .u8) ++ List.replicate 600 (Value.int .u8 0) := by
  unfold roomCs splice
  rw [made_list, List.take_zero, List.nil_append, List.drop_replicate, List.length_map, show b.length + 600 - (0 + b.length) = 600 by omega]
theorem room_C {w : World} {g : Nat} {T : TypeId} (b : List Int) (lb : b.length ≤ 60) (h : w.heap[g]? = some (.cells (roomCs b).toArray T (0, 0))) : k8.C w (some ⟨g, 0, none⟩) b.length b := by
  refine ⟨rfl, by omega, fun _ => ⟨_, rfl, fun j p hj => ⟨[.int .u8 p], rfl, rfl, fun i u hu => ?_⟩⟩⟩
  cases i with
  | zero =>
    have hu : Value.int .u8 p = u := by simpa [Kd.int, Kd.scalar] using hu
    subst hu
    have hjl : j < b.length := by
      rcases Nat.lt_or_ge j b.length with q | q
      · exact q
      · rw [List.getElem?_eq_none q] at hj; cases hj
    rw [add_plain, blk_cell h, room_eq]
    rw [List.getElem?_toArray, List.getElem?_append_left (by simp [Kd.int, Kd.scalar]; omega), List.getElem?_map]
    simp [Kd.int, Kd.scalar, hj]
  | succ i => simp at hu
theorem room_zero {w : World} {g : Nat} {T : TypeId} (b : List Int) (h : w.heap[g]? = some (.cells (roomCs b).toArray T (0, 0))) (j : Nat) (hj : j < 600) : w.cell? ((⟨g, b.length, none⟩ : Addr).add j) = some (.int .u8 0) := by
  rw [show ((⟨g, b.length, none⟩ : Addr).add j) = ⟨g, b.length + j, none⟩ by unfold Addr.add; split <;> simp_all, blk_cell h, room_eq, List.getElem?_toArray, List.getElem?_append_right (by rw [List.length_map]; omega), List.getElem?_replicate]
  rw [if_pos (by rw [List.length_map]; omega)]

theorem make_room (n : Nat) (hn : n ≤ 60) (W : World) : (Instr.makeSlice 24 (.int .i64 (n : Int)) (.int .i64 ((n : Int) + 600))).run Try.prog W = .ok (.slice (some ⟨W.heap.size, 0, none⟩) n (n + 600)) (W.alloc (.cells (madeCells #[.int .u8 0] (n + 600)) 5)) := by
  obtain ⟨i, hi, hz, hsz, hb⟩ := info_parts info8
  have := run_make (P := Try.prog) W 24 5 i (.int .u8 0) Try.underlying24 hi hz .i64 .i64 (n : Int) ((n : Int) + 600) (by omega) (by omega) (by rw [hb]; omega) (by omega)
  rw [hsz, show ((n : Int) + 600).toNat = n + 600 by omega, Int.toNat_natCast, Nat.mul_one] at this
  exact this
theorem cut_room (g n : Nat) (hn : n ≤ 60) (W : World) : (Instr.slice 24 (.slice (some ⟨g, 0, none⟩) n (n + 600)) none (some (.int .i64 ((n : Int) + 600))) none).run Try.prog W = .ok (.slice (some ⟨g, 0, none⟩) (n + 600) (n + 600)) W := by
  obtain ⟨i, hi, hz, hsz, hb⟩ := info_parts info8
  have hel : Try.prog.elem 24 = 5 := by simp [Program.elem, Try.underlying24]
  have hu : Try.prog.underlying 24 = some (.slice (Try.prog.elem 24)) := by rw [hel]; exact Try.underlying24
  rw [run_slice_h W 24 (some ⟨g, 0, none⟩) n (n + 600) hu .i64 _ (by omega) (by omega), hel]
  simp [sizeOf, typeInfo, hi, hsz, sliced, Result.andThen, Addr.add, show ((n : Int) + 600).toNat = n + 600 by omega]
theorem cut_rest (g n : Nat) (hn : n ≤ 60) (W : World) : (Instr.slice 24 (.slice (some ⟨g, 0, none⟩) (n + 600) (n + 600)) (some (.int .i64 (n : Int))) none none).run Try.prog W = .ok (.slice (some ⟨g, n, none⟩) 600 600) W := by
  obtain ⟨i, hi, hz, hsz, hb⟩ := info_parts info8
  have hel : Try.prog.elem 24 = 5 := by simp [Program.elem, Try.underlying24]
  have hu : Try.prog.underlying 24 = some (.slice (Try.prog.elem 24)) := by rw [hel]; exact Try.underlying24
  rw [run_slice_l W 24 (some ⟨g, 0, none⟩) (n + 600) (n + 600) hu .i64 _ (by omega) (by omega), hel]
  simp [sizeOf, typeInfo, hi, hsz, sliced, Result.andThen, Addr.add]
  intro q
  exact q.symm
theorem same_be (A : Option Addr) (c : Nat) (xs : List S38) (A1 : Option Addr) (c1 : Nat) (hl : xs.length ≤ 60) (W : World) (hx : k38.C W A xs.length xs) (hc : xs.length ≤ c) (hy : k38.C W A1 xs.length xs) (hc1 : xs.length ≤ c1) :
    Calls Try.prog 15 #[.slice A xs.length c, .slice A1 xs.length c1] W (BeP (.bool true) W) := by
  obtain ⟨r, hr, hi⟩ := same_f xs xs hl (k := 61) (Nat.le_refl _)
  rw [hi.2 rfl] at hr
  exact (redpencilref14_Same.calls 61 A c xs A1 c1 xs true W hx hc hy hc1 hr).mono fun _ _ ⟨h1, h2⟩ => ⟨h1, h2.below⟩
theorem rbytes_be (A : Option Addr) (c : Nat) (xs : List S38) (hl : xs.length ≤ 60) (hs : StoreOk xs) (W : World) (hx : k38.C W A xs.length xs) (hc : xs.length ≤ c) :
    Calls Try.prog 14 #[.slice A xs.length c] W (Vn.MadeP (canonBs xs) W) := by
  refine (redpencilref17_Bytes.calls 200 A c xs (canonBs xs) W hx hc (rbytes_up (by omega) hs (by omega))).mono ?_
  rintro e w' ⟨v, he, hr, hb⟩
  exact ⟨v, he, Kd.R_mono (Kd.R_bound hr) (fun j hj => hj.2.1), hb⟩

theorem src_C {w : World} {A : Option Addr} {b : List Int} (h : k8.C w A b.length b) (hp : 0 < (b.map (Value.int .u8)).length) : ∃ ad, A = some ad ∧ ∀ j v, (b.map (Value.int .u8))[j]? = some v → w.cell? (ad.add j) = some v := by
  rw [List.length_map] at hp
  obtain ⟨ad, e, _⟩ := h.2.2 hp
  refine ⟨ad, e, fun j v hj => ?_⟩
  rw [List.getElem?_map] at hj
  have hjl : j < b.length := by
    rcases Nat.lt_or_ge j b.length with q | q
    · exact q
    · rw [List.getElem?_eq_none q] at hj; cases hj
  obtain ⟨ad', e', q⟩ := Kd.at_int h (j : Int) (by omega) (by omega)
  rw [e] at e'
  injection e' with e'
  subst e'
  rw [List.getElem?_eq_getElem hjl] at hj
  have hj : Value.int .u8 b[j] = v := by simpa using hj
  subst hj
  simpa [rd, rdOf, List.getElem?_eq_getElem hjl] using q
set_option maxHeartbeats 16000000 in
set_option maxRecDepth 100000 in
theorem states_ok (A : Option Addr) (c : Nat) (xs : List S38) (Ab : Option Addr) (cb : Nat) (b : List Int) (w : World) (hx : k38.C w A xs.length xs) (hc : xs.length ≤ c) (hb : k8.C w Ab b.length b) (hcb : b.length ≤ cb) (lx : xs.length ≤ 60) (lb : b.length ≤ 60) (h : StoreOk xs) :
    Calls Try.prog 3 #[.slice A xs.length c, .slice Ab b.length cb] w (BeP (.bool true) w) := by
  have hd : decide ((60 : Int) < (xs.length : Int)) = false := decide_eq_false (by omega)
  have hd2 : decide ((60 : Int) < (b.length : Int)) = false := decide_eq_false (by omega)
  have hB := canon_len xs h (by omega)
  obtain ⟨L, hL⟩ : ∃ L, L = b ++ canonBs xs := ⟨_, rfl⟩
  have RI := Lib.hid (right_be A c xs lx true ⟨fun q => h, fun q => rfl⟩ w hx hc)
  have CO := Lib.hid (fun W (hW : Below w.heap.size w W) => redpencilref14_Copy.calls A c xs xs W (Kd.C_below hx hW) hc (if_pos (by omega)))
  have RB := Lib.hid (fun W (hW : Below w.heap.size w W) => rbytes_be A c xs lx h W (Kd.C_below hx hW) hc)
  have EN := Lib.hid (fun A1 c1 W (hW : Below w.heap.size w W) (hw : k8.C W A1 (canonBs xs).length (canonBs xs)) => encodes_yes A c xs (canonBs xs) 0 A1 c1 W (Kd.C_below hx hW) hc (by omega) (.inr (.inr ⟨h, by omega, rfl, rfl⟩)) hw)
  have AP := Lib.hid (fun g T A1 c1 W (hW : Below w.heap.size w W) (hG : W.heap[g]? = some (.cells (roomCs b).toArray T (0, 0))) (hw : k8.C W A1 L.length L) => appends_yes (some ⟨g, 0, none⟩) (b.length + 600) b A c xs (canonBs xs) 0 A1 c1 L W (room_C b lb hG) (by omega) (Kd.C_below hx hW) hc (by omega) (.inr (.inr ⟨h, by omega, rfl, rfl⟩)) hw ((if_pos rfl).trans hL.symm))
  have SI := Lib.hid (fun W (hW : Below w.heap.size w W) => sizes_yes A c xs (canonBs xs) 0 W (Kd.C_below hx hW) hc (by omega) (.inr (.inr ⟨h, by omega, rfl, rfl⟩)) (canonBs xs).length rfl)
  have SA := Lib.hid (fun A1 c1 W (hW : Below w.heap.size w W) (hy : k38.C W A1 xs.length xs) (hc1 : xs.length ≤ c1) => same_be A c xs A1 c1 lx W (Kd.C_below hx hW) hc hy hc1)
  have HB := Lib.hid hb
  have HL := Lib.hid lb
  have MK := Lib.hid (make_room b.length lb)
  have C1 := Lib.hid (fun g => cut_room g b.length lb)
  have C2 := Lib.hid (fun g => cut_rest g b.length lb)
  have lx2 : xs.length ≤ 9223372036854775807 := by omega
  have lb2 : b.length ≤ 9223372036854775207 := by omega
  have LB := Lib.hid hB
  have HL2 := Lib.hid hL
  have lL : L.length ≤ 9223372036854775807 := by rw [hL, List.length_append]; omega
  clear hL
  generalize canonBs xs = B at *
  have lB2 : B.length ≤ 9223372036854775807 := by omega
  have hmk := MK.out
  clear h hx hb hc hcb lx lb hB
  go_enter Try.func3, Try.ntmps3
  go_wp2_with (fail)
  refine RI.out.mono ?_
  rintro en w1 ⟨rfl, hb⟩
  have KB := Lib.hid hb
  clear hb
  go_wp2_with (fail)
  refine (CO.out _ KB.out).mono ?_
  rintro en w2 ⟨v2, rfl, hr, hb⟩
  have SZ1 := Lib.hid KB.out.size
  obtain ⟨A2, c2, rfl, hc2, hC2⟩ := Kd.R_reads hr
  have HW := Lib.hid hC2
  have LC := Lib.hid hc2
  have KB := Lib.hid (below_step KB.out hb)
  clear hb hr hC2 hc2
  have hbB := below_alloc (Below.refl w2.heap.size w2) (.cells (madeCells #[Value.int IntKind.u8 0] (b.length + 600)) 5)
  have hGB := blk_new w2 (.cells (madeCells #[Value.int IntKind.u8 0] (b.length + 600)) 5)
  have CB := Lib.hid hbB
  have GB := Lib.hid hGB
  have SB := Lib.hid (src_C (Kd.C_below (Kd.C_below HB.out KB.out) hbB))
  clear hbB hGB
  go_upto_region 11 with (first | ((with_reducible refine wpList_copy_splice rfl (.tmp 44) (.tmp 45) 24 24 rfl 5 Try.underlying24 (by kernel_rfl) (some ⟨w2.heap.size, 0, none⟩) Ab b.length (b.length + 600) b.length cb rfl rfl w2.heap.size 0 (madeCells #[Value.int IntKind.u8 0] (b.length + 600)).toList 5 ?hg (b.map (Value.int .u8)) ?hn ?hpos ?hfit ?h1 w2.heap.size w2 ?hb (Nat.le_refl _) ?_); (case hg => rw [Array.toArray_toList]; exact GB.out); (case hn => simp); (case hpos => exact fun hp => ⟨rfl, SB.out hp⟩); (case hfit => rw [made_list]; simp); (case h1 => intro v hv; obtain ⟨x, _, rfl⟩ := List.mem_map.1 hv; rfl); (case hb => exact CB.out); intro w3 hg3 hb3; have GC := Lib.hid (show w3.heap[w2.heap.size]? = some (.cells (roomCs b).toArray 5 (0, 0)) from hg3.out); have KB := Lib.hid (below_step KB.out hb3); have HW := Lib.hid (Kd.C_below HW.out hb3); clear hg3 hb3 CB GB SB; generalize w2.heap.size = g at *) | ((with_reducible refine gate_builtin (b := .append) (xs := #[.const (.slice none 0 0), .tmp 47]) rfl ?_); at_builtin; refine Kd.R_append_rows k8 (w0 := w3) w3.heap.size rfl (.const (.slice none 0 0)) (.tmp 47) 24 5 (.int .u8 0) 1 rfl Try.underlying24 info8 rfl (by decide) (by omega) (.slice none 0 0) [] b Ab b.length cb (fun j => w3.heap.size ≤ j) (fun _ => False) rfl rfl (Kd.R_nil _ _ _ _ _) (Kd.C_below HB.out KB.out) (fun _ _ h => h) (fun _ h => h.elim) (fun k hk => hk) (Below.refl _ _) (Nat.le_refl _) (by have := HL.out; simp; omega) ?_; intro v7 w7 ho hb hg_ hat; rw [List.nil_append] at ho; have HA := Lib.hid ho; have K3 := Lib.hid hb; clear ho hb hg_ hat) | (go_at_call 14; refine (RB.out _ (below_step KB.out K3.out)).mono ?_; rintro en w8 ⟨v8, rfl, hr, hb⟩; obtain ⟨A8, c8, rfl, _, hC⟩ := Kd.R_reads hr; have CBy := Lib.hid hC; have HA := Lib.hid (Fr.row (d := k8) rfl (Fr.below hb (fun _ => False)) HA.out (fun _ _ h => h)); have K3 := Lib.hid (below_step K3.out hb); clear hr hb hC) | ((with_reducible refine gate_builtin (b := .append) (xs := #[.tmp 48, .tmp 50]) rfl ?_); at_builtin; refine Kd.R_append_rows k8 (w0 := w3) w3.heap.size rfl (.tmp 48) (.tmp 50) 24 5 (.int .u8 0) 1 rfl Try.underlying24 info8 rfl (by decide) (by omega) v7 b B _ _ _ (fun j => w3.heap.size ≤ j) (fun _ => False) rfl rfl HA.out CBy.out (fun _ _ h => h) (fun _ h => h.elim) (fun k hk => Nat.le_trans K3.out.size hk) K3.out K3.out.size (by have := HL.out; have := LB.out; omega) ?_; intro v9 w9 ho hb hg_ hat; rw [← HL2.out] at ho; obtain ⟨A9, c9, rfl, _, _⟩ := Kd.R_reads ho; have HA := Lib.hid ho; have K3 := Lib.hid hb; clear ho hb hg_ hat) | (go_at_call 10; refine (EN.out _ _ _ (below_step KB.out K3.out) CBy.out).mono ?_; rintro en w10 ⟨rfl, hb⟩; have HA := Lib.hid (Fr.row (d := k8) rfl (Fr.below hb (fun _ => False)) HA.out (fun _ _ h => h)); have K3 := Lib.hid (below_step K3.out hb); clear hb) | (go_at_call 11; refine (AP.out _ _ _ _ _ (below_step KB.out K3.out) (blk_below GC.out K3.out) (Kd.R_reads' HA.out).2.2).mono ?_; rintro en w11 ⟨rfl, hb⟩; have HA := Lib.hid (Fr.row (d := k8) rfl (Fr.below hb (fun _ => False)) HA.out (fun _ _ h => h)); have K3 := Lib.hid (below_step K3.out hb); clear hb) | (go_at_call 12; refine (SI.out _ (below_step KB.out K3.out)).mono ?_; rintro en w12 ⟨rfl, hb⟩; have HA := Lib.hid (Fr.row (d := k8) rfl (Fr.below hb (fun _ => False)) HA.out (fun _ _ h => h)); have K3 := Lib.hid (below_step K3.out hb); clear hb) | (go_at_call 15; refine (SA.out _ _ _ (below_step KB.out K3.out) (Kd.C_below HW.out K3.out) LC.out).mono ?_; rintro en w13 ⟨rfl, hb⟩; have HA := Lib.hid (Fr.row (d := k8) rfl (Fr.below hb (fun _ => False)) HA.out (fun _ _ h => h)); have K3 := Lib.hid (below_step K3.out hb); clear hb))
  have hc1 := C1.out g
  have hc2 := C2.out g
  have GR := Lib.hid (blk_below GC.out K3.out)
  have KW := Lib.hid (below_step KB.out K3.out)
  clear K3 HA CBy HW GC KB SZ1 LC EN AP SA SI RB RI CO HB hmk
  go_wp2
  go_loopw [86] (fun i wr => wr = w13 ∧ ∃ k : Nat, k ≤ 600 ∧ i = .int .i64 k) (fun i _ => (600 : Int).toNat - (intOf i).toNat)
  case atStart => exact ⟨rfl, 0, by omega, rfl⟩
  case round =>
    obtain ⟨hw, k, hk, rfl⟩ := hrel
    subst hw
    by_cases hlt : k < 600
    · have q0 := room_zero b GR.out k hlt
      have q1 := q0
      rw [show ((⟨g, b.length, none⟩ : Addr).add k) = ⟨g, b.length + k, none⟩ by unfold Addr.add; split <;> simp_all] at q1
      go_wp2
      go_roundw
      case rel => exact ⟨trivial, k + 1, by omega, by go_num⟩
      case measure => simp [intOf]; omega
    · obtain rfl : k = 600 := by omega
      go_wp2_with (go_at_call 8; refine (known_be _).mono ?_; rintro en w14 ⟨rfl, hb⟩; have KW := Lib.hid (below_step KW.out hb); clear hb)
      go_ret
      exact ⟨rfl, KW.out⟩
theorem canonStates_walk (A : Option Addr) (c : Nat) (xs : List S38) (Ab : Option Addr) (cb : Nat) (b : List Int) (W : World) (hx : k38.C W A xs.length xs) (hc : xs.length ≤ c) (hb : k8.C W Ab b.length b) (hcb : b.length ≤ cb) :
    Calls Try.prog 3 #[.slice A xs.length c, .slice Ab b.length cb] W fun e W' => e = .returned (.bool true) ∧ Below W.heap.size W W' := by
  by_cases hl : 60 < xs.length ∨ 60 < b.length
  · exact states_long A c xs Ab cb b W hx.2.1 hb.2.1 hl
  · by_cases h : StoreOk xs
    · exact states_ok A c xs Ab cb b W hx hc hb hcb (by omega) (by omega) h
    · exact states_bad A c xs Ab cb b W hx hc hb (by omega) (by omega) h
end Go.Proofs.Ytfbjbajbjlcjfaa.Cn
