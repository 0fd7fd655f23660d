/- Writers of layer 1, more: contracts of Num, Int, Put, Bytes, Len, Size, and the law's number. -/
import Derived.Test.YtfcpofkhcfilmaaVw
import Derived.IntWalk
namespace Go.Proofs.Ytfcpofkhcfilmaa.Vn
open Go.RowKit Go.Proofs Go.Proofs.YtfcpofkhcfilmaaW.PrintWords Go.Proofs.Ytfcpofkhcfilmaa.Kit
set_option linter.unusedSimpArgs false
set_option linter.unusedVariables false

set_option maxHeartbeats 1000000 in
theorem bytes_any (w0 w : World) (g : Nat) (v : Value) (xs : List Int) (h : Wr w0 w g v xs) (hl : xs.length ≤ 100000000) : Calls Try.prog 24 #[.pointer (some ⟨g, 0, none⟩)] w (MadeP xs w) := by
  obtain ⟨A0, c0, rfl, hc0, hC0⟩ := h.slice
  have hcell := (blk_cell h.own 0).trans rfl
  have HC := Lib.hid hC0
  clear h hC0
  go_enter Try.func24, Try.ntmps24
  go_wp2_with (go_at_call 40; refine (clone_any A0 c0 xs w HC.out hl).mono ?_; rintro en w1 ⟨v1, rfl, hr, hb⟩; have O := Lib.hid (And.intro hr hb); clear hr hb)
  go_ret
  exact ⟨_, rfl, O.out.1, O.out.2⟩
def LenP (n : Nat) (w : World) (en : Ending) (w' : World) : Prop := en = .returned (.int .i64 n) ∧ Below w.heap.size w w'
theorem len_any (w0 w : World) (g : Nat) (v : Value) (xs : List Int) (h : Wr w0 w g v xs) (hl : xs.length ≤ 100000000) : Calls Try.prog 28 #[.pointer (some ⟨g, 0, none⟩)] w (LenP xs.length w) := by
  have H := Lib.hid h
  clear h
  go_enter Try.func28, Try.ntmps28
  go_wp2_with (go_at_call 24; refine (bytes_any w0 w g v xs H.out hl).mono ?_; rintro en w1 ⟨v1, rfl, hr, hb⟩; obtain ⟨A1, c1, rfl, _, _⟩ := Kd.R_reads hr; have O := Lib.hid hb; clear hr hb)
  go_ret
  exact ⟨rfl, O.out⟩
theorem size_any (n : Nat) (hn : n < 18446744073709551616) (w : World) : Calls Try.prog 11 #[.int .u64 n] w (LenP (enc n).length w) := by
  go_enter Try.func11, Try.ntmps11
  go_wp2_with (go_at_call 39; refine (number_any n hn w).mono ?_; rintro en w1 ⟨v1, rfl, hr, hb⟩; obtain ⟨A1, c1, rfl, _, _⟩ := Kd.R_reads hr; have O := Lib.hid hb; clear hr hb)
  go_ret
  exact ⟨rfl, O.out⟩

/-- Several numbers, one after the other. -/
def encs (ns : List Int) : List Int := ns.flatMap fun n => enc n.toNat
theorem encs_cons (n : Int) (ns : List Int) : encs (n :: ns) = enc n.toNat ++ encs ns := rfl
theorem encs_append (ns ms : List Int) : encs (ns ++ ms) = encs ns ++ encs ms := by unfold encs; simp
theorem encs_one (n : Int) : encs [n] = enc n.toNat := by simp [encs]
def U64 (ns : List Int) : Prop := ∀ n ∈ ns, 0 ≤ n ∧ n ≤ 18446744073709551615
theorem encs_length : ∀ ns, U64 ns → (encs ns).length ≤ 10 * ns.length
  | [], _ => by simp [encs]
  | n :: ns, h => by
    have h1 := encs_length ns (fun m hm => h m (List.mem_cons_of_mem _ hm))
    have h2 := h n List.mem_cons_self
    have h3 := enc_length64 (n := n.toNat) (by omega)
    rw [encs_cons, List.length_append, List.length_cons]
    omega
theorem at_int {k : IntKind} {w : World} {A : Option Addr} {n : Nat} {xs : List Int} (h : (Kd.int k).C w A n xs) (i : Int) (h0 : 0 ≤ i) (h1 : i < n) :
    ∃ ad, A = some ad ∧ w.cell? (ad.add i.toNat) = some (.int k (xs.getD i.toNat 0)) := by
  obtain ⟨ad, c, e, hl, hK, hc⟩ := Kd.C_get h (0 : Int) i h0 h1
  have q0 := hc 0 (.int k (xs.getD i.toNat 0)) (by rw [show c = [.int k (xs.getD i.toNat 0)] from hK]; rfl)
  have e1 : i.toNat * (Kd.int k).sz + 0 = i.toNat := by show i.toNat * 1 + 0 = _; omega
  rw [e1] at q0
  exact ⟨ad, e, q0⟩
theorem take_succ (xs : List Int) (k : Nat) (h : k < xs.length) : xs.take (k + 1) = xs.take k ++ [xs.getD k 0] := by
  rw [List.getD_eq_getElem?_getD, List.getElem?_eq_getElem h, List.take_add_one, List.getElem?_eq_getElem h]
  rfl
theorem mem_getD {xs : List Int} {k : Nat} (h : k < xs.length) : xs.getD k 0 ∈ xs := by
  rw [List.getD_eq_getElem?_getD, List.getElem?_eq_getElem h]
  exact List.getElem_mem h
/-- A list that is no part of the writer's. -/
def Off (A : Option Addr) (n g : Nat) (v : Value) : Prop := ∀ ad, A = some ad → 0 < n → ad.block ≠ g ∧ some ad.block ≠ v.ownBlock
theorem Off.list {k : IntKind} {w w1 : World} {A : Option Addr} {n g : Nat} {v v1 : Value} {xs : List Int} (h : Off A n g v) (hs : WrS w w1 g v v1) (hx : (Kd.int k).C w A n xs) : (Kd.int k).C w1 A n xs :=
  hs.1.list hx fun ad e hp q => by
    have := h ad e hp
    rcases q with q | q
    · exact this.1 q
    · exact this.2 q
set_option maxHeartbeats 2000000 in
theorem wnum_any (w0 w : World) (g : Nat) (v : Value) (xs : List Int) (A : Option Addr) (c : Nat) (ns : List Int) (h : Wr w0 w g v xs) (hx : (Kd.int .u64).C w A ns.length ns) (hu : U64 ns) (ho : Off A ns.length g v) (hl : xs.length + 10 * ns.length ≤ 1000000000) :
    Calls Try.prog 21 #[.pointer (some ⟨g, 0, none⟩), .slice A ns.length c] w (WrP w0 w g v (xs ++ encs ns)) := by
  have lx : ns.length ≤ 9223372036854775807 := hx.2.1
  have H := Lib.hid h
  have HX := Lib.hid hx
  have HU := Lib.hid hu
  have HO := Lib.hid ho
  clear h hx hu ho
  go_enter Try.func21, Try.ntmps21
  go_wp2
  go_loopw [8] (fun i wr => ∃ (k : Nat) (v' : Value), k ≤ ns.length ∧ i = .int .i64 k ∧ Wr w0 wr g v' (xs ++ encs (ns.take k)) ∧ WrS w wr g v v') (fun i _ => (ns.length : Int).toNat - (intOf i).toNat)
  case atStart => exact ⟨0, v, by omega, rfl, by simpa [encs] using H.out, WrS.refl _ _ _⟩
  case round =>
    obtain ⟨k, v', hk, rfl, hW, hS⟩ := hrel
    by_cases hlt : k < ns.length
    · obtain ⟨ad, eA, q0⟩ := at_int (HO.out.list hS HX.out) (k : Int) (by omega) (by omega)
      subst eA
      rw [Int.toNat_natCast] at q0
      have hm := HU.out _ (mem_getD hlt)
      have hT := take_succ ns k hlt
      have hlen : (encs (ns.take k)).length ≤ 10 * k := by
        have := encs_length (ns.take k) (fun m hm => HU.out m (List.mem_of_mem_take hm))
        rw [List.length_take] at this
        omega
      generalize hn : ns.getD k 0 = n at *
      obtain ⟨m, rfl⟩ : ∃ m : Nat, n = m := ⟨n.toNat, by omega⟩
      have hm2 : m < 18446744073709551616 := by omega
      have h10 := enc_length64 hm2
      have HW := Lib.hid hW
      have HS := Lib.hid hS
      have HT := Lib.hid hT
      clear hW hS hT hm hn
      go_wp2_with (first | (go_at_call 39; refine (number_any m hm2 _).mono ?_; rintro en w1 ⟨v1, rfl, hr, hb⟩; obtain ⟨A1, c1, rfl, hc1, hC1⟩ := Kd.R_reads hr; have HW := Lib.hid (HW.out.below hb); have HS := Lib.hid (HS.out.then (wr_of_below hb)); have C1 := Lib.hid hC1; clear hr hb hC1) | (go_at_call 38; refine (raw_any w0 _ g v' (xs ++ encs (ns.take k)) (enc m) A1 c1 HW.out C1.out (by rw [List.length_append]; omega)).mono ?_; rintro en w2 ⟨rfl, v2, hW2, hS2⟩; have HW := Lib.hid hW2; have HS := Lib.hid (HS.out.then hS2); clear hW2 hS2))
      go_roundw
      case rel => exact ⟨k + 1, v2, by omega, by go_num, by rw [HT.out, encs_append, encs_one, Int.toNat_natCast, ← List.append_assoc]; exact HW.out, HS.out⟩
      case measure => simp [intOf]; omega
    · go_wp2
      go_end0
      obtain rfl : k = ns.length := by omega
      rw [List.take_length] at hW
      exact ⟨rfl, v', hW, hS⟩

theorem C_one (k : IntKind) (t : TypeId) (W : World) (x : Int) : (Kd.int k).C (W.alloc (.cells #[.int k x] t)) (some ⟨W.heap.size, 0, none⟩) 1 [x] := by
  refine ⟨rfl, by omega, fun _ => ⟨_, rfl, fun j p hj => ?_⟩⟩
  cases j with
  | zero =>
    have hp : x = p := by simpa using hj
    subst hp
    refine ⟨[.int k x], rfl, rfl, fun i u hu => ?_⟩
    rw [add_plain, blk_cell (blk_new W _)]
    cases i with
    | zero => simpa [Kd.int, Kd.scalar] using hu
    | succ i => simp at hu
  | succ j => simp at hj
theorem off_new {w0 w : World} {g : Nat} {v : Value} {xs : List Int} (h : Wr w0 w g v xs) (n : Nat) : Off (some ⟨w.heap.size, 0, none⟩) n g v := by
  rintro ad e _
  injection e with e
  subst e
  refine ⟨Nat.ne_of_gt (blk_lt h.own), fun e => ?_⟩
  have := Kd.R_lt h.row _ e.symm
  exact absurd this (by simp)
/-- One number: the list is a literal. -/
theorem wnum_one (w0 w : World) (g : Nat) (v : Value) (xs : List Int) (n : Int) (h : Wr w0 w g v xs) (hn : 0 ≤ n ∧ n ≤ 18446744073709551615) (hl : xs.length ≤ 100000000) :
    Calls Try.prog 21 #[.pointer (some ⟨g, 0, none⟩), .slice (some ⟨w.heap.size, 0, none⟩) 1 1] (w.alloc (.cells #[.int .u64 n] 22)) (WrP w0 w g v (xs ++ enc n.toNat)) := by
  have hb : Below w.heap.size w (w.alloc (.cells #[.int .u64 n] 22)) := below_alloc (Below.refl _ _) _
  have := wnum_any w0 _ g v xs (some ⟨w.heap.size, 0, none⟩) 1 [n] (h.below hb) (C_one .u64 22 w n) (fun m hm => by obtain rfl : m = n := (by simpa using hm); exact hn) (off_new h 1) (by simp; omega)
  refine this.mono ?_
  rintro en w' ⟨rfl, v', hW, hS⟩
  rw [encs_one] at hW
  exact ⟨rfl, v', hW, (wr_of_below hb).then hS⟩

set_option maxHeartbeats 2000000 in
theorem wint_any (w0 w : World) (g : Nat) (v : Value) (xs : List Int) (A : Option Addr) (c : Nat) (ns : List Int) (h : Wr w0 w g v xs) (hx : (Kd.int .i64).C w A ns.length ns) (hu : ∀ n ∈ ns, -9223372036854775808 ≤ n ∧ n ≤ 9223372036854775807) (ho : Off A ns.length g v) (hl : xs.length + 10 * ns.length ≤ 100000000) :
    Calls Try.prog 22 #[.pointer (some ⟨g, 0, none⟩), .slice A ns.length c] w (WrP w0 w g v (xs ++ encs (ns.map zig))) := by
  have lx : ns.length ≤ 9223372036854775807 := hx.2.1
  have H := Lib.hid h
  have HX := Lib.hid hx
  have HU := Lib.hid hu
  have HO := Lib.hid ho
  clear h hx hu ho
  go_enter Try.func22, Try.ntmps22
  go_wp2
  go_loopw [8] (fun i wr => ∃ (k : Nat) (v' : Value), k ≤ ns.length ∧ i = .int .i64 k ∧ Wr w0 wr g v' (xs ++ encs ((ns.take k).map zig)) ∧ WrS w wr g v v') (fun i _ => (ns.length : Int).toNat - (intOf i).toNat)
  case atStart => exact ⟨0, v, by omega, rfl, by simpa [encs] using H.out, WrS.refl _ _ _⟩
  case round =>
    obtain ⟨k, v', hk, rfl, hW, hS⟩ := hrel
    by_cases hlt : k < ns.length
    · obtain ⟨ad, eA, q0⟩ := at_int (HO.out.list hS HX.out) (k : Int) (by omega) (by omega)
      subst eA
      rw [Int.toNat_natCast] at q0
      have hm := HU.out _ (mem_getD hlt)
      have hT := take_succ ns k hlt
      have hlen : (encs ((ns.take k).map zig)).length ≤ 10 * k := by
        have := encs_length ((ns.take k).map zig) (fun m hm => by
          obtain ⟨q, hq, rfl⟩ := List.mem_map.1 hm
          have := HU.out q (List.mem_of_mem_take hq)
          exact zig_in this.1 this.2)
        rw [List.length_map, List.length_take] at this
        omega
      generalize hn : ns.getD k 0 = n at *
      have hz := zig_in hm.1 hm.2
      obtain ⟨hm0, hm1⟩ := hm
      have HZ := Lib.hid hz
      have HW := Lib.hid hW
      have HS := Lib.hid hS
      have HT := Lib.hid hT
      clear hW hS hT hn hz
      go_wp2_with (first | (go_at_call 14; refine (zig_any n _ hm0 hm1).mono ?_; rintro en w1 ⟨rfl, nd, rfl⟩; have HW := Lib.hid (HW.out.below (pw_below_drewN (Below.refl _ _) nd)); have HS := Lib.hid (HS.out.then (wr_of_below (pw_below_drewN (Below.refl _ _) nd)))) | (go_at_call 21; refine (wnum_one w0 _ g v' (xs ++ encs ((ns.take k).map zig)) (zig n) HW.out HZ.out (by rw [List.length_append]; omega)).mono ?_; rintro en w2 ⟨rfl, v2, hW2, hS2⟩; have HW := Lib.hid hW2; have HS := Lib.hid (HS.out.then hS2); clear hW2 hS2))
      go_roundw
      case rel => exact ⟨k + 1, v2, by omega, by go_num, by rw [HT.out, List.map_append, encs_append, List.map_cons, List.map_nil, encs_one, ← List.append_assoc]; exact HW.out, HS.out⟩
      case measure => simp [intOf]; omega
    · go_wp2
      go_end0
      obtain rfl : k = ns.length := by omega
      rw [List.take_length] at hW
      exact ⟨rfl, v', hW, hS⟩
theorem wint_one (w0 w : World) (g : Nat) (v : Value) (xs : List Int) (n : Int) (t : TypeId) (h : Wr w0 w g v xs) (hn : -9223372036854775808 ≤ n ∧ n ≤ 9223372036854775807) (hl : xs.length ≤ 10000000) :
    Calls Try.prog 22 #[.pointer (some ⟨g, 0, none⟩), .slice (some ⟨w.heap.size, 0, none⟩) 1 1] (w.alloc (.cells #[.int .i64 n] t)) (WrP w0 w g v (xs ++ enc (zig n).toNat)) := by
  have hb : Below w.heap.size w (w.alloc (.cells #[.int .i64 n] t)) := below_alloc (Below.refl _ _) _
  have := wint_any w0 _ g v xs (some ⟨w.heap.size, 0, none⟩) 1 [n] (h.below hb) (C_one .i64 t w n) (fun m hm => by obtain rfl : m = n := (by simpa using hm); exact hn) (off_new h 1) (by simp; omega)
  refine this.mono ?_
  rintro en w' ⟨rfl, v', hW, hS⟩
  rw [show [n].map zig = [zig n] from rfl, encs_one] at hW
  exact ⟨rfl, v', hW, (wr_of_below hb).then hS⟩

end Go.Proofs.Ytfcpofkhcfilmaa.Vn
