/- Numbers in hexadecimal: the walks of strconv.FormatInt at base 16. -/
import Derived.Test.YtphgoaacmkagmaaDoorFr
import Derived.Test.YtphgoaacmkagmaaDoorHx
import Derived.Test.YtphgoaacmkagmaaDoorPAllx0
import Derived.Lib.BufferKept
import Derived.BigCall
namespace Go.Proofs.YtphgoaacmkagmaaDoor.Hx
open Go Go.RowKit Go.Proofs Go.Proofs.YtphgoaacmkagmaaDoorW.PrintWords Go.Proofs.YtphgoaacmkagmaaDoor.Kit Go.Proofs.YtphgoaacmkagmaaDoor.PAll
set_option linter.unusedSimpArgs false
set_option linter.unusedVariables false

/-- What the walks ask of package variables. -/
structure HOK (w : World) : Prop where
  deb : w.cell? ⟨8, 15, none⟩ = some (.int .u8 4)
  syn : ∃ t p, w.cell? ⟨4, 0, none⟩ = some (.iface t p)
  rng : ∃ t p, w.cell? ⟨5, 0, none⟩ = some (.iface t p)
theorem cell_keep {w w' : World} {b i : Nat} {v : Value} (h : w.cell? ⟨b, i, none⟩ = some v) (hb : Below w.heap.size w w') : w'.cell? ⟨b, i, none⟩ = some v :=
  (hb.cell (p := ⟨b, i, none⟩) (World.block_lt_of_cell? w _ h)).trans h
theorem HOK.below {w w' : World} (h : HOK w) (hb : Below w.heap.size w w') : HOK w' :=
  ⟨cell_keep h.deb hb, h.syn.imp fun _ q => q.imp fun _ q => cell_keep q hb, h.rng.imp fun _ q => q.imp fun _ q => cell_keep q hb⟩
theorem tz_any (w : World) (h : w.cell? ⟨8, 15, none⟩ = some (.int .u8 4)) : Calls Tryd.prog 88 #[.int .u64 16] w fun e w' => e = .returned (.int .i64 4) ∧ w = w' := by
  have he : IntKind.u64.wrap (bits BinOp.and IntKind.u64 16 (IntKind.u64.wrap (-16)) * 285870213051353865) / 288230376151711744 = 15 := by decide +kernel
  go_enter Tryd.func88, Tryd.ntmps88
  go_wp2
  go_ret
  exact ⟨rfl, rfl⟩
theorem pow2_any (w : World) : Calls Tryd.prog 87 #[.int .i64 16] w fun e w' => e = .returned (.bool true) ∧ w = w' := by
  go_enter Tryd.func87, Tryd.ntmps87
  go_wp2
  go_ret
  exact ⟨rfl, rfl⟩
/-- The digits' names. -/
def digs : ByteArray := ⟨#[48, 49, 50, 51, 52, 53, 54, 55, 56, 57, 97, 98, 99, 100, 101, 102, 103, 104, 105, 106, 107, 108, 109, 110, 111, 112, 113, 114, 115, 116, 117, 118, 119, 120, 121, 122]⟩
theorem digs_at : ∀ n, n < 16 → digs.data[n]? = some (dlo n) := by decide
theorem idx_digs (d : Nat) (hd : d < 16) (W : World) : (Instr.index 9 (.string digs) (.int .u64 (d : Int))).run Tryd.prog W = .ok (.int .u8 ((dlo d).toNat : Int)) W := by
  have hs : digs.size = 36 := by decide
  rw [run_index_string W 9 digs .u64 _ Tryd.underlying9, dif_pos ⟨by omega, by rw [hs]; omega⟩]
  have := digs_at d hd
  have h2 : d < digs.data.size := by have : digs.data.size = 36 := by decide
                                     omega
  rw [Array.getElem?_eq_getElem h2] at this
  injection this with this
  rw [← this]
  simp [ByteArray.getElem_eq_getElem_data]
/-- The array's cells while the last digits are written. -/
def arrCs (ds : List Nat) : List Value := List.replicate (65 - ds.length) (Value.int .u8 0) ++ ds.map (fun d => Value.int .u8 ((dlo d).toNat : Int))
theorem zero_arr : Tryd.zeroCells126 = (arrCs []).toArray := by kernel_rfl
theorem arr_put (d : Nat) (ds : List Nat) (m : Nat) (h : m + ds.length = 64) : (arrCs ds).toArray.setIfInBounds m (Value.int .u8 ((dlo d).toNat : Int)) = (arrCs (d :: ds)).toArray := by
  unfold arrCs
  rw [List.length_cons, show 65 - (ds.length + 1) = m by omega, show 65 - ds.length = m + 1 by omega]
  rw [List.setIfInBounds_toArray]
  congr 1
  rw [List.replicate_succ', List.append_assoc, List.set_append_right _ _ (by simp)]
  simp
theorem arr_zero (ds : List Nat) (m : Nat) (h : m + ds.length < 65) : (arrCs ds).toArray[m]? = some (Value.int .u8 0) := by
  unfold arrCs
  rw [List.getElem?_toArray, List.getElem?_append_left (by simp; omega), List.getElem?_replicate, if_pos (by omega)]
theorem and15 (u : Nat) (hu : u < 18446744073709551616) : bits .and .u64 (u : Int) 15 = ((u % 16 : Nat) : Int) := by
  have := bits_mask .u64 64 (by decide) (fun n h1 h2 => by simp [IntKind.wrap, IntKind.bits, IntKind.signed]; omega) 4 (by decide) (u : Int) (by omega) (by omega)
  simpa using this
theorem cut_arr (g m : Nat) (hm : m < 65) (W : World) : (Instr.sliceAt 126 (.pointer (some ⟨g, 0, none⟩)) (some (.int .i64 (m : Int))) none none).run Tryd.prog W = .ok (.slice (some ⟨g, m, none⟩) (65 - m) (65 - m)) W := by
  have hal : Tryd.prog.arrayLen 126 = 65 := by simp [Program.arrayLen, Tryd.underlying126]
  have hel : Tryd.prog.elem 126 = 5 := by simp [Program.elem, Tryd.underlying126]
  have hsz : ∀ W, (sizeOf 5).run Tryd.prog W = .ok 1 W := fun W => by kernel_rfl
  rw [run_sliceAt_array_l W 126 ⟨g, 0, none⟩ (by rw [hal, hel]; exact Tryd.underlying126) .i64 (m : Int) (by omega) (by rw [hal]; omega), hel, hsz, hal]
  show Result.ok (slicedAt _ _ _ _ 1) W = _
  unfold slicedAt
  rw [Int.toNat_natCast, if_neg (by omega), Nat.mul_one, add_plain]
/-- The written digits, read as a row. -/
theorem arr_C {w : World} {g : Nat} (ds : List Nat) (m : Nat) (hm : m + ds.length = 65) (h : w.heap[g]? = some (.cells (arrCs ds).toArray 126 (0, 0))) : (Kd.int .u8).C w (some ⟨g, m, none⟩) (65 - m) (ds.map (fun d => ((dlo d).toNat : Int))) := by
  refine ⟨by rw [List.length_map]; omega, by omega, fun _ => ⟨_, rfl, fun j p hj => ⟨[.int .u8 p], rfl, rfl, fun i v hv => ?_⟩⟩⟩
  cases i with
  | zero =>
    have hv : Value.int .u8 p = v := by simpa [Kd.int, Kd.scalar] using hv
    subst hv
    have hz : (⟨g, m, none⟩ : Addr).add (j * (Kd.int .u8).sz + 0) = ⟨g, m + j, none⟩ := by
      have : (Kd.int .u8).sz = 1 := rfl
      rw [this, Nat.mul_one, Nat.add_zero]
      unfold Addr.add
      split <;> simp_all
    rw [hz, blk_cell h]
    unfold arrCs
    rw [List.getElem?_toArray, List.getElem?_append_right (by simp; omega), List.length_replicate, show m + j - (65 - ds.length) = j by omega, List.getElem?_map]
    rw [List.getElem?_map] at hj
    cases hd : ds[j]? with
    | none => rw [hd] at hj; cases hj
    | some d => rw [hd] at hj; simpa using hj
  | succ i => simp at hv
theorem str_digits (ds : List Nat) : strOfNums (ds.map (fun d => ((dlo d).toNat : Int))) = ⟨(ds.map dlo).toArray⟩ := by
  unfold strOfNums
  congr 1
  rw [List.map_map]
  congr 1
  apply List.map_congr_left
  intro d _
  simp
set_option maxHeartbeats 8000000 in
set_option maxRecDepth 100000 in
theorem fbits_any (n : Nat) (hn : n < 4294967296) (w : World) (h : w.cell? ⟨8, 15, none⟩ = some (.int .u8 4)) :
    Calls Tryd.prog 70 #[.slice none 0 0, .int .u64 n, .int .i64 16, .bool false, .bool false] w fun e w' => e = .returned (.tuple #[.slice none 0 0, .string ⟨(hexL n).toArray⟩]) ∧ Below w.heap.size w w' := by
  have P2 := Lib.hid (pow2_any)
  have TZ := Lib.hid (fun W (hW : Below w.heap.size w W) => tz_any W (cell_keep h hW))
  have h1 : (n : Int) ≤ 4294967295 := by omega
  have HN := Lib.hid hn
  clear h hn
  go_enter Tryd.func70, Tryd.ntmps70
  go_wp2_with (go_at_call 87; refine (P2.out _).mono ?_; rintro en w1 ⟨rfl, rfl⟩)
  have hbB := below_alloc (Below.refl w.heap.size w) (.cells Tryd.zeroCells126 126)
  have hGB := blk_new w (.cells Tryd.zeroCells126 126)
  rw [zero_arr] at hbB hGB ⊢
  have KB := Lib.hid hbB
  have GB := Lib.hid hGB
  have GE := Lib.hid (Nat.le_refl w.heap.size)
  refine (TZ.out _ KB.out).mono ?_
  clear hbB hGB
  generalize w.alloc (Obj.cells (arrCs []).toArray 126) = w2 at *
  rintro en w1 ⟨rfl, rfl⟩
  generalize hg : w.heap.size = g at GB ⊢
  have GE := Lib.hid (show w.heap.size ≤ g by omega)
  clear hg
  go_wp2
  go_loopw [1, 13] (fun vu vi wr => ∃ (ds : List Nat) (u m : Nat), vu = .int .u64 u ∧ vi = .int .i64 ((m : Int) + 1) ∧ m + ds.length = 64 ∧ ds.length ≤ 7 ∧ hexD 8 n = hexD (8 - ds.length) u ++ ds ∧ u < 16 ^ (8 - ds.length) ∧ wr.heap[g]? = some (.cells (arrCs ds).toArray 126 (0, 0)) ∧ Below w.heap.size w wr) (fun vu _ _ => (intOf vu).toNat)
  case atStart => exact ⟨[], n, 64, rfl, by go_num, by simp, by simp, by simp, by simpa using HN.out, GB.out, KB.out⟩
  case round =>
    clear KB GB HN
    obtain ⟨ds, u, m, rfl, rfl, hm, hl, hD, hu, hG, hB⟩ := hrel
    have KB := Lib.hid hB
    have GB := Lib.hid hG
    have HD := Lib.hid hD
    have HU := Lib.hid hu
    have hu8 : u < 4294967296 := Nat.lt_of_lt_of_le hu (Nat.le_trans (Nat.pow_le_pow_right (by omega) (show 8 - ds.length ≤ 8 by omega)) (by decide))
    have HM := Lib.hid hm
    have HL := Lib.hid hl
    have hm65 : (m : Int) ≤ 64 := by omega
    have hfz := blk_frozen hG m
    have hcl := (blk_cell hG m).trans (arr_zero ds m (by omega))
    clear hG hB hD hu hm hl
    by_cases h16 : 16 ≤ u
    · have hd : decide ((16 : Int) ≤ (u : Int)) = true := decide_eq_true (by omega)
      have hand := and15 u (by omega)
      have hidx := idx_digs (u % 16) (by omega)
      unfold digs at hidx
      have hdv : (((u % 16 : Nat) : Int)) ≤ 15 := by omega
      generalize hq : ((u % 16 : Nat) : Int) = q at hand hidx
      go_wp2
      go_roundw
      case rel =>
        have hl := HL.out
        have hm := HM.out
        have hD := HD.out
        have hu := HU.out
        have h6 : ds.length ≤ 6 := by
          rcases Nat.lt_or_ge ds.length 7 with q | q
          · omega
          · rw [show ds.length = 7 by omega] at hu
            omega
        obtain ⟨k, hk⟩ : ∃ k, 8 - ds.length = k + 1 := ⟨7 - ds.length, by omega⟩
        rw [hk] at hD hu
        refine ⟨(u % 16) :: ds, u / 16, m - 1, by rw [Int.natCast_ediv]; rfl, by congr 1; omega, by simp; omega, by simp; omega, ?_, ?_, blk_put GB.out m _ (arr_put _ _ _ hm), KB.out.setCell GE.out _⟩
        · rw [hD]
          conv => lhs; unfold hexD
          rw [if_neg (by omega), List.length_cons, show 8 - (ds.length + 1) = k by omega, List.append_assoc]
          rfl
        · rw [List.length_cons, show 8 - (ds.length + 1) = k by omega]
          rw [Nat.pow_succ] at hu
          omega
      case measure => simp [intOf]; omega
    · have hd : decide ((16 : Int) ≤ (u : Int)) = false := decide_eq_false (by omega)
      have hidx := idx_digs u (by omega)
      unfold digs at hidx
      have hu15 : (u : Int) ≤ 15 := by omega
      have hsl := cut_arr g m (by omega)
      have hcv := Kd.C_string (P := Tryd.prog) (c := 65 - m) Tryd.underlying29 Tryd.underlying5 Tryd.underlying9 (by have := arr_C (u :: ds) m (by have := HM.out; simp; omega) (blk_put GB.out m _ (arr_put u ds m HM.out)); rw [show 65 - m = ((u :: ds).map (fun d => ((dlo d).toNat : Int))).length by have := HM.out; simp; omega] at this; exact this)
      rw [str_digits] at hcv
      rw [show ((u :: ds).map (fun d => ((dlo d).toNat : Int))).length = 65 - m by have := HM.out; simp; omega] at hcv
      have HR := Lib.hid (show (u :: ds).map dlo = hexL n by
        unfold hexL
        rw [HD.out]
        have hl := HL.out
        obtain ⟨k, hk⟩ : ∃ k, 8 - ds.length = k + 1 := ⟨7 - ds.length, by omega⟩
        rw [hk]
        unfold hexD
        rw [if_pos (by omega)]
        rfl)
      rw [HR.out] at hcv
      go_wp2
      go_ret2
      exact ⟨rfl, KB.out.setCell GE.out _⟩
theorem fmt_any (n : Nat) (hn : n < 4294967296) (w : World) (h : w.cell? ⟨8, 15, none⟩ = some (.int .u8 4)) :
    Calls Tryd.prog 41 #[.int .i64 n, .int .i64 16] w fun e w' => e = .returned (.string ⟨(hexL n).toArray⟩) ∧ Below w.heap.size w w' := by
  have FB := Lib.hid (fun W (hW : Below w.heap.size w W) => fbits_any n hn W (cell_keep h hW))
  have h1 : (n : Int) ≤ 4294967295 := by omega
  have IF : Calls Tryd.prog 54 #[.int .i64 n, .int .i64 16] w fun e w' => e = .returned (.string ⟨(hexL n).toArray⟩) ∧ Below w.heap.size w w' := by
    clear h hn
    go_enter Tryd.func54, Tryd.ntmps54
    go_wp2_with (go_at_call 70; refine (FB.out _ (by first | exact Below.refl _ _ | exact below_alloc (Below.refl _ _) _)).mono ?_; rintro en w1 ⟨rfl, hb⟩; have KB := Lib.hid hb; clear hb)
    go_ret
    exact ⟨rfl, KB.out⟩
  have IF := Lib.hid IF
  clear h hn FB
  go_enter Tryd.func41, Tryd.ntmps41
  go_wp2_with (go_at_call 54; refine IF.out.mono ?_; rintro en w1 ⟨rfl, hb⟩; have KB := Lib.hid hb; clear hb)
  go_ret
  exact ⟨rfl, KB.out⟩
end Go.Proofs.YtphgoaacmkagmaaDoor.Hx
