/- Runes of strings: the walk of runes.Decode: the characters of a string, or the error. -/
import Derived.Test.YtphgoaacmkagmaaDoorPAllx0
import Derived.Test.YtphgoaacmkagmaaDoorLe
import Derived.Test.YtphgoaacmkagmaaDoorFr
import Derived.Test.YtphgoaacmkagmaaDoorShelf
import Derived.Lib.BufferKept
import Derived.BigCall
namespace Go.Proofs.YtphgoaacmkagmaaDoor.Rn
open Go Go.RowKit Go.Proofs Go.Proofs.YtphgoaacmkagmaaDoorW.PrintWords Go.Proofs.YtphgoaacmkagmaaDoor.Kit Go.Proofs.YtphgoaacmkagmaaDoor.PAll
set_option linter.unusedSimpArgs false
set_option linter.unusedVariables false

def GOK (w : World) : Prop := Lib.Utf8Tabs (Tryd.lays196_ren.g 3) (Tryd.lays196_ren.g 4) w
theorem GOK_below {w w' : World} (h : GOK w) (hb : Below w.heap.size w w') : GOK w' := Utf8Tabs_below h hb
theorem width_pos (s : ByteArray) (pos : Nat) (h : pos < s.size) : 1 ≤ (Utf8.decode s pos).2 := by
  by_cases ha : (s[pos]'h).toNat < 128
  · rw [decode_ascii s pos h ha]
    exact Nat.le_refl _
  · exact (decode_high s pos h (by omega)).2
theorem runesFrom_end (s : ByteArray) (fuel pos : Nat) (h : ¬ pos < s.size) : runesFrom s fuel pos = [] := by
  cases fuel with
  | zero => rfl
  | succ f => simp [runesFrom, h]
theorem decode_rune (s : ByteArray) (pos : Nat) : Lib.validRune ((Utf8.decode s pos).1 : Int) = true := by
  rw [Lib.decode_at]
  unfold Lib.decodeN Lib.validRune
  have h0 : (s.get! pos).toNat < 256 := UInt8.toNat_lt _
  have h1 : (s.get! (pos + 1)).toNat < 256 := UInt8.toNat_lt _
  have h2 : (s.get! (pos + 2)).toNat < 256 := UInt8.toNat_lt _
  have h3 : (s.get! (pos + 3)).toNat < 256 := UInt8.toNat_lt _
  repeat' split
  all_goals first | (simp; done) | (simp; omega)
theorem rvalid_any (r : Int) (hr : Lib.validRune r = true) (w : World) : Calls Tryd.prog 9 #[.int .i32 r] w (fun e w' => e = .returned (.bool (r != 0)) ∧ w = w') := by
  have V := Lib.hid (Tryd.utf8_ValidRune r)
  have hr := Lib.hid hr
  by_cases h0 : r = 0
  · subst h0
    go_enter Tryd.func9, Tryd.ntmps9
    go_wp2
    go_ret
    exact ⟨rfl, rfl⟩
  · have h1 : (r != 0) = true := bne_iff_ne.2 h0
    have h2 : (r == 0) = false := beq_eq_false_iff_ne.2 h0
    clear h0
    go_enter Tryd.func9, Tryd.ntmps9
    go_wp2_with (go_at_call 30; refine (V.out _).mono ?_; rintro en w1 ⟨rfl, rfl⟩)
    go_ret
    exact ⟨by rw [h1]; rfl, rfl⟩
theorem info32 : (Tryd.prog.info? 21).map (fun i => (i.zero, i.size, i.bytes)) = some (some (.int .i32 0), 1, 4) := by kernel_rfl
theorem C_one (k : IntKind) (t : TypeId) (W : World) (x : Int) : (Kd.int k).C (W.alloc (.cells #[.int k x] t)) (some ⟨W.heap.size, 0, none⟩) 1 [x] := by
  refine ⟨rfl, by omega, fun _ => ⟨_, rfl, fun j p hj => ?_⟩⟩
  cases j with
  | zero =>
    have hp : x = p := by simpa using hj
    subst hp
    refine ⟨[.int k x], rfl, rfl, fun i u hu => ?_⟩
    rw [add_plain, blk_cell (blk_new W _)]
    cases i with
    | zero => simpa [Kd.int, Kd.scalar] using hu
    | succ i => simp at hu
  | succ j => simp at hj
/-- What Decode's end is: the characters in a row of the call's own, the error. -/
def DecE (l : List Int) (e : Int) (w : World) (en : Ending) (w' : World) : Prop := ∃ v, en = .returned (.tuple #[v, .int .i64 e]) ∧ Kd.R (Kd.int .i32) 21 w' w.heap.size (fun _ => True) v l ∧ Below w.heap.size w w'
set_option maxHeartbeats 8000000 in
set_option maxRecDepth 100000 in
theorem decode_any (s : ByteArray) (w : World) (hs : s.size ≤ 35184372088832) (hG : GOK w) : Calls Tryd.prog 28 #[.string s] w (DecE (decP s).1 (decP s).2 w) := by
  have hs9 : s.size ≤ 9223372036854775807 := by omega
  have cV : Calls Tryd.prog 39 #[.string s] w _ := Any.utf8_ValidString Tryd.lays196 s w hs9 hG
  clear hG
  by_cases hv : Lib.validD s.data.toList = true
  · rw [hv] at cV
    have CV := Lib.hid cV
    have DP := Lib.hid (show decP s = if (0 : Int) ∈ runesOf s then ([], 13) else (runesOf s, 0) by unfold decP; rw [if_pos hv])
    clear cV hv
    have HS := Lib.hid hs
    clear hs
    go_enter Tryd.func28, Tryd.ntmps28
    go_wp2_with (go_at_call 39; refine CV.out.mono ?_; rintro en w1 ⟨rfl, hb⟩; have KB := Lib.hid hb; clear hb)
    have hit0 := World.iter_heap w1 s 0
    have GE := Lib.hid (show w.heap.size ≤ w1.heap.size from KB.out.size)
    have hbA : Below w1.heap.size w1 (w1.iter s 0) := below_alloc (Below.refl w1.heap.size w1) (.stringIter s 0)
    have KB := Lib.hid (below_step KB.out hbA)
    have HIT := Lib.hid hit0
    clear hit0 hbA
    generalize w1.iter s 0 = w2 at *
    generalize w1.heap.size = g at *
    go_loopw [4] (fun v wr => ∃ (pos fuel : Nat) (acc : List Int), Kd.R (Kd.int .i32) 21 wr w.heap.size (fun q => q ≠ g) v acc ∧ wr.heap[g]? = some (.stringIter s pos) ∧ Below w.heap.size w wr ∧ acc ++ runesFrom s fuel pos = runesOf s ∧ s.size ≤ pos + fuel ∧ acc.length ≤ pos ∧ (0 : Int) ∉ acc) (fun _ wr => s.size - wr.iterPos g)
    case atStart => exact ⟨0, s.size, [], Kd.R_nil _ _ _ _ _, HIT.out, KB.out, rfl, by omega, by simp, by simp⟩
    case round =>
      clear HIT KB
      obtain ⟨pos, fuel, acc, hO, hit, hbw, hacc, hfu, hal, hz⟩ := hrel
      by_cases hp : pos < s.size
      · have hnx : ∀ ty, (Instr.next (.pointer (some ⟨g, 0, none⟩)) true ty).run Tryd.prog wr = _ := fun ty => Lib.run_next_any_at wr g s pos ty hit hp
        have hwd := width_pos s pos hp
        have hd1 := decode_le s pos
        have hvr := decode_rune s pos
        have hit2 := Lib.iterAt_heap wr g s pos (pos + (Utf8.decode s pos).2) hit
        have hbw2 := Lib.below_iterAt hbw GE.out s (pos + (Utf8.decode s pos).2)
        have hF : Fr wr (wr.iterAt g s (pos + (Utf8.decode s pos).2)) (fun i => i = g) := ⟨rfl, rfl, rfl, by rw [Lib.iterAt_size]; exact Nat.le_refl _, fun i _ hn => Lib.iterAt_other wr g i s _ hn⟩
        have hO2 := Fr.row (d := Kd.int .i32) rfl hF hO (fun j hj => hO.1 j hj)
        obtain ⟨f, rfl⟩ : ∃ f, fuel = f + 1 := ⟨fuel - 1, by omega⟩
        have hrf : runesFrom s (f + 1) pos = ((Utf8.decode s pos).1 : Int) :: runesFrom s f (pos + (Utf8.decode s pos).2) := by
          conv => lhs; unfold runesFrom
          rw [if_pos hp]
        rw [hrf] at hacc
        have hip : wr.iterPos g = pos := by simp [World.iterPos, hit]
        have IP := Lib.hid hip
        clear hip hrf hF hO hbw hit
        have HP2 := Lib.hid (show pos < pos + (Utf8.decode s pos).2 ∧ s.size ≤ pos + (Utf8.decode s pos).2 + f ∧ acc.length + 1 ≤ pos + (Utf8.decode s pos).2 ∧ pos < s.size by omega)
        have V := Lib.hid (rvalid_any _ hvr)
        have HS1 := Lib.hid (show acc.length + 1 ≤ s.size by omega)
        clear hd1 hvr hwd hfu
        generalize ((Utf8.decode s pos).1 : Int) = r at *
        generalize pos + (Utf8.decode s pos).2 = p2 at *
        have HAC := Lib.hid hacc
        have HO := Lib.hid hO2
        have KB := Lib.hid hbw2
        have HIT := Lib.hid hit2
        have HZ := Lib.hid hz
        clear hacc hO2 hbw2 hit2 hz hp hal
        generalize wr.iterAt g s p2 = w3 at *
        by_cases h0 : r = 0
        · have h1 : (r != 0) = false := by rw [h0]; rfl
          have H0 := Lib.hid h0
          clear h0
          go_wp2_with (go_at_call 9; refine (V.out _).mono ?_; rintro en w4 ⟨rfl, rfl⟩)
          go_ret2
          rw [DP.out, if_pos (by rw [← HAC.out, H0.out]; simp)]
          exact ⟨_, rfl, Kd.R_nil _ _ _ _ _, KB.out⟩
        · have h1 : (r != 0) = true := bne_iff_ne.2 h0
          have H0 := Lib.hid h0
          clear h0
          have NG := Lib.hid (show g < w3.heap.size from blk_lt HIT.out)
          go_wp2_with (first | (go_at_call 9; refine (V.out _).mono ?_; rintro en w4 ⟨rfl, rfl⟩) | ((with_reducible refine gate_builtin (b := .append) (xs := #[.tmp 18, .tmp 20]) rfl ?_); at_builtin; refine Kd.R_append_rows (Kd.int .i32) (w0 := w) w.heap.size rfl (.tmp 18) (.tmp 20) 27 21 (.int .i32 0) 4 rfl Tryd.underlying27 info32 rfl (by decide) (by omega) u4 acc [r] _ _ _ (fun q => q ≠ g) (fun _ => False) rfl rfl (Kd.R_alloc HO.out _) (C_one .i32 21 _ r) (fun _ _ h => h) (fun _ h => h.elim) (fun k hk => by have := NG.out; simp at hk; omega) (below_alloc KB.out _) (below_alloc KB.out _).size (by have := HS1.out; have := HS.out; simp; omega) ?_; intro v9 w9 ho hb hg_ hat; have HIT := Lib.hid (blk_grown (blk_alloc HIT.out _) hg_ (fun e => HO.out.1 g e.symm rfl)); have HO := Lib.hid ho; have KB := Lib.hid hb; clear ho hb hg_ hat))
          go_roundw
          case rel => exact ⟨p2, f, acc ++ [r], HO.out, HIT.out, KB.out, by rw [← HAC.out]; simp, by have := HP2.out; omega, by have := HP2.out; simp; omega, by simp; exact ⟨HZ.out, fun e => H0.out e.symm⟩⟩
          case measure =>
            rw [IP.out]
            simp only [World.iterPos, HIT.out]
            have := HP2.out
            omega
      · have hnx : ∀ ty, (Instr.next (.pointer (some ⟨g, 0, none⟩)) true ty).run Tryd.prog wr = _ := fun ty => Lib.run_next_end_at wr g s pos ty hit hp
        rw [runesFrom_end s fuel pos hp, List.append_nil] at hacc
        have HO := Lib.hid hO
        have KB := Lib.hid hbw
        have HD := Lib.hid (show decP s = (acc, 0) by rw [DP.out, if_neg (by rw [← hacc]; exact hz), hacc])
        clear hO hbw hacc hz hit
        go_wp2
        go_ret2
        rw [HD.out]
        exact ⟨_, rfl, Kd.R_mono HO.out (fun _ _ => trivial), KB.out⟩
  · rw [Bool.eq_false_iff.2 hv] at cV
    have CV := Lib.hid cV
    have DP := Lib.hid (show decP s = ([], 12) by unfold decP; rw [if_neg hv])
    clear cV hv hs hs9
    go_enter Tryd.func28, Tryd.ntmps28
    go_wp2_with (go_at_call 39; refine CV.out.mono ?_; rintro en w1 ⟨rfl, hb⟩; have KB := Lib.hid hb; clear hb)
    go_ret2
    rw [DP.out]
    exact ⟨_, rfl, Kd.R_nil _ _ _ _ _, KB.out⟩
end Go.Proofs.YtphgoaacmkagmaaDoor.Rn
