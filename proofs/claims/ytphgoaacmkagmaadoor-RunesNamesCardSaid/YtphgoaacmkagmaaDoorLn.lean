/- Runes of strings: the walk of runes.Encode: the string of runes, or the error. -/
import Derived.Test.YtphgoaacmkagmaaDoorLd
namespace Go.Proofs.YtphgoaacmkagmaaDoor.Rn
open Go Go.RowKit Go.Proofs Go.Proofs.YtphgoaacmkagmaaDoorW.PrintWords Go.Proofs.YtphgoaacmkagmaaDoor.Kit Go.Proofs.YtphgoaacmkagmaaDoor.PAll
set_option linter.unusedSimpArgs false
set_option linter.unusedVariables false

abbrev k32 : Kd Int := Kd.int .i32
def BeP (v : Value) (w : World) (en : Ending) (w' : World) : Prop := en = .returned v ∧ Below w.heap.size w w'
theorem getD_mem {xs : List Int} {k : Nat} (h : k < xs.length) : xs.getD k 0 ∈ xs := by
  rw [List.getD_eq_getElem?_getD, List.getElem?_eq_getElem h]
  exact List.getElem_mem h
theorem C_nil_of {w : World} {n : Nat} {xs : List Int} (h : k32.C w none n xs) : xs = [] := by
  rcases Nat.eq_zero_or_pos n with h0 | h0
  · exact List.eq_nil_of_length_eq_zero (h.1.trans h0)
  · obtain ⟨ad, e, _⟩ := h.2.2 h0
    cases e
theorem at_rune {w : World} {A : Option Addr} {rs : List Int} (hx : k32.C w A rs.length rs) {k : Nat} (hk : k < rs.length) : ∃ ad, A = some ad ∧ w.cell? (ad.add k) = some (.int .i32 (rs.getD k 0)) := by
  obtain ⟨ad, e, q⟩ := Kd.at_int hx (k : Int) (by omega) (by omega)
  exact ⟨ad, e, by simpa [rd, rdOf] using q⟩
theorem conv32 {w : World} {A : Option Addr} {c : Nat} {rs : List Int} (hx : k32.C w A rs.length rs) (h : ∀ r ∈ rs, okRune r) : (convert 27 9 (.slice A rs.length c)).run Tryd.prog w = .ok (.string (strOfNums (utf8 rs))) w := by
  rcases A with _ | ad
  · obtain rfl := C_nil_of hx
    exact run_convert_runes_nil w 27 9 21 _ _ Tryd.underlying27 Tryd.underlying21 Tryd.underlying9
  · have := run_convert_runes (P := Tryd.prog) w 27 9 21 ad rs.length c rs (Nat.le_refl _) Tryd.underlying27 Tryd.underlying21 Tryd.underlying9 (fun j hj => by
      obtain ⟨ad', e, q⟩ := at_rune hx hj
      injection e with e
      subst e
      exact q)
    rw [List.take_length, runes_str rs h] at this
    exact this
theorem ok_valid (r : Int) : (r ≠ 0 ∧ Lib.validRune r = true) ↔ okRune r := by
  unfold Lib.validRune okRune
  rw [decide_eq_true_eq]
  omega
theorem valid_be (r : Int) (w : World) : Calls Tryd.prog 9 #[.int .i32 r] w (BeP (.bool (decide (okRune r))) w) := by
  have V := Lib.hid (Tryd.utf8_ValidRune r)
  by_cases h0 : r = 0
  · rw [decide_eq_false (by unfold okRune; omega)]
    subst h0
    go_enter Tryd.func9, Tryd.ntmps9
    go_wp2
    go_ret
    exact ⟨rfl, Below.refl _ _⟩
  · have HV := Lib.hid (show decide (okRune r) = Lib.validRune r by
      rw [Bool.eq_iff_iff, decide_eq_true_eq, ← ok_valid]
      exact ⟨fun h => h.2, fun h => ⟨h0, h⟩⟩)
    have h1 : (r != 0) = true := bne_iff_ne.2 h0
    have h2 : (r == 0) = false := beq_eq_false_iff_ne.2 h0
    clear h0
    go_enter Tryd.func9, Tryd.ntmps9
    go_wp2_with (go_at_call 30; refine (V.out _).mono ?_; rintro en w1 ⟨rfl, rfl⟩)
    go_ret
    rw [HV.out]
    exact ⟨rfl, Below.refl _ _⟩
theorem litR_any (r : Int) (b : Bool) (hb : b = !decide (okRune r)) (w : World) : Calls Tryd.prog 38 #[.int .i32 r] w (BeP (.bool b) w) := by
  have RV := Lib.hid (valid_be r)
  subst hb
  generalize decide (okRune r) = d at *
  go_enter Tryd.func38, Tryd.ntmps38
  go_wp2_with (go_at_call 9; refine (RV.out _).mono ?_; rintro en w1 ⟨rfl, hb⟩; have KB := Lib.hid hb; clear hb)
  go_ret
  exact ⟨rfl, KB.out⟩
/-- IndexFunc of what may not be in a text: -1 where there is none, else a place. -/
def IdxP (rs : List Int) (w : World) (en : Ending) (w' : World) : Prop := ∃ i : Int, en = .returned (.int .i64 i) ∧ (0 ≤ i ↔ ¬ ∀ r ∈ rs, okRune r) ∧ Below w.heap.size w w'
set_option maxHeartbeats 4000000 in
theorem idxR_any (A : Option Addr) (c : Nat) (rs : List Int) (w : World) (hx : k32.C w A rs.length rs) :
    Calls Tryd.prog 46 #[.slice A rs.length c, .func (.func 38) #[] #[]] w (IdxP rs w) := by
  have lx : rs.length ≤ 9223372036854775807 := hx.2.1
  have HX := Lib.hid hx
  clear hx
  go_enter Tryd.func46, Tryd.ntmps46
  go_wp2
  go_loopw [8] (fun i wr => ∃ k : Nat, k ≤ rs.length ∧ i = .int .i64 k ∧ (∀ j, j < k → okRune (rs.getD j 0)) ∧ Below w.heap.size w wr) (fun i _ => (rs.length : Int).toNat - (intOf i).toNat)
  case atStart => exact ⟨0, by omega, rfl, fun j hj => by omega, Below.refl _ _⟩
  case round =>
    obtain ⟨k, hk, rfl, hall, hB⟩ := hrel
    have KB := Lib.hid hB
    have HA := Lib.hid hall
    clear hB hall
    by_cases hlt : k < rs.length
    · obtain ⟨ad, eA, q0⟩ := at_rune (Kd.C_below HX.out KB.out) hlt
      subst eA
      by_cases hm : okRune (rs.getD k 0)
      · have LR := Lib.hid (litR_any (rs.getD k 0) false (by rw [decide_eq_true hm]; rfl))
        have HA := Lib.hid (show ∀ j, j < k + 1 → okRune (rs.getD j 0) from fun j hj => by
          rcases Nat.lt_or_ge j k with q | q
          · exact HA.out j q
          · obtain rfl : j = k := by omega
            exact hm)
        clear hm
        generalize rs.getD k 0 = r at q0 LR
        go_wp2_with (go_at_call 38; refine (LR.out _).mono ?_; rintro en w1 ⟨rfl, hb⟩; have KB := Lib.hid (below_step KB.out hb); clear hb)
        go_roundw
        case rel => exact ⟨k + 1, by omega, by go_num, HA.out, KB.out⟩
        case measure => simp [intOf]; omega
      · have LR := Lib.hid (litR_any (rs.getD k 0) true (by rw [decide_eq_false hm]; rfl))
        have NO := Lib.hid (show ¬ ∀ r ∈ rs, okRune r from fun h => hm (h _ (getD_mem hlt)))
        clear hm
        generalize rs.getD k 0 = r at q0 LR
        go_wp2_with (go_at_call 38; refine (LR.out _).mono ?_; rintro en w1 ⟨rfl, hb⟩; have KB := Lib.hid (below_step KB.out hb); clear hb)
        go_ret
        exact ⟨k, rfl, ⟨fun _ => NO.out, fun _ => by omega⟩, KB.out⟩
    · have YES := Lib.hid (show ∀ r ∈ rs, okRune r from fun r hr => by
        obtain ⟨j, hj, rfl⟩ := List.getElem_of_mem hr
        have := HA.out j (by omega)
        rwa [List.getD_eq_getElem?_getD, List.getElem?_eq_getElem hj] at this)
      go_wp2
      go_ret
      exact ⟨-1, rfl, ⟨fun h => by omega, fun h => absurd YES.out h⟩, KB.out⟩
theorem conR_any (A : Option Addr) (c : Nat) (rs : List Int) (b : Bool) (w : World) (hx : k32.C w A rs.length rs) (hb : b = true ↔ ¬ ∀ r ∈ rs, okRune r) :
    Calls Tryd.prog 37 #[.slice A rs.length c, .func (.func 38) #[] #[]] w (BeP (.bool b) w) := by
  have IX := Lib.hid (idxR_any A c rs w hx)
  have HB := Lib.hid hb
  clear hx hb
  go_enter Tryd.func37, Tryd.ntmps37
  go_wp2_with (go_at_call 46; refine IX.out.mono ?_; rintro en w1 ⟨i, rfl, hi, hb⟩; have HI := Lib.hid hi; have KB := Lib.hid hb; clear hb hi)
  go_ret
  refine ⟨?_, KB.out⟩
  have : decide (0 ≤ i) = b := by rw [Bool.eq_iff_iff, decide_eq_true_eq, HI.out, HB.out]
  rw [← this]
  rfl
set_option maxHeartbeats 4000000 in
theorem encode_any (A : Option Addr) (c : Nat) (rs : List Int) (w : World) (hx : k32.C w A rs.length rs) :
    Calls Tryd.prog 27 #[.slice A rs.length c] w (BeP (.tuple #[.string (encP rs).1, .int .i64 (encP rs).2]) w) := by
  have HX := Lib.hid hx
  by_cases h : ∀ r ∈ rs, okRune r
  · have CR := Lib.hid (conR_any A c rs false w hx ⟨fun q => Bool.noConfusion q, fun q => absurd h q⟩)
    have E := Lib.hid (show encP rs = (strOfNums (utf8 rs), 0) from if_pos h)
    have H := Lib.hid h
    clear hx h
    go_enter Tryd.func27, Tryd.ntmps27
    go_wp2_with (go_at_call 37; refine CR.out.mono ?_; rintro en w1 ⟨rfl, hb⟩; have hq := conv32 (c := c) (Kd.C_below HX.out hb) H.out; have KB := Lib.hid hb; clear hb)
    go_ret2
    rw [E.out]
    exact ⟨rfl, KB.out⟩
  · have CR := Lib.hid (conR_any A c rs true w hx ⟨fun _ => h, fun _ => rfl⟩)
    have E := Lib.hid (show encP rs = (⟨#[]⟩, 13) from if_neg h)
    clear hx h
    go_enter Tryd.func27, Tryd.ntmps27
    go_wp2_with (go_at_call 37; refine CR.out.mono ?_; rintro en w1 ⟨rfl, hb⟩; have KB := Lib.hid hb; clear hb)
    go_ret2
    rw [E.out]
    exact ⟨rfl, KB.out⟩
end Go.Proofs.YtphgoaacmkagmaaDoor.Rn
