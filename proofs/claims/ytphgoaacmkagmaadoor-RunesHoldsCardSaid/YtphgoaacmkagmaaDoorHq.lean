/- Numbers in hexadecimal: the walks of strconv.ParseInt at base 16 and 32 bits, second part. -/
import Derived.Test.YtphgoaacmkagmaaDoorHp
import Derived.Test.YtphgoaacmkagmaaDoorShelf
namespace Go.Proofs.YtphgoaacmkagmaaDoor.Hx
open Go Go.RowKit Go.Proofs Go.Proofs.YtphgoaacmkagmaaDoorW.PrintWords Go.Proofs.YtphgoaacmkagmaaDoor.Kit Go.Proofs.YtphgoaacmkagmaaDoor.PAll
set_option linter.unusedSimpArgs false
set_option linter.unusedVariables false

set_option maxRecDepth 100000 in
theorem puint_empty (w : World) : Calls Tryd.prog 74 #[.string ⟨#[]⟩, .int .i64 16, .int .i64 32] w (PuP [] w) := by
  go_enter Tryd.func74, Tryd.ntmps74
  go_wp2
  go_ret2
  exact ⟨_, _, rfl, by omega, by omega, .inr (.inr rfl), fun h => absurd rfl h, Below.refl _ _⟩
theorem puint_all (t : ByteArray) (hmax : t.size ≤ 1000000) (w : World) : Calls Tryd.prog 74 #[.string t, .int .i64 16, .int .i64 32] w (PuP t.data.toList w) := by
  by_cases h : t.size = 0
  · obtain rfl : t = ⟨#[]⟩ := by
      apply ByteArray.ext
      exact Array.eq_empty_of_size_eq_zero h
    exact puint_empty w
  · exact puint_any t h hmax w
def PiP (l : List UInt8) (w : World) (en : Ending) (w' : World) : Prop :=
  ∃ (n : Int) (ev : Value), en = .returned (.tuple #[.int .i64 n, ev]) ∧ -2147483648 ≤ n ∧ n ≤ 2147483647 ∧ Ev ev ∧ (l ≠ [] → HexOk l → ev = .nilIface ∧ n = hexV l) ∧ Below w.heap.size w w'
theorem ipint_empty (w : World) : Calls Tryd.prog 59 #[.string ⟨#[]⟩, .int .i64 16, .int .i64 32] w (PiP [] w) := by
  go_enter Tryd.func59, Tryd.ntmps59
  go_wp2
  go_ret2
  exact ⟨_, _, rfl, by omega, by omega, .inr (.inr rfl), fun h => absurd rfl h, Below.refl _ _⟩
theorem bad_head {t : ByteArray} (h0 : 0 < t.size) (h : t[0].toNat = 43 ∨ t[0].toNat = 45) : ¬ HexOk t.data.toList := by
  intro hk
  have hm : t[0] ∈ t.data.toList := by
    rw [Array.mem_toList_iff]
    exact Array.getElem_mem _
  have h1 := hk.1 _ hm
  unfold hv at h1
  rw [if_neg (by omega), if_neg (by omega)] at h1
  cases h1
set_option maxHeartbeats 8000000 in
set_option maxRecDepth 100000 in
theorem ipint_any (t : ByteArray) (hne : t.size ≠ 0) (hmax : t.size ≤ 1000000) (w : World) : Calls Tryd.prog 59 #[.string t, .int .i64 16, .int .i64 32] w (PiP t.data.toList w) := by
  have hemp : t.toList.isEmpty = false := by
    rw [← decide_eq_emptyBytes]
    exact decide_eq_false (fun h => hne (by rw [h]; rfl))
  have PU := Lib.hid (puint_all t hmax w)
  have PE := Lib.hid (puint_all (t.extract 1 t.size) (by simp [ByteArray.size_extract]; omega) w)
  have hq2 : ∀ W, (binOp .neq 69 (.iface 112 (.int .i64 2)) (.iface 112 (.int .i64 1))).run Tryd.prog W = .ok (.bool true) W := fun W => Lib.run_neq_iface_int W 2 1 Tryd.underlying69 (by kernel_rfl) Tryd.underlying112
  have hq1 : ∀ W, (binOp .neq 69 (.iface 112 (.int .i64 1)) (.iface 112 (.int .i64 1))).run Tryd.prog W = .ok (.bool false) W := fun W => Lib.run_neq_iface_int W 1 1 Tryd.underlying69 (by kernel_rfl) Tryd.underlying112
  have h0 : 0 < t.size := by omega
  have h1 : 1 ≤ t.size := by omega
  rcases (show t[0].toNat = 43 ∨ t[0].toNat = 45 ∨ (t[0].toNat ≠ 43 ∧ t[0].toNat ≠ 45) by omega) with hc | hc | ⟨hc, hc2⟩
  · have e1 : ((t[0].toNat : Int) == 43) = true := by rw [hc]; rfl
    have NO := Lib.hid (bad_head h0 (.inl hc))
    clear hc
    go_enter Tryd.func59, Tryd.ntmps59
    go_wp2_with (fail)
    refine PE.out.mono ?_
    rintro en w1 ⟨n, ev, rfl, n0, n1, he, hh, hb⟩
    have KB := Lib.hid hb
    clear hb hh PU PE
    rcases he with rfl | rfl | rfl
    · by_cases hq : 2147483648 ≤ n
      · go_wp2
        go_ret2
        exact ⟨_, _, rfl, by omega, by omega, .inr (.inl rfl), fun _ h => absurd h NO.out, KB.out⟩
      · go_wp2
        go_ret2
        exact ⟨_, _, rfl, by omega, by omega, .inl rfl, fun _ h => absurd h NO.out, KB.out⟩
    · by_cases hq : 2147483648 ≤ n
      · go_wp2
        go_ret2
        exact ⟨_, _, rfl, by omega, by omega, .inr (.inl rfl), fun _ h => absurd h NO.out, KB.out⟩
      · go_wp2
        go_ret2
        exact ⟨_, _, rfl, by omega, by omega, .inl rfl, fun _ h => absurd h NO.out, KB.out⟩
    · go_wp2
      go_ret2
      exact ⟨_, _, rfl, by omega, by omega, .inr (.inr rfl), fun _ h => absurd h NO.out, KB.out⟩
  · have e1 : ((t[0].toNat : Int) == 43) = false := by rw [hc]; rfl
    have e2 : ((t[0].toNat : Int) == 45) = true := by rw [hc]; rfl
    have NO := Lib.hid (bad_head h0 (.inr hc))
    clear hc
    go_enter Tryd.func59, Tryd.ntmps59
    go_wp2_with (fail)
    refine PE.out.mono ?_
    rintro en w1 ⟨n, ev, rfl, n0, n1, he, hh, hb⟩
    have KB := Lib.hid hb
    clear hb hh PU PE
    rcases he with rfl | rfl | rfl
    · by_cases hq : 2147483648 < n
      · go_wp2
        go_ret2
        exact ⟨_, _, rfl, by omega, by omega, .inr (.inl rfl), fun _ h => absurd h NO.out, KB.out⟩
      · go_wp2
        go_ret2
        exact ⟨_, _, rfl, by omega, by omega, .inl rfl, fun _ h => absurd h NO.out, KB.out⟩
    · by_cases hq : 2147483648 < n
      · go_wp2
        go_ret2
        exact ⟨_, _, rfl, by omega, by omega, .inr (.inl rfl), fun _ h => absurd h NO.out, KB.out⟩
      · go_wp2
        go_ret2
        exact ⟨_, _, rfl, by omega, by omega, .inl rfl, fun _ h => absurd h NO.out, KB.out⟩
    · go_wp2
      go_ret2
      exact ⟨_, _, rfl, by omega, by omega, .inr (.inr rfl), fun _ h => absurd h NO.out, KB.out⟩
  · have e1 : ((t[0].toNat : Int) == 43) = false := beq_eq_false_iff_ne.2 (by omega)
    have e2 : ((t[0].toNat : Int) == 45) = false := beq_eq_false_iff_ne.2 (by omega)
    clear hc hc2
    go_enter Tryd.func59, Tryd.ntmps59
    go_wp2_with (fail)
    refine PU.out.mono ?_
    rintro en w1 ⟨n, ev, rfl, n0, n1, he, hh, hb⟩
    have KB := Lib.hid hb
    have HH := Lib.hid hh
    have NO := Lib.hid (show 2147483648 ≤ n → t.data.toList ≠ [] → ¬ HexOk t.data.toList from fun hn h1 h => by
      have := (hh h1 h).2
      have := h.2
      omega)
    clear hb hh PU PE
    rcases he with rfl | rfl | rfl
    · by_cases hq : 2147483648 ≤ n
      · have NO := Lib.hid (NO.out hq)
        go_wp2
        go_ret2
        exact ⟨_, _, rfl, by omega, by omega, .inr (.inl rfl), fun h1 h => absurd h (NO.out h1), KB.out⟩
      · go_wp2
        go_ret2
        exact ⟨_, _, rfl, by omega, by omega, .inl rfl, fun h1 h => ⟨rfl, (HH.out h1 h).2⟩, KB.out⟩
    · have NE := Lib.hid (show t.data.toList ≠ [] → ¬ HexOk t.data.toList from fun h1 h => by cases (HH.out h1 h).1)
      by_cases hq : 2147483648 ≤ n
      · go_wp2
        go_ret2
        exact ⟨_, _, rfl, by omega, by omega, .inr (.inl rfl), fun h1 h => absurd h (NE.out h1), KB.out⟩
      · go_wp2
        go_ret2
        exact ⟨_, _, rfl, by omega, by omega, .inl rfl, fun h1 h => absurd h (NE.out h1), KB.out⟩
    · have NE := Lib.hid (show t.data.toList ≠ [] → ¬ HexOk t.data.toList from fun h1 h => by cases (HH.out h1 h).1)
      go_wp2
      go_ret2
      exact ⟨_, _, rfl, by omega, by omega, .inr (.inr rfl), fun h1 h => absurd h (NE.out h1), KB.out⟩
theorem ipint_all (t : ByteArray) (hmax : t.size ≤ 1000000) (w : World) : Calls Tryd.prog 59 #[.string t, .int .i64 16, .int .i64 32] w (PiP t.data.toList w) := by
  by_cases h : t.size = 0
  · obtain rfl : t = ⟨#[]⟩ := by
      apply ByteArray.ext
      exact Array.eq_empty_of_size_eq_zero h
    exact ipint_empty w
  · exact ipint_any t h hmax w
/-- What strconv.ParseInt returns: the number, or an error. -/
def SpP (l : List UInt8) (w : World) (en : Ending) (w' : World) : Prop :=
  ∃ (n : Int) (ev : Value), en = .returned (.tuple #[.int .i64 n, ev]) ∧ -2147483648 ≤ n ∧ n ≤ 2147483647 ∧ (ev = .nilIface ∨ ∃ t p, ev = .iface t p) ∧ (l ≠ [] → HexOk l → ev = .nilIface ∧ n = hexV l) ∧ Below w.heap.size w w'
set_option maxHeartbeats 8000000 in
set_option maxRecDepth 100000 in
theorem pint_any (s : ByteArray) (hmax : s.size ≤ 1000000) (w : World) (hG : HOK w) : Calls Tryd.prog 44 #[.string s, .int .i64 16, .int .i64 32] w (SpP s.data.toList w) := by
  have IP := Lib.hid (ipint_all s hmax w)
  have HG := Lib.hid hG
  have HM := Lib.hid (show s.size ≤ 281474976710656 by omega)
  clear hG hmax
  go_enter Tryd.func44, Tryd.ntmps44
  go_wp2_with (fail)
  refine IP.out.mono ?_
  rintro en w1 ⟨n, ev, rfl, n0, n1, he, hh, hb⟩
  have HG := Lib.hid (HG.out.below hb)
  have KB := Lib.hid hb
  have HH := Lib.hid hh
  clear hb hh IP
  rcases he with rfl | rfl | rfl
  · go_wp2
    go_ret2
    exact ⟨_, _, rfl, n0, n1, .inl rfl, fun h1 h => ⟨rfl, (HH.out h1 h).2⟩, KB.out⟩
  · have NE := Lib.hid (show s.data.toList ≠ [] → ¬ HexOk s.data.toList from fun h1 h => by cases (HH.out h1 h).1)
    clear HH
    obtain ⟨te, pe, hv⟩ := HG.out.rng
    have HV := Lib.hid hv
    clear hv
    go_wp2_with (go_at_call 60; refine (Tryd.strconv_toError_range _ s _ _ (.iface te pe) _ HM.out HV.out (.inr ⟨te, pe, rfl⟩)).mono ?_; rintro en w2 ⟨N, rfl, _, _, hb⟩; have KB := Lib.hid (below_step KB.out hb); clear hb)
    go_ret2
    exact ⟨_, _, rfl, n0, n1, .inr ⟨_, _, rfl⟩, fun h1 h => absurd h (NE.out h1), KB.out⟩
  · have NE := Lib.hid (show s.data.toList ≠ [] → ¬ HexOk s.data.toList from fun h1 h => by cases (HH.out h1 h).1)
    clear HH
    obtain ⟨te, pe, hv⟩ := HG.out.syn
    have HV := Lib.hid hv
    clear hv
    go_wp2_with (go_at_call 60; refine (Tryd.strconv_toError_syntax _ s _ _ (.iface te pe) _ HM.out HV.out (.inr ⟨te, pe, rfl⟩)).mono ?_; rintro en w2 ⟨N, rfl, _, _, hb⟩; have KB := Lib.hid (below_step KB.out hb); clear hb)
    go_ret2
    exact ⟨_, _, rfl, n0, n1, .inr ⟨_, _, rfl⟩, fun h1 h => absurd h (NE.out h1), KB.out⟩
end Go.Proofs.YtphgoaacmkagmaaDoor.Hx
