/- Numbers in hexadecimal: the walks of strconv.ParseInt at base 16 and 32 bits. -/
import Derived.Test.YtphgoaacmkagmaaDoorHf
import Derived.Lib.Walk
import Derived.Lib.ConvBytes
import Derived.Lib.BufferOld
import Derived.Lib.AtoiErrMem
namespace Go.Proofs.YtphgoaacmkagmaaDoor.Hx
open Go Go.RowKit Go.Proofs Go.Proofs.YtphgoaacmkagmaaDoorW.PrintWords Go.Proofs.YtphgoaacmkagmaaDoor.Kit Go.Proofs.YtphgoaacmkagmaaDoor.PAll
set_option linter.unusedSimpArgs false
set_option linter.unusedVariables false

/-- What spells a small number in great letters. -/
def HexOk (l : List UInt8) : Prop := (∀ c ∈ l, (hv c).isSome = true) ∧ hexV l < 2147483648
theorem fold_le : ∀ (b : List UInt8) (n : Nat), n ≤ b.foldl (fun n c => 16 * n + (hv c).getD 0) n
  | [], n => Nat.le_refl _
  | c :: b, n => Nat.le_trans (by omega) (fold_le b (16 * n + (hv c).getD 0))
theorem hexV_le (l : List UInt8) (k : Nat) : hexV (l.take k) ≤ hexV l := by
  conv => rhs; rw [← List.take_append_drop k l, hexV_app]
  exact fold_le _ _
theorem hexV_take {l : List UInt8} {k : Nat} (h : k < l.length) : hexV (l.take (k + 1)) = 16 * hexV (l.take k) + (hv l[k]).getD 0 := by
  rw [List.take_succ_eq_append_getElem h, hexV_app]
  rfl
theorem low_in : ∀ c : Fin 256, 0 ≤ bits .or .u8 (c.1 : Int) 32 ∧ bits .or .u8 (c.1 : Int) 32 ≤ 255 := by decide +kernel
theorem low_hex : ∀ c : Fin 256, (hv (UInt8.ofNat c.1)).isSome = true → ¬ (48 ≤ c.1 ∧ c.1 ≤ 57) → 97 ≤ bits .or .u8 (c.1 : Int) 32 ∧ bits .or .u8 (c.1 : Int) 32 ≤ 102 ∧ bits .or .u8 (c.1 : Int) 32 - 97 + 10 = (((hv (UInt8.ofNat c.1)).getD 0 : Nat) : Int) := by decide +kernel
theorem dig_hex : ∀ c : Fin 256, 48 ≤ c.1 ∧ c.1 ≤ 57 → hv (UInt8.ofNat c.1) = some (c.1 - 48) := by decide +kernel
theorem lower_any (c : Int) (w : World) : Calls Tryd.prog 89 #[.int .u8 c] w fun e w' => e = .returned (.int .u8 (bits .or .u8 c 32)) ∧ w = w' := by
  go_enter Tryd.func89, Tryd.ntmps89
  go_wp2
  go_ret
  exact ⟨rfl, rfl⟩
def Ev (v : Value) : Prop := v = .nilIface ∨ v = .iface 112 (.int .i64 1) ∨ v = .iface 112 (.int .i64 2)
def PuP (l : List UInt8) (w : World) (en : Ending) (w' : World) : Prop :=
  ∃ (n : Int) (ev : Value), en = .returned (.tuple #[.int .u64 n, ev]) ∧ 0 ≤ n ∧ n ≤ 4294967295 ∧ Ev ev ∧ (l ≠ [] → HexOk l → ev = .nilIface ∧ n = hexV l) ∧ Below w.heap.size w w'
set_option maxHeartbeats 32000000 in
set_option maxRecDepth 100000 in
theorem puint_any (t : ByteArray) (hne : t.size ≠ 0) (hmax : t.size ≤ 1000000) (w : World) :
    Calls Tryd.prog 74 #[.string t, .int .i64 16, .int .i64 32] w (PuP t.data.toList w) := by
  have LW := Lib.hid lower_any
  have hemp : t.toList.isEmpty = false := by
    rw [← decide_eq_emptyBytes]
    exact decide_eq_false (fun h => hne (by rw [h]; rfl))
  have hcv := Lib.run_convert_string_bytes (P := Tryd.prog) w 9 29 5 t (u := .string) Tryd.underlying9 Tryd.underlying29 Tryd.underlying5
  have hB : ∀ j, j < t.size → (Lib.bytesWorld w 5 t).cell? ⟨w.heap.size, j, none⟩ = some (.int .u8 (t.data.toList.getD j 0).toNat) := fun j hj => Lib.bytesWorld_cell w 5 t j hj
  have hbl := Lib.bytesWorld_below w 5 t
  obtain ⟨W1, hW1⟩ : ∃ W1, W1 = Lib.bytesWorld w 5 t := ⟨_, rfl⟩
  rw [← hW1] at hcv hB hbl
  clear hW1
  have KB := Lib.hid hbl
  obtain ⟨bs, hL⟩ : ∃ bs, bs = t.data.toList := ⟨_, rfl⟩
  have hLn : bs.length = t.size := by rw [hL, Lib.size_eq]
  rw [← hL] at hB ⊢
  clear hL hbl
  have hmv : IntKind.u64.wrap (IntKind.u64.wrap 4294967296 - 1) = 4294967295 := by decide +kernel
  have HB := Lib.hid hB
  have HLN := Lib.hid hLn
  clear hB hLn
  go_enter Tryd.func74, Tryd.ntmps74
  go_wp2
  go_loop [12, 13, 101] (fun vu vn vi => ∃ (k : Nat) (a : Int), vu = .bool false ∧ vn = .int .u64 a ∧ vi = .int .i64 k ∧ k ≤ t.size ∧ 0 ≤ a ∧ a ≤ 4294967295 ∧ Hid (HexOk bs → a = hexV (bs.take k))) (fun _ _ vi => t.size - (intOf vi).toNat)
  case atStart => exact ⟨0, 0, rfl, rfl, rfl, by omega, by omega, by omega, Lib.hid fun _ => rfl⟩
  case round =>
    obtain ⟨k, a, rfl, rfl, rfl, hk, a0, a1, HA⟩ := hrel
    by_cases hkn : k < t.size
    · have hc := HB.out k hkn
      have hkb : k < bs.length := by rw [HLN.out]; exact hkn
      have hget : bs.getD k 0 = bs[k] := by simp [List.getD, List.getElem?_eq_getElem hkb]
      rw [hget] at hc
      have hc256 : (bs[k]).toNat < 256 := (bs[k]).toNat_lt
      have hcc : UInt8.ofNat (bs[k]).toNat = bs[k] := by simp
      have HV := Lib.hid (fun (h : HexOk bs) => (h.1 bs[k] (List.getElem_mem hkb)))
      have HT := Lib.hid (hexV_take hkb)
      have HM := Lib.hid (fun (h : HexOk bs) => Nat.lt_of_le_of_lt (hexV_le bs (k + 1)) h.2)
      have lo : 0 ≤ bits .or .u8 ((bs[k]).toNat : Int) 32 ∧ bits .or .u8 ((bs[k]).toNat : Int) 32 ≤ 255 := low_in ⟨_, hc256⟩
      have lh := low_hex ⟨_, hc256⟩
      have dh := dig_hex ⟨_, hc256⟩
      simp only [hcc] at lh dh
      have LH := Lib.hid lh
      have DH := Lib.hid dh
      have hz : ¬ ((bs[k]).toNat : Int) < 0 := by omega
      have CC := Lib.hid hc256
      clear lh dh hcc hget hc256
      generalize hq : (bs[k]).toNat = q at hc LH DH lo CC
      have HQ := Lib.hid hq
      clear hq hz
      obtain ⟨lo0, lo1⟩ := lo
      have q255 : (q : Int) ≤ 255 := by have := CC.out; omega
      by_cases hdig : 48 ≤ q ∧ q ≤ 57
      · obtain ⟨hd0, hd1⟩ := hdig
        by_cases hov : 4294967295 < a * 16 + ((q : Int) - 48)
        · have NO := Lib.hid (show ¬ HexOk bs from fun h => by
            have h1 := HA.out h
            have h2 := HM.out h
            have h3 := HT.out
            rw [DH.out ⟨hd0, hd1⟩, Option.getD_some] at h3
            omega)
          clear lo0 lo1
          have icut : a < 1152921504606846976 := by omega
          go_wp2
          go_ret2
          exact ⟨_, _, rfl, by omega, by omega, .inr (.inl rfl), fun _ h => absurd h NO.out, KB.out⟩
        · have icut : a < 1152921504606846976 := by omega
          have iov : a * 16 + ((q : Int) - 48) ≤ 4294967295 := by omega
          have HN := Lib.hid (show HexOk bs → a * 16 + ((q : Int) - 48) = hexV (bs.take (k + 1)) from fun h => by
            rw [HT.out, DH.out ⟨hd0, hd1⟩, Option.getD_some, HA.out h]
            omega)
          clear lo0 lo1 hov
          go_wp2
          refine ⟨⟨k + 1, a * 16 + ((q : Int) - 48), rfl, rfl, by go_num, by omega, by omega, by omega, HN⟩, by simp [intOf]; omega⟩
      · have LH2 := Lib.hid (fun h => LH.out h hdig)
        have hv95 : bits .or .u8 95 32 = 127 := by decide +kernel
        generalize hv : bits .or .u8 (q : Int) 32 = v at lo0 lo1 LH2
        have LV := Lib.hid (fun W => (lower_any (q : Int) W))
        rw [hv] at LV
        by_cases h95 : q = 95
        · have e5 : ((q : Int) == 95) = true := by rw [h95]; rfl
          have hv127 : v = 127 := by rw [← hv, h95]; exact hv95
          have NO := Lib.hid (show ¬ HexOk bs from fun h => by have := (LH2.out (HV.out h)).2.1; omega)
          have hq : 57 < q := by omega
          clear LH2 hdig hv LH hv95 LW h95
          subst hv127
          go_wp2_with (go_at_call 89; refine (LV.out _).mono ?_; rintro e w' ⟨rfl, rfl⟩)
          go_ret2
          exact ⟨_, _, rfl, by omega, by omega, .inr (.inr rfl), fun _ h => absurd h NO.out, KB.out⟩
        · have hne5 : ((q : Int) == 95) = false := beq_eq_false_iff_ne.2 (by omega)
          clear hv hv95 LH LW
          by_cases hlet : 97 ≤ v ∧ v ≤ 102
          · obtain ⟨l0, l1⟩ := hlet
            by_cases hov : 4294967295 < a * 16 + (v - 97 + 10)
            · have NO := Lib.hid (show ¬ HexOk bs from fun h => by
                have h1 := HA.out h
                have h2 := HM.out h
                have h3 := HT.out
                have h4 := (LH2.out (HV.out h)).2.2
                omega)
              clear LH2
              have icut : a < 1152921504606846976 := by omega
              rcases (show q < 48 ∨ 57 < q by omega) with hq | hq
              all_goals
                go_wp2_with (go_at_call 89; refine (LV.out _).mono ?_; rintro e w' ⟨rfl, rfl⟩)
                go_ret2
                exact ⟨_, _, rfl, by omega, by omega, .inr (.inl rfl), fun _ h => absurd h NO.out, KB.out⟩
            · have icut : a < 1152921504606846976 := by omega
              have iov : a * 16 + (v - 97 + 10) ≤ 4294967295 := by omega
              have HN := Lib.hid (show HexOk bs → a * 16 + (v - 97 + 10) = hexV (bs.take (k + 1)) from fun h => by
                rw [HT.out, HA.out h]
                have h4 := (LH2.out (HV.out h)).2.2
                omega)
              clear LH2 hov
              rcases (show q < 48 ∨ 57 < q by omega) with hq | hq
              all_goals
                go_wp2_with (go_at_call 89; refine (LV.out _).mono ?_; rintro e w' ⟨rfl, rfl⟩)
                refine ⟨⟨k + 1, a * 16 + (v - 97 + 10), rfl, by go_num, by go_num, by omega, by omega, by omega, HN⟩, by simp [intOf]; omega⟩
          · have NO := Lib.hid (show ¬ HexOk bs from fun h => by
              have h4 := LH2.out (HV.out h)
              omega)
            clear LH2
            rcases (show (q < 48 ∨ 57 < q) ∧ (v < 97 ∨ (103 ≤ v ∧ v ≤ 122) ∨ 122 < v) by omega) with ⟨hq | hq, hw | ⟨hw, hw2⟩ | hw⟩
            all_goals
              clear hlet hdig
              go_wp2_with (go_at_call 89; refine (LV.out _).mono ?_; rintro e w' ⟨rfl, rfl⟩)
              go_ret2
              exact ⟨_, _, rfl, by omega, by omega, .inr (.inr rfl), fun _ h => absurd h NO.out, KB.out⟩
    · have hkk : k = t.size := by omega
      subst hkk
      have HF := Lib.hid (show HexOk bs → a = hexV bs from fun h => by
        have := HA.out h
        rwa [← HLN.out, List.take_length] at this)
      go_wp2
      go_ret2
      exact ⟨_, _, rfl, a0, a1, .inl rfl, fun _ h => ⟨rfl, HF.out h⟩, KB.out⟩
end Go.Proofs.YtphgoaacmkagmaaDoor.Hx
