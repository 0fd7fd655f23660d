/- Names of runes: the walks of runes.Name and runes.ByName. -/
import Derived.Test.YtphgoaacmkagmaaDoorHq
import Derived.Test.YtphgoaacmkagmaaDoorLn
namespace Go.Proofs.YtphgoaacmkagmaaDoor.Hx
open Go Go.RowKit Go.Proofs Go.Proofs.YtphgoaacmkagmaaDoorW.PrintWords Go.Proofs.YtphgoaacmkagmaaDoor.Kit Go.Proofs.YtphgoaacmkagmaaDoor.PAll Go.Proofs.YtphgoaacmkagmaaDoor.Rn
set_option linter.unusedSimpArgs false
set_option linter.unusedVariables false

theorem hexL_up (n : Nat) : Lib.toUpperA (hexL n) = hexU n := upper n
theorem hexU_len (n : Nat) : (hexU n).length = (hexD 8 n).length := by unfold hexU; rw [List.length_map]
theorem rep_zero (c : Nat) : Lib.repeatL [48] c = List.replicate c 48 := by
  induction c with
  | zero => rfl
  | succ c ih => rw [Lib.repeatL, ih]; rfl
theorem name_eq (n : Nat) (u : ByteArray) (hu : u = ⟨(hexU n).toArray⟩) (hs : u.size = (hexD 8 n).length) : (⟨#[85, 43]⟩ : ByteArray) ++ ⟨(List.replicate (4 - u.size) (48 : UInt8)).toArray⟩ ++ u = nameP n := by
  rw [hs, hu]
  unfold nameP nameL
  apply ByteArray.ext
  simp [ByteArray.data_append]
set_option maxHeartbeats 8000000 in
set_option maxRecDepth 100000 in
theorem name_any (r : Int) (w : World) (hG : HOK w) : Calls Tryd.prog 33 #[.int .i32 r] w (BeP (.tuple #[.string (namP r).1, .int .i64 (namP r).2]) w) := by
  have VB := Lib.hid (valid_be r)
  by_cases h : okRune r
  · have hr := h.1
    have hr2 := h.2.1
    obtain ⟨n, rfl⟩ : ∃ n : Nat, r = n := ⟨r.toNat, by omega⟩
    rw [decide_eq_true h] at VB
    have E := Lib.hid (show namP (n : Int) = (nameP n, 0) from by unfold namP; rw [if_pos h, Int.toNat_natCast])
    have FM := Lib.hid (fun W (hW : Below w.heap.size w W) => fmt_any n (by omega) W (hG.below hW).deb)
    have hlen := hexD_six (n := n) (by omega)
    obtain ⟨u, hu⟩ : ∃ u : ByteArray, u = ⟨(hexU n).toArray⟩ := ⟨_, rfl⟩
    have hus : u.size = (hexD 8 n).length := by rw [hu]; simp [ByteArray.size, hexU_len]
    have UP := fun W => Tryd.strings_ToUpper_ascii ⟨(hexL n).toArray⟩ W (by simp [ByteArray.size, hexL]; omega) (by simpa using ascii n)
    have e0 : (⟨(Lib.toUpperA (⟨(hexL n).toArray⟩ : ByteArray).data.toList).toArray⟩ : ByteArray) = u := by rw [hu]; simp [hexL_up]
    rw [e0] at UP
    have UP := Lib.hid UP
    have hu6 : u.size ≤ 6 := by omega
    have hui : (u.size : Int) ≤ 6 := by omega
    have hu64 : u.size ≤ 9223372036854775807 := by omega
    have RE := Lib.hid (fun c W (hc : c ≤ 4) => Tryd.strings_Repeat ⟨#[48]⟩ c W (by omega) (by simp [ByteArray.size]; omega))
    have HU := Lib.hid hu
    have HUS := Lib.hid hus
    clear h hG e0 hu hus hlen
    go_enter Tryd.func33, Tryd.ntmps33
    go_wp2_with (go_at_call 9; refine (VB.out _).mono ?_; rintro en w1 ⟨rfl, hb⟩; have KB := Lib.hid hb; clear hb)
    refine (FM.out _ KB.out).mono ?_
    rintro en w2 ⟨rfl, hb⟩
    have KB := Lib.hid (below_step KB.out hb)
    clear hb
    go_wp2_with (go_at_call 40; refine (UP.out _).mono ?_; rintro en w3 ⟨rfl, hb⟩; have KB := Lib.hid (below_step KB.out hb); clear hb)
    have RQ := RE.out (4 - u.size) w3 (by omega)
    rw [show ((4 - u.size : Nat) : Int) = max 0 (4 - (u.size : Int)) by omega, rep_zero] at RQ
    refine RQ.mono ?_
    rintro en w4 ⟨rfl, hb⟩
    have KB := Lib.hid (below_step KB.out hb)
    clear hb RQ RE
    have EQ := Lib.hid (name_eq n u HU.out HUS.out)
    have hz : (⟨(List.replicate (4 - u.size) (48 : UInt8)).toArray⟩ : ByteArray).size ≤ 4 := by
      show (List.replicate (4 - u.size) (48 : UInt8)).toArray.size ≤ 4
      rw [List.size_toArray, List.length_replicate]
      omega
    generalize (⟨(List.replicate (4 - u.size) (48 : UInt8)).toArray⟩ : ByteArray) = z at *
    have hs1 : 2 + z.size ≤ 9223372036854775807 := by omega
    have hs2 : 2 + z.size + u.size ≤ 9223372036854775807 := by omega
    have hs3 : ((⟨#[85, 43]⟩ : ByteArray) ++ z).size + u.size ≤ 9223372036854775807 := by rw [ByteArray.size_append]; show 2 + z.size + u.size ≤ _; omega
    go_wp2
    go_ret2
    rw [E.out]
    exact ⟨by rw [← EQ.out]; rfl, KB.out⟩
  · have E := Lib.hid (show namP r = (⟨#[]⟩, 13) from if_neg h)
    rw [decide_eq_false h] at VB
    clear h hG
    go_enter Tryd.func33, Tryd.ntmps33
    go_wp2_with (go_at_call 9; refine (VB.out _).mono ?_; rintro en w1 ⟨rfl, hb⟩; have KB := Lib.hid hb; clear hb)
    go_ret2
    rw [E.out]
    exact ⟨rfl, KB.out⟩
/-- What is left of a text behind the names' beginning. -/
theorem trim_name (n : Nat) : Lib.trimPrefix (nameL n) [85, 43] = List.replicate (4 - (hexD 8 n).length) 48 ++ hexU n := rfl
theorem trim_len (l : List UInt8) : (Lib.trimPrefix l [85, 43]).length ≤ l.length := by
  unfold Lib.trimPrefix
  split
  · rw [List.length_drop]; omega
  · exact Nat.le_refl _
set_option maxHeartbeats 8000000 in
set_option maxRecDepth 100000 in
theorem byname_any (s : ByteArray) (hl : s.size ≤ 1000000) (w : World) (hG : HOK w) : Calls Tryd.prog 34 #[.string s] w (BeP (.tuple #[.int .i32 (bynP s).1, .int .i64 (bynP s).2]) w) := by
  have CP := Lib.hid (fun W => Tryd.strings_CutPrefix s ⟨#[85, 43]⟩ W)
  obtain ⟨x, hx⟩ : ∃ x : ByteArray, x = ⟨(Lib.trimPrefix s.data.toList [85, 43]).toArray⟩ := ⟨_, rfl⟩
  have hxl : x.data.toList = Lib.trimPrefix s.data.toList [85, 43] := by rw [hx]
  have CP := Lib.hid (show ∀ W, Calls Tryd.prog 43 #[.string s, .string ⟨#[85, 43]⟩] W fun e w' => e = .returned (.tuple #[.string x, .bool (Lib.hasPrefix s.data.toList [85, 43])]) ∧ w' = W from fun W => by rw [hx]; exact CP.out W)
  have PI := Lib.hid (fun W (hW : Below w.heap.size w W) => pint_any x (by rw [hx]; show (Lib.trimPrefix s.data.toList [85, 43]).toArray.size ≤ _; rw [List.size_toArray]; have := trim_len s.data.toList; rw [Array.length_toList] at this; exact Nat.le_trans this hl) W (hG.below hW))
  have NM := Lib.hid (fun r W (hW : Below w.heap.size w W) => name_any r W (hG.below hW))
  by_cases h : ∃ r : Nat, okRune (r : Int) ∧ nameP r = s
  · obtain ⟨r, hr, rfl⟩ := h
    have E := Lib.hid (byn_yes hr)
    have NP := Lib.hid (show namP (r : Int) = (nameP r, 0) from by unfold namP; rw [if_pos hr, Int.toNat_natCast])
    have hr1 := hr.2.1
    have hxv : x.data.toList = List.replicate (4 - (hexD 8 r).length) 48 ++ hexU r := by rw [hxl]; exact trim_name r
    have HX := Lib.hid (show x.data.toList ≠ [] ∧ HexOk x.data.toList ∧ hexV x.data.toList = r by
      have hv := hexV_pad (4 - (hexD 8 r).length) r (by omega)
      rw [hxv]
      refine ⟨fun q => ?_, ⟨all_pad _ r, by rw [hv]; omega⟩, hv⟩
      have : (List.replicate (4 - (hexD 8 r).length) 48 ++ hexU r).length = 0 := by rw [q]; rfl
      have hl6 := (nameL_len (n := r) (by omega)).2
      have : (nameL r).length = 2 + (List.replicate (4 - (hexD 8 r).length) 48 ++ hexU r).length := by unfold nameL; rw [List.length_append]; rfl
      omega)
    have hr0 : (0 : Int) ≤ (r : Int) := by omega
    have hr3 : (r : Int) ≤ 2147483647 := by omega
    have hee : decide ((nameP r).toList = (nameP r).toList) = true := decide_eq_true rfl
    clear hG hl hx hxl hxv hr hr1
    go_enter Tryd.func34, Tryd.ntmps34
    go_wp2_with (go_at_call 43; refine (CP.out _).mono ?_; rintro en w1 ⟨rfl, rfl⟩)
    refine (PI.out _ (Below.refl _ _)).mono ?_
    rintro en w2 ⟨n, ev, rfl, n0, n1, he, hh, hb⟩
    obtain ⟨rfl, rfl⟩ := hh HX.out.1 HX.out.2.1
    rw [HX.out.2.2] at n0 n1 ⊢
    have KB := Lib.hid hb
    clear hb hh he n0 n1
    go_wp2_with (go_at_call 33; refine (NM.out _ _ KB.out).mono ?_; rw [NP.out]; rintro en w3 ⟨rfl, hb⟩; have KB := Lib.hid (below_step KB.out hb); clear hb)
    go_ret2
    rw [E.out]
    exact ⟨rfl, KB.out⟩
  · have h : ∀ r : Nat, okRune (r : Int) → nameP r ≠ s := fun r h1 h2 => h ⟨r, h1, h2⟩
    have E := Lib.hid (byn_no h)
    have HS := Lib.hid h
    clear hG hl hx hxl h
    go_enter Tryd.func34, Tryd.ntmps34
    go_wp2_with (go_at_call 43; refine (CP.out _).mono ?_; rintro en w1 ⟨rfl, rfl⟩)
    refine (PI.out _ (Below.refl _ _)).mono ?_
    rintro en w2 ⟨n, ev, rfl, n0, n1, he, hh, hb⟩
    have KB := Lib.hid hb
    clear hb hh
    rcases he with rfl | ⟨te, pe, rfl⟩
    · by_cases hr : okRune n
      · have NP := Lib.hid (show namP n = (nameP n.toNat, 0) from if_pos hr)
        have NE := HS.out n.toNat (by have := hr.1; rwa [Int.toNat_of_nonneg (by omega)])
        generalize nameP n.toNat = z at *
        have hd : decide (z.toList = s.toList) = false := decide_eq_false (fun q => NE (ByteArray.ext (Array.toList_inj.1 (by rw [← Lib.toList_data, ← Lib.toList_data]; exact q))))
        have hd2 : (!z.toList == s.toList) = true := by simpa using hd
        clear hr NE HS
        go_wp2_with (go_at_call 33; refine (NM.out _ _ KB.out).mono ?_; rw [NP.out]; rintro en w3 ⟨rfl, hb⟩; have KB := Lib.hid (below_step KB.out hb); clear hb)
        go_ret2
        rw [E.out]
        exact ⟨rfl, KB.out⟩
      · have NP := Lib.hid (show namP n = (⟨#[]⟩, 13) from if_neg hr)
        clear hr HS
        go_wp2_with (go_at_call 33; refine (NM.out _ _ KB.out).mono ?_; rw [NP.out]; rintro en w3 ⟨rfl, hb⟩; have KB := Lib.hid (below_step KB.out hb); clear hb)
        go_ret2
        rw [E.out]
        exact ⟨rfl, KB.out⟩
    · have NM2 := Lib.hid (NM.out n)
      generalize namP n = q at NM2
      clear HS
      go_wp2_with (go_at_call 33; refine (NM2.out _ KB.out).mono ?_; rintro en w3 ⟨rfl, hb⟩; have KB := Lib.hid (below_step KB.out hb); clear hb)
      go_ret2
      rw [E.out]
      exact ⟨rfl, KB.out⟩
end Go.Proofs.YtphgoaacmkagmaaDoor.Hx
