/- UTF-8, plain law: decoding inverts encoding, and the other way round; no program is named here. -/
import Derived.Test.YtphgoaacmkagmaaDoorLe
import Derived.Lib.MapLaws
import Derived.Lib.TrimUEq
import Derived.Lib.ValidLaws
namespace Go.Proofs.YtphgoaacmkagmaaDoor.Rn
open Go Go.RowKit Go.Proofs
set_option linter.unusedSimpArgs false
set_option linter.unusedVariables false

theorem dec_rune_ok (s : ByteArray) (pos : Nat) : Lib.validRune ((Utf8.decode s pos).1 : Int) = true := by
  rw [Lib.decode_at]
  unfold Lib.decodeN Lib.validRune
  have h0 : (s.get! pos).toNat < 256 := UInt8.toNat_lt _
  have h1 : (s.get! (pos + 1)).toNat < 256 := UInt8.toNat_lt _
  have h2 : (s.get! (pos + 2)).toNat < 256 := UInt8.toNat_lt _
  have h3 : (s.get! (pos + 3)).toNat < 256 := UInt8.toNat_lt _
  repeat' split
  all_goals first | (simp; done) | (simp; omega)
def bts (l : List Int) : List UInt8 := l.map fun n => UInt8.ofNat n.toNat
theorem bts_app (a b : List Int) : bts (a ++ b) = bts a ++ bts b := by unfold bts; rw [List.map_append]
theorem rt_from (s : ByteArray) : ∀ fuel pos, s.size ≤ fuel + pos → Lib.validD (s.data.toList.drop pos) = true → bts (utf8 (runesFrom s fuel pos)) = s.data.toList.drop pos
  | 0, pos, hf, _ => by
    have hs : s.size = s.data.toList.length := by rw [Array.length_toList]; rfl
    rw [List.drop_eq_nil_of_le (by omega)]
    rfl
  | fuel + 1, pos, hf, hv => by
    have hs : s.size = s.data.toList.length := by rw [Array.length_toList]; rfl
    unfold runesFrom
    by_cases hp : pos < s.size
    · have hne : s.data.toList.drop pos ≠ [] := by
        intro h
        have := congrArg List.length h
        rw [List.length_drop, List.length_nil] at this
        omega
      have hd := Lib.decodeL_drop s pos
      have hw := Lib.decodeL_width (s.data.toList.drop pos)
      rw [Lib.validD_step _ hne] at hv
      by_cases hb : (Lib.decodeL (s.data.toList.drop pos)).1 = 65533 ∧ (Lib.decodeL (s.data.toList.drop pos)).2 = 1
      · rw [if_pos hb] at hv; cases hv
      · rw [if_neg hb, List.drop_drop] at hv
        have he := Lib.encode_decode _ hne hb
        rw [hd] at hv he hw
        rw [if_pos hp]
        show bts (Lib.encodeRuneZ _ ++ utf8 _) = _
        rw [bts_app, rt_from s fuel (pos + (Utf8.decode s pos).2) (by omega) hv]
        show Lib.encodeRune _ ++ _ = _
        rw [he, ← List.drop_drop, List.take_append_drop]
    · rw [if_neg hp, List.drop_eq_nil_of_le (by omega)]
      rfl
theorem round_trip {s : ByteArray} {l : List Int} (h : decP s = (l, 0)) : (strOfNums (utf8 l)).data.toList = s.data.toList ∧ ∀ r ∈ l, okRune r := by
  unfold decP at h
  by_cases hv : Lib.validD s.data.toList = true
  · rw [if_pos hv] at h
    by_cases h0 : (0 : Int) ∈ runesOf s
    · rw [if_pos h0] at h; cases h
    · rw [if_neg h0] at h
      injection h with h1 _
      subst h1
      have := rt_from s s.size 0 (by omega) (by rw [List.drop_zero]; exact hv)
      rw [List.drop_zero] at this
      refine ⟨this, fun r hr => ?_⟩
      have hne : r ≠ 0 := fun q => h0 (by rw [← q]; exact hr)
      have hall : ∀ fuel pos, ∀ r ∈ runesFrom s fuel pos, 0 ≤ r ∧ r ≤ 1114111 ∧ (r < 55296 ∨ 57343 < r) := by
        intro fuel
        induction fuel with
        | zero => intro pos r hr; cases hr
        | succ f ih =>
          intro pos r hr
          unfold runesFrom at hr
          split at hr
          · rcases List.mem_cons.1 hr with rfl | hr
            · have := dec_rune_ok s pos
              unfold Lib.validRune at this
              simp at this
              omega
            · exact ih _ r hr
          · cases hr
      have := hall s.size 0 r hr
      unfold okRune
      omega
  · rw [if_neg hv] at h
    have := congrArg Prod.snd h
    simp at this


/-- A number that stands for a character, nought among them. -/
def okSc (r : Int) : Prop := 0 ≤ r ∧ r ≤ 1114111 ∧ (r < 55296 ∨ 57343 < r)
instance (r : Int) : Decidable (okSc r) := by unfold okSc; infer_instance
theorem sc_rune {r : Int} : okRune r ↔ okSc r ∧ r ≠ 0 := by unfold okRune okSc; omega
theorem ofNat_toNat {n : Nat} (h : n < 256) : (UInt8.ofNat n).toNat = n := by rw [UInt8.toNat_ofNat']; omega
theorem dec_enc (r : Int) (h : okSc r) (t : List UInt8) : Lib.decodeL (bts (Lib.encodeRuneZ r) ++ t) = (r.toNat, (Lib.encodeRuneZ r).length) := by
  obtain ⟨h0, h1, h2⟩ := h
  obtain ⟨n, rfl⟩ : ∃ n : Nat, r = n := ⟨r.toNat, by omega⟩
  rw [Lib.decodeL_N, Int.toNat_natCast]
  by_cases q1 : n < 128
  · rw [Lib.encodeRuneZ_one (by omega) (by omega)]
    simp only [bts, List.map_cons, List.map_nil, List.cons_append, List.nil_append, List.getD_cons_zero, Int.toNat_natCast, List.length_cons, List.length_nil]
    rw [ofNat_toNat (by omega)]
    unfold Lib.decodeN
    rw [if_pos q1]
  · by_cases q2 : n < 2048
    · rw [Lib.encodeRuneZ_two (by omega) (by omega)]
      simp only [bts, List.map_cons, List.map_nil, List.cons_append, List.nil_append, List.getD_cons_zero, List.getD_cons_succ, List.length_cons, List.length_nil]
      rw [show (192 + (n : Int) / 64).toNat = 192 + n / 64 by omega, show (128 + (n : Int) % 64).toNat = 128 + n % 64 by omega, ofNat_toNat (by omega), ofNat_toNat (by omega)]
      unfold Lib.decodeN
      rw [if_neg (by omega), if_pos (by omega), if_pos (by omega)]
      congr 1
      omega
    · by_cases q3 : n < 65536
      · rw [Lib.encodeRuneZ_three (by omega)]
        simp only [bts, List.map_cons, List.map_nil, List.cons_append, List.nil_append, List.getD_cons_zero, List.getD_cons_succ, List.length_cons, List.length_nil]
        rw [show (224 + (n : Int) / 4096).toNat = 224 + n / 4096 by omega, show (128 + (n : Int) / 64 % 64).toNat = 128 + n / 64 % 64 by omega, show (128 + (n : Int) % 64).toNat = 128 + n % 64 by omega, ofNat_toNat (by omega), ofNat_toNat (by omega), ofNat_toNat (by omega)]
        unfold Lib.decodeN
        have e : (224 + n / 4096) % 16 * 4096 + (128 + n / 64 % 64) % 64 * 64 + (128 + n % 64) % 64 = n := by omega
        rw [if_neg (by omega), if_neg (by omega), if_pos (by omega), e, if_pos (by omega)]
      · rw [Lib.encodeRuneZ_four (by omega) (by omega)]
        simp only [bts, List.map_cons, List.map_nil, List.cons_append, List.nil_append, List.getD_cons_zero, List.getD_cons_succ, List.length_cons, List.length_nil]
        rw [show (240 + (n : Int) / 262144).toNat = 240 + n / 262144 by omega, show (128 + (n : Int) / 4096 % 64).toNat = 128 + n / 4096 % 64 by omega, show (128 + (n : Int) / 64 % 64).toNat = 128 + n / 64 % 64 by omega, show (128 + (n : Int) % 64).toNat = 128 + n % 64 by omega, ofNat_toNat (by omega), ofNat_toNat (by omega), ofNat_toNat (by omega), ofNat_toNat (by omega)]
        unfold Lib.decodeN
        have e : (240 + n / 262144) % 8 * 262144 + (128 + n / 4096 % 64) % 64 * 4096 + (128 + n / 64 % 64) % 64 * 64 + (128 + n % 64) % 64 = n := by omega
        rw [if_neg (by omega), if_neg (by omega), if_neg (by omega), if_pos (by omega), e, if_pos (by omega)]
theorem enc_len (r : Int) : 1 ≤ (bts (Lib.encodeRuneZ r)).length := by unfold bts; rw [List.length_map]; exact (Lib.encodeRuneZ_length r).1
theorem utf8_cons (a : Int) (us : List Int) : utf8 (a :: us) = Lib.encodeRuneZ a ++ utf8 us := rfl
theorem enc_not_bad {r : Int} (h : okSc r) : ¬ ((r.toNat, (Lib.encodeRuneZ r).length).1 = 65533 ∧ (r.toNat, (Lib.encodeRuneZ r).length).2 = 1) := by
  rintro ⟨h1, h2⟩
  have h1 : r.toNat = 65533 := h1
  have h2 : (Lib.encodeRuneZ r).length = 1 := h2
  rw [show r = 65533 by omega] at h2
  revert h2
  decide
theorem valid_enc : ∀ rs : List Int, (∀ r ∈ rs, okSc r) → Lib.validD (bts (utf8 rs)) = true
  | [], _ => rfl
  | r :: rs, h => by
    have hr := h r List.mem_cons_self
    rw [utf8_cons, bts_app]
    have hne : bts (Lib.encodeRuneZ r) ++ bts (utf8 rs) ≠ [] := by
      intro q
      have h1 := congrArg List.length q
      have h2 := enc_len r
      rw [List.length_append, List.length_nil] at h1
      omega
    rw [Lib.validD_step _ hne, dec_enc r hr, if_neg (enc_not_bad hr)]
    have hl : (Lib.encodeRuneZ r).length = (bts (Lib.encodeRuneZ r)).length := by unfold bts; rw [List.length_map]
    rw [show (r.toNat, (Lib.encodeRuneZ r).length).2 = (bts (Lib.encodeRuneZ r)).length from hl, List.drop_left]
    exact valid_enc rs (fun x hx => h x (List.mem_cons_of_mem _ hx))
theorem runes_enc (s : ByteArray) : ∀ (rs : List Int) (fuel pos : Nat), (∀ r ∈ rs, okSc r) → s.size ≤ fuel + pos → s.data.toList.drop pos = bts (utf8 rs) → runesFrom s fuel pos = rs
  | [], fuel, pos, _, hf, hd => by
    have hs : s.size = s.data.toList.length := by rw [Array.length_toList]; rfl
    have : (s.data.toList.drop pos).length = 0 := by rw [hd]; rfl
    rw [List.length_drop] at this
    cases fuel with
    | zero => rfl
    | succ f =>
      unfold runesFrom
      rw [if_neg (by omega)]
  | r :: rs, fuel, pos, h, hf, hd => by
    have hs : s.size = s.data.toList.length := by rw [Array.length_toList]; rfl
    have hr := h r List.mem_cons_self
    rw [utf8_cons, bts_app] at hd
    have hl := congrArg List.length hd
    have h1 := enc_len r
    rw [List.length_drop, List.length_append] at hl
    have hlz : (Lib.encodeRuneZ r).length = (bts (Lib.encodeRuneZ r)).length := by unfold bts; rw [List.length_map]
    have hdec : Utf8.decode s pos = (r.toNat, (Lib.encodeRuneZ r).length) := by rw [← Lib.decodeL_drop, hd, dec_enc r hr]
    cases fuel with
    | zero => omega
    | succ f =>
      unfold runesFrom
      rw [if_pos (by omega), hdec]
      rw [runes_enc s rs f _ (fun x hx => h x (List.mem_cons_of_mem _ hx)) (by show s.size ≤ f + (pos + (Lib.encodeRuneZ r).length); omega)]
      · show ((r.toNat : Int)) :: rs = _
        rw [Int.toNat_of_nonneg hr.1]
      · show s.data.toList.drop (pos + (Lib.encodeRuneZ r).length) = _
        rw [← List.drop_drop, hd, hlz, List.drop_left]
/-- Decoding what was encoded. -/
theorem dec_str {rs : List Int} (h : ∀ r ∈ rs, okSc r) : Lib.validD (strOfNums (utf8 rs)).data.toList = true ∧ runesOf (strOfNums (utf8 rs)) = rs := by
  refine ⟨valid_enc rs h, ?_⟩
  unfold runesOf
  exact runes_enc _ rs _ 0 h (by omega) rfl
theorem decP_str {rs : List Int} (h : ∀ r ∈ rs, okRune r) : decP (strOfNums (utf8 rs)) = (rs, 0) := by
  obtain ⟨h1, h2⟩ := dec_str (rs := rs) (fun r hr => (sc_rune.1 (h r hr)).1)
  unfold decP
  rw [if_pos h1, h2, if_neg]
  intro h0
  exact (sc_rune.1 (h 0 h0)).2 rfl
theorem str_ext {a b : ByteArray} (h : a.data.toList = b.data.toList) : a = b := ByteArray.ext (Array.toList_inj.1 h)
theorem sc_of_valid {r : Int} (h : Lib.validRune r = true) : okSc r := by
  unfold Lib.validRune at h
  unfold okSc
  rw [decide_eq_true_eq] at h
  omega
/-- What is decoded is what was encoded. -/
theorem decP_iff (s : ByteArray) (rs : List Int) : decP s = (rs, 0) ↔ s = strOfNums (utf8 rs) ∧ ∀ r ∈ rs, okRune r := by
  constructor
  · intro h
    obtain ⟨h1, h2⟩ := round_trip h
    exact ⟨str_ext h1.symm, h2⟩
  · rintro ⟨rfl, h⟩
    exact decP_str h
end Go.Proofs.YtphgoaacmkagmaaDoor.Rn
