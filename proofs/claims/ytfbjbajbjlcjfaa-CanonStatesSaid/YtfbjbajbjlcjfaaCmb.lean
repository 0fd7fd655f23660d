/- Layer 17, walks: canon.Size, Append, slices.Concat, and the laws' encodes, sizes, appends. -/
import Derived.Test.YtfbjbajbjlcjfaaCma
import Derived.Test.YtfbjbajbjlcjfaaWZeros
namespace Go.Proofs.Ytfbjbajbjlcjfaa.Cn
open Go Go.RowKit Go.Proofs Go.Proofs.Ytfbjbajbjlcjfaa.Vn Go.Proofs.Ytfbjbajbjlcjfaa.Kit Go.Proofs.Ytfbjbajbjlcjfaa.PCanonStates Go.Proofs.YtfbjbajbjlcjfaaW.PrintWords
set_option linter.unusedSimpArgs false
set_option linter.unusedVariables false

/-- What Encode returns: the bytes, the error. -/
def CEn (xs : List S38) (B : List Int) (E : Int) : Prop := (¬ StoreOk xs ∧ B = [] ∧ E = 2) ∨ (StoreOk xs ∧ 65536 < xs.length ∧ B = [] ∧ E = 5) ∨ (StoreOk xs ∧ xs.length ≤ 65536 ∧ B = canonBs xs ∧ E = 0)
/-- A row of bytes that was made, and an error. -/
def MadeT (B : List Int) (E : Int) (w : World) (en : Ending) (w' : World) : Prop :=
  ∃ v, en = .returned (.tuple #[v, .int .i64 E]) ∧ k8.R 5 w' w.heap.size (fun j => w.heap.size ≤ j) v B ∧ Below w.heap.size w w'
theorem made_nil {E : Int} {w w' : World} {en : Ending} (h : BeP (.tuple #[.slice none 0 0, .int .i64 E]) w en w') : MadeT [] E w en w' := ⟨_, h.1, Kd.R_nil _ _ _ _ _, h.2⟩
theorem cencode_any (A : Option Addr) (c : Nat) (xs : List S38) (B : List Int) (E : Int) (w : World) (hx : k38.C w A xs.length xs) (hc : xs.length ≤ c) (hl : xs.length ≤ 1000000) (h : CEn xs B E) :
    Calls Try.prog 23 #[.slice A xs.length c] w (MadeT B E w) := by
  rcases h with ⟨h1, rfl, rfl⟩ | ⟨h1, h2, rfl, rfl⟩ | ⟨h1, h2, rfl, rfl⟩
  · exact (cencode_bad A c xs w hx hc hl h1).mono fun _ _ h => made_nil h
  · exact (cencode_long A c xs w hx hc hl h1 h2).mono fun _ _ h => made_nil h
  · exact cencode_ok A c xs w hx hc h2 h1
theorem canon_len (xs : List S38) (h : StoreOk xs) (hl : xs.length ≤ 65536) : (canonBs xs).length ≤ 4000000 := by
  have h1 := nodes_len h xs.length (Nat.le_refl _)
  have h2 := utf8_len (textOf xs)
  have h3 := text_len xs xs.length
  rw [List.take_length] at h1 h3
  have h4 := enc_length64 (n := xs.length) (by omega)
  have h5 := enc_length64 (n := (utf8 (textOf xs)).length) (by omega)
  unfold canonBs
  simp only [List.length_append]
  omega
theorem cen_len {xs : List S38} {B : List Int} {E : Int} (h : CEn xs B E) : B.length ≤ 4000000 := by
  rcases h with ⟨h1, rfl, rfl⟩ | ⟨h1, h2, rfl, rfl⟩ | ⟨h1, h2, rfl, rfl⟩
  · simp
  · simp
  · exact canon_len xs h1 h2
theorem csize_any (A : Option Addr) (c : Nat) (xs : List S38) (B : List Int) (E : Int) (w : World) (hx : k38.C w A xs.length xs) (hc : xs.length ≤ c) (hl : xs.length ≤ 1000000) (h : CEn xs B E) :
    Calls Try.prog 22 #[.slice A xs.length c] w (BeP (.tuple #[.int .i64 B.length, .int .i64 E]) w) := by
  have CE := Lib.hid (cencode_any A c xs B E w hx hc hl h)
  clear hx hc hl h
  go_enter Try.func22, Try.ntmps22
  go_wp2_with (go_at_call 23; refine CE.out.mono ?_; rintro en w1 ⟨v1, rfl, hr, hb⟩; obtain ⟨A1, c1, rfl, _, _⟩ := Kd.R_reads hr; have KB := Lib.hid hb; clear hb hr)
  go_ret2
  exact ⟨rfl, KB.out⟩
theorem encodes_yes (A : Option Addr) (c : Nat) (xs : List S38) (B : List Int) (E : Int) (Aw : Option Addr) (cw : Nat) (w : World) (hx : k38.C w A xs.length xs) (hc : xs.length ≤ c) (hl : xs.length ≤ 1000000) (h : CEn xs B E) (hw : k8.C w Aw B.length B) :
    Calls Try.prog 10 #[.slice A xs.length c, .slice Aw B.length cw, .int .i64 E] w (BeP (.bool true) w) := by
  have CE := Lib.hid (cencode_any A c xs B E w hx hc hl h)
  have HW := Lib.hid hw
  clear hx hc hl h hw
  go_enter Try.func10, Try.ntmps10
  go_wp2_with (go_at_call 23; refine CE.out.mono ?_; rintro en w1 ⟨v1, rfl, hr, hb⟩; obtain ⟨A1, c1, rfl, _, hC⟩ := Kd.R_reads hr; have q1 := conv8 (c := c1) hC; have q2 := conv8 (c := cw) (Kd.C_below HW.out hb); have KB := Lib.hid hb; clear hb hr hC)
  go_ret
  exact ⟨rfl, KB.out⟩
theorem sizes_yes (A : Option Addr) (c : Nat) (xs : List S38) (B : List Int) (E : Int) (w : World) (hx : k38.C w A xs.length xs) (hc : xs.length ≤ c) (hl : xs.length ≤ 1000000) (h : CEn xs B E) (z : Int) (hz : (B.length : Int) = z) :
    Calls Try.prog 12 #[.slice A xs.length c, .int .i64 z, .int .i64 E] w (BeP (.bool true) w) := by
  have CS := csize_any A c xs B E w hx hc hl h
  rw [hz] at CS
  have CS := Lib.hid CS
  clear hx hc hl h hz
  go_enter Try.func12, Try.ntmps12
  go_wp2_with (go_at_call 22; refine CS.out.mono ?_; rintro en w1 ⟨rfl, hb⟩; have KB := Lib.hid hb; clear hb)
  go_ret
  exact ⟨rfl, KB.out⟩
end Go.Proofs.Ytfbjbajbjlcjfaa.Cn

/- Layer 17, walks: slices.Grow and Concat, canon.Append, the law's appends. -/
namespace Go.Proofs.Ytfbjbajbjlcjfaa.Cn
open Go Go.RowKit Go.Proofs Go.Proofs.Ytfbjbajbjlcjfaa.Vn Go.Proofs.Ytfbjbajbjlcjfaa.Kit Go.Proofs.Ytfbjbajbjlcjfaa.PCanonStates Go.Proofs.YtfbjbajbjlcjfaaW.PrintWords
set_option linter.unusedSimpArgs false
set_option linter.unusedVariables false

theorem take8 (A : Option Addr) (c : Nat) (xs : List Int) (m : Nat) (hm : m ≤ xs.length) (hc : xs.length ≤ c) (n : Nat) (hn : xs.length = n) :
    (∀ W : World, (Instr.slice 24 (.slice A n c) none (some (.int .i64 (m : Int))) none).run Try.prog W = .ok (.slice A m c) W) := by
  subst hn
  obtain ⟨i, hi, _, hsz, _⟩ := info_parts info8
  obtain ⟨h1, h2, h3⟩ := print_take_of (P := Try.prog) (Value.int .u8) 0 24 5 .i64 Try.underlying24 hi hsz A c xs (m : Int) (by omega) (by omega) hc
  rw [Int.toNat_natCast] at h1
  have e : (xs.take m).length = m := by rw [List.length_take]; omega
  rw [e] at h1
  exact h1
set_option maxHeartbeats 2000000 in
theorem grow_nil (n : Nat) (hn : n ≤ 100000000) (w : World) : Calls Try.prog 57 #[.slice none 0 0, .int .i64 n] w (Vn.MadeP [] w) := by
  rcases Nat.eq_zero_or_pos n with rfl | hp
  · go_enter Try.func57, Try.ntmps57
    go_wp2
    go_ret
    exact ⟨_, rfl, Kd.R_nil _ _ _ _ _, Below.refl _ _⟩
  · have hd : decide ((n : Int) < 0) = false := decide_eq_false (by omega)
    have hd2 : decide ((0 : Int) < (n : Int)) = true := decide_eq_true (by omega)
    have hd3 : decide (0 < n) = true := decide_eq_true hp
    have hsl := take8 none 0 [] 0 (Nat.le_refl _) (Nat.le_refl _) 0 rfl
    have hni : (n : Int) ≤ 100000000 := by omega
    have LN := Lib.hid (show (([] : List Int).length + (n : Int).toNat) * 1 ≤ 140737488355328 by simp; omega)
    have EN := Lib.hid (show (([] : List Int) ++ List.replicate (n : Int).toNat (0 : Int)).length = n by simp)
    go_enter Try.func57, Try.ntmps57
    go_wp2_with ((with_reducible refine gate_builtin (b := .append) (xs := #[.tmp 20, .tmp 21]) rfl ?_); at_builtin; refine Kd.R_append_zeros k8 (w0 := w) w.heap.size rfl (.tmp 20) (.tmp 21) 24 3 5 (.int .u8 0) 1 rfl Try.underlying24 Try.underlying3 info8 rfl (by decide) (by omega) (.slice none 0 0) [] (0 : Int) (n : Int) (fun j => w.heap.size ≤ j) rfl rfl rfl (fun k hk => hk) (Kd.R_nil _ _ _ _ _) (by omega) (Below.refl _ _) (Nat.le_refl _) LN.out ?_; intro v7 w7 ho hb hg_ hat; obtain ⟨A7, c7, rfl, hc7, _⟩ := Kd.R_reads ho; have hs2 := take8 A7 c7 _ 0 (Nat.zero_le _) hc7 n EN.out; have HO := Lib.hid ho; have KB := Lib.hid hb; rw [EN.out]; clear ho hb hg_ hat hc7)
    go_ret
    exact ⟨_, rfl, by simpa using Kd.R_take HO.out (m := 0) (Nat.zero_le _), KB.out⟩
set_option maxHeartbeats 4000000 in
theorem concat_two (g : Nat) (T : TypeId) (A0 : Option Addr) (c0 : Nat) (xs0 : List Int) (A1 : Option Addr) (c1 : Nat) (xs1 : List Int) (w : World) (hb : w.heap[g]? = some (.cells #[.slice A0 xs0.length c0, .slice A1 xs1.length c1] T (0, 0))) (h0 : k8.C w A0 xs0.length xs0) (h1 : k8.C w A1 xs1.length xs1) (hl : xs0.length + xs1.length ≤ 10000000) :
    Calls Try.prog 42 #[.slice (some ⟨g, 0, none⟩) 2 2] w (Vn.MadeP (xs0 ++ xs1) w) := by
  have HB := Lib.hid hb
  have H0 := Lib.hid h0
  have H1 := Lib.hid h1
  have HL := Lib.hid hl
  have GR := Lib.hid (grow_nil (xs0.length + xs1.length) (by omega))
  have l0 : (xs0.length : Int) ≤ 10000000 := by omega
  have l1 : (xs1.length : Int) ≤ 10000000 := by omega
  have l2 : (xs0.length : Int) + xs1.length ≤ 10000000 := by omega
  clear hb h0 h1 hl
  go_enter Try.func42, Try.ntmps42
  go_wp2
  go_loopw [3, 11] (fun s i wr => ∃ k : Nat, i = .int .i64 k ∧ Below w.heap.size w wr ∧ ((k = 0 ∧ s = .int .i64 0) ∨ (k = 1 ∧ s = .int .i64 xs0.length) ∨ (k = 2 ∧ s = .int .i64 ((xs0.length + xs1.length : Nat) : Int)))) (fun _ i _ => (2 : Int).toNat - (intOf i).toNat)
  case atStart => exact ⟨0, rfl, Below.refl _ _, .inl ⟨rfl, rfl⟩⟩
  case round =>
    obtain ⟨k, rfl, hB, hk⟩ := hrel
    have hbx := blk_below HB.out hB
    have p0 := (blk_cell hbx 0).trans rfl
    have p1 := (blk_cell hbx 1).trans rfl
    have KB := Lib.hid hB
    clear hbx hB
    rcases hk with ⟨rfl, rfl⟩ | ⟨rfl, rfl⟩ | ⟨rfl, rfl⟩
    · go_wp2
      go_roundw
      case rel => exact ⟨1, by go_num, KB.out, .inr (.inl ⟨rfl, by go_num⟩)⟩
      case measure => simp [intOf]
    · go_wp2
      go_roundw
      case rel => exact ⟨2, by go_num, KB.out, .inr (.inr ⟨rfl, by rw [Int.natCast_add]⟩)⟩
      case measure => simp [intOf]
    · clear p0 p1
      rw [Int.natCast_add] at GR ⊢
      go_upto_region 10 with (go_at_call 57; refine (GR.out _).mono ?_; rintro en w1 ⟨v1, rfl, hr, hb⟩; have HO := Lib.hid (Kd.R_lower (Kd.R_mono hr (fun j hj => Nat.le_trans KB.out.size hj)) KB.out.size); have KB := Lib.hid (below_step KB.out hb); clear hr hb)
      go_wp2
      go_loopw [6, 27] (fun u i wr => ∃ k : Nat, i = .int .i64 k ∧ Below w.heap.size w wr ∧ ((k = 0 ∧ k8.R 5 wr w.heap.size (fun j => w.heap.size ≤ j) u []) ∨ (k = 1 ∧ k8.R 5 wr w.heap.size (fun j => w.heap.size ≤ j) u xs0) ∨ (k = 2 ∧ k8.R 5 wr w.heap.size (fun j => w.heap.size ≤ j) u (xs0 ++ xs1)))) (fun _ i _ => (2 : Int).toNat - (intOf i).toNat)
      case atStart => exact ⟨0, rfl, KB.out, .inl ⟨rfl, HO.out⟩⟩
      case round =>
        clear KB HO
        obtain ⟨k, rfl, hB, hk⟩ := hrel
        have hbx := blk_below HB.out hB
        have p0 := (blk_cell hbx 0).trans rfl
        have p1 := (blk_cell hbx 1).trans rfl
        have KB := Lib.hid hB
        clear hbx hB
        rcases hk with ⟨rfl, hO⟩ | ⟨rfl, hO⟩ | ⟨rfl, hO⟩
        · have HO := Lib.hid hO
          clear hO
          go_wp2_with ((with_reducible refine gate_builtin (b := .append) (xs := #[.tmp 31, .tmp 32]) rfl ?_); at_builtin; refine Kd.R_append_rows k8 (w0 := w) w.heap.size rfl (.tmp 31) (.tmp 32) 24 5 (.int .u8 0) 1 rfl Try.underlying24 info8 rfl (by decide) (by omega) u6 [] xs0 _ _ _ (fun j => w.heap.size ≤ j) (fun _ => False) rfl rfl HO.out (Kd.C_below H0.out KB.out) (fun _ _ h => h) (fun _ h => h.elim) (fun k hk => Nat.le_trans KB.out.size hk) KB.out KB.out.size (by have := HL.out; simp; omega) ?_; intro v7 w7 ho hb hg_ hat; rw [List.nil_append] at ho; have HO := Lib.hid ho; have KB := Lib.hid hb; clear ho hb hg_ hat)
          go_roundw
          case rel => exact ⟨1, by go_num, KB.out, .inr (.inl ⟨rfl, HO.out⟩)⟩
          case measure => simp [intOf]
        · have HO := Lib.hid hO
          clear hO
          go_wp2_with ((with_reducible refine gate_builtin (b := .append) (xs := #[.tmp 31, .tmp 32]) rfl ?_); at_builtin; refine Kd.R_append_rows k8 (w0 := w) w.heap.size rfl (.tmp 31) (.tmp 32) 24 5 (.int .u8 0) 1 rfl Try.underlying24 info8 rfl (by decide) (by omega) u6 xs0 xs1 _ _ _ (fun j => w.heap.size ≤ j) (fun _ => False) rfl rfl HO.out (Kd.C_below H1.out KB.out) (fun _ _ h => h) (fun _ h => h.elim) (fun k hk => Nat.le_trans KB.out.size hk) KB.out KB.out.size (by have := HL.out; omega) ?_; intro v7 w7 ho hb hg_ hat; have HO := Lib.hid ho; have KB := Lib.hid hb; clear ho hb hg_ hat)
          go_roundw
          case rel => exact ⟨2, by go_num, KB.out, .inr (.inr ⟨rfl, HO.out⟩)⟩
          case measure => simp [intOf]
        · have HO := Lib.hid hO
          clear hO
          go_wp2
          go_ret
          exact ⟨_, rfl, HO.out, KB.out⟩
theorem cen_zero {xs : List S38} {B : List Int} {E : Int} (h : CEn xs B E) : (E = 0 ∨ (E ≠ 0 ∧ B = [])) := by
  rcases h with ⟨h1, rfl, rfl⟩ | ⟨h1, h2, rfl, rfl⟩ | ⟨h1, h2, rfl, rfl⟩
  · exact .inr ⟨by decide, rfl⟩
  · exact .inr ⟨by decide, rfl⟩
  · exact .inl rfl
set_option maxHeartbeats 2000000 in
theorem cappend_any (Ab : Option Addr) (cb : Nat) (b : List Int) (A : Option Addr) (c : Nat) (xs : List S38) (B : List Int) (E : Int) (w : World) (hb : k8.C w Ab b.length b) (hbl : b.length ≤ 1000000) (hx : k38.C w A xs.length xs) (hc : xs.length ≤ c) (hl : xs.length ≤ 1000000) (h : CEn xs B E) :
    Calls Try.prog 28 #[.slice Ab b.length cb, .slice A xs.length c] w (MadeT (if E = 0 then b ++ B else []) E w) := by
  have CE := Lib.hid (cencode_any A c xs B E w hx hc hl h)
  have hlen := cen_len h
  have HB := Lib.hid hb
  have LL := Lib.hid (show b.length + B.length ≤ 10000000 by omega)
  rcases cen_zero h with rfl | ⟨h0, rfl⟩
  · clear hb hbl hx hc hl h hlen
    go_enter Try.func28, Try.ntmps28
    go_wp2_with (first | (go_at_call 23; refine CE.out.mono ?_; rintro en w1 ⟨v1, rfl, hr, hb⟩; obtain ⟨A1, c1, rfl, _, hC⟩ := Kd.R_reads hr; have KB := Lib.hid hb; have C1 := Lib.hid hC; have C0 := Lib.hid (Kd.C_below HB.out hb); have hbx := blk_new w1 (.cells #[.slice Ab b.length cb, .slice A1 B.length c1] 24); have CC := Lib.hid (concat_two w1.heap.size 24 Ab cb b A1 c1 B _ hbx (Kd.C_below C0.out (below_alloc (Below.refl _ _) _)) (Kd.C_below C1.out (below_alloc (Below.refl _ _) _)) LL.out); have KA := Lib.hid (below_alloc hb (.cells #[.slice Ab b.length cb, .slice A1 B.length c1] 24)); clear hb hr hC hbx) | (go_at_call 42; refine CC.out.mono ?_; rintro en w2 ⟨v2, rfl, hr, hb⟩; have R2 := Lib.hid hr; have KB := Lib.hid (below_step KA.out hb); have SZ := Lib.hid KA.out.size; clear hb hr))
    go_ret2
    refine ⟨v2, rfl, ?_, KB.out⟩
    exact Kd.R_lower (Kd.R_mono R2.out (fun k hk => Nat.le_trans SZ.out hk)) SZ.out
  · have hd : (E != 0) = true := bne_iff_ne.2 h0
    have hd2 : (E == 0) = false := beq_eq_false_iff_ne.2 h0
    have H0 := Lib.hid h0
    clear hb hbl hx hc hl h hlen h0
    go_enter Try.func28, Try.ntmps28
    go_wp2_with (first | (go_at_call 23; refine CE.out.mono ?_; rintro en w1 ⟨v1, rfl, hr, hb⟩; have KB := Lib.hid hb; clear hb hr))
    go_ret2
    refine ⟨_, rfl, ?_, KB.out⟩
    exact Kd.R_nil _ _ _ _ _
theorem appends_yes (Ab : Option Addr) (cb : Nat) (b : List Int) (A : Option Addr) (c : Nat) (xs : List S38) (B : List Int) (E : Int) (Aw : Option Addr) (cw : Nat) (W : List Int) (w : World) (hb : k8.C w Ab b.length b) (hbl : b.length ≤ 1000000) (hx : k38.C w A xs.length xs) (hc : xs.length ≤ c) (hl : xs.length ≤ 1000000) (h : CEn xs B E) (hw : k8.C w Aw W.length W) (hW : (if E = 0 then b ++ B else []) = W) :
    Calls Try.prog 11 #[.slice Ab b.length cb, .slice A xs.length c, .slice Aw W.length cw, .int .i64 E] w (BeP (.bool true) w) := by
  have CA := cappend_any Ab cb b A c xs B E w hb hbl hx hc hl h
  rw [hW] at CA
  have CA := Lib.hid CA
  have HW := Lib.hid hw
  clear hx hc hl h hw hb hbl hW
  go_enter Try.func11, Try.ntmps11
  go_wp2_with (go_at_call 28; refine CA.out.mono ?_; rintro en w1 ⟨v1, rfl, hr, hb⟩; obtain ⟨A1, c1, rfl, _, hC⟩ := Kd.R_reads hr; have q1 := conv8 (c := c1) hC; have q2 := conv8 (c := cw) (Kd.C_below HW.out hb); have KB := Lib.hid hb; clear hb hr hC)
  go_ret
  exact ⟨rfl, KB.out⟩
end Go.Proofs.Ytfbjbajbjlcjfaa.Cn

/- Layer 17, walks: slices.IndexFunc over dots, with each of the functions that are handed to it. -/
namespace Go.Proofs.Ytfbjbajbjlcjfaa.Cn
open Go Go.RowKit Go.Proofs Go.Proofs.Ytfbjbajbjlcjfaa.Vn Go.Proofs.Ytfbjbajbjlcjfaa.Kit Go.Proofs.Ytfbjbajbjlcjfaa.PCanonStates Go.Proofs.YtfbjbajbjlcjfaaW.PrintWords
set_option linter.unusedSimpArgs false
set_option linter.unusedVariables false

set_option maxHeartbeats 4000000 in
theorem idx_near (q : Nat) (A : Option Addr) (c : Nat) (ds : List S36) (r : Int) (w : World) (p : S36 → Prop) [∀ a, Decidable (p a)] (hx : k36.C w A ds.length ds) (h : Fst p z36 ds r)
    (hf : ∀ (x : S36) (w' : World), Below w.heap.size w w' → Calls Try.prog 53 #[.agg #[.int .i64 x.f0, .int .i64 x.f1], .pointer (some ⟨q, 0, none⟩)] w' (BeP (.bool (!decide (p x))) w')) :
    Calls Try.prog 67 #[.slice A ds.length c, .func (.func 53) #[] #[.pointer (some ⟨q, 0, none⟩)]] w (BeP (.int .i64 r) w) := by
  have lx : ds.length ≤ 9223372036854775807 := hx.2.1
  have HX := Lib.hid hx
  have H := Lib.hid h
  have HF := Lib.hid hf
  clear hx h hf
  go_enter Try.func67, Try.ntmps67
  go_wp2
  go_loopw [8] (fun i wr => ∃ k : Nat, k ≤ ds.length ∧ i = .int .i64 k ∧ (∀ j, j < k → p (ds.getD j z36)) ∧ Below w.heap.size w wr) (fun i _ => (ds.length : Int).toNat - (intOf i).toNat)
  case atStart => exact ⟨0, by omega, rfl, fun j hj => by omega, Below.refl _ _⟩
  case round =>
    obtain ⟨k, hk, rfl, hall, hB⟩ := hrel
    have HA := Lib.hid hall
    have KB := Lib.hid hB
    clear hall hB
    by_cases hlt : k < ds.length
    · obtain ⟨ad, eA, q0, q1⟩ := at_T36 (Kd.C_below HX.out KB.out) (k : Int) (by omega) (by omega)
      subst eA
      have hrd : rd_T36 ds (k : Int) = ds.getD k z36 := by unfold rd_T36; rw [Int.toNat_natCast]
      rw [hrd, Int.toNat_natCast] at q0 q1
      have hfa := fun (q : ¬ p (ds.getD k z36)) => fst_at H.out hlt q HA.out
      have FA := Lib.hid hfa
      clear hfa
      generalize hx : ds.getD k z36 = x at *
      have X := Lib.hid hx
      clear hx hrd
      by_cases hq : p x
      · have hd : (!decide (p x)) = false := by rw [decide_eq_true hq]; rfl
        have IV := HF.out x _ KB.out
        rw [hd] at IV
        have IV := Lib.hid IV
        have HQ := Lib.hid hq
        clear hq hd
        go_wp2_with (go_at_call 53; refine IV.out.mono ?_; rintro en w1 ⟨rfl, hb⟩; have KB := Lib.hid (below_step KB.out hb); clear hb)
        go_roundw
        case rel => exact ⟨k + 1, by omega, by go_num, fun j hj => by
          rcases Nat.lt_or_ge j k with q | q
          · exact HA.out j q
          · obtain rfl : j = k := by omega
            rw [X.out]; exact HQ.out, KB.out⟩
        case measure => simp [intOf]; omega
      · have hd : (!decide (p x)) = true := by rw [decide_eq_false hq]; rfl
        have IV := HF.out x _ KB.out
        rw [hd] at IV
        have IV := Lib.hid IV
        have hr := FA.out hq
        subst hr
        clear hq hd
        go_wp2_with (go_at_call 53; refine IV.out.mono ?_; rintro en w1 ⟨rfl, hb⟩; have KB := Lib.hid (below_step KB.out hb); clear hb)
        go_ret
        exact ⟨rfl, KB.out⟩
    · obtain rfl : k = ds.length := by omega
      have hr := fst_end H.out HA.out
      subst hr
      go_wp2
      go_ret
      exact ⟨rfl, KB.out⟩
set_option maxHeartbeats 4000000 in
theorem idx_cinv (A : Option Addr) (c : Nat) (ds : List S36) (r : Int) (w : World) (p : S36 → Prop) [∀ a, Decidable (p a)] (hx : k36.C w A ds.length ds) (h : Fst p z36 ds r)
    (hf : ∀ (x : S36) (w' : World), Below w.heap.size w w' → Calls Try.prog 75 #[.agg #[.int .i64 x.f0, .int .i64 x.f1]] w' (BeP (.bool (!decide (p x))) w')) :
    Calls Try.prog 67 #[.slice A ds.length c, .func (.func 75) #[] #[]] w (BeP (.int .i64 r) w) := by
  have lx : ds.length ≤ 9223372036854775807 := hx.2.1
  have HX := Lib.hid hx
  have H := Lib.hid h
  have HF := Lib.hid hf
  clear hx h hf
  go_enter Try.func67, Try.ntmps67
  go_wp2
  go_loopw [8] (fun i wr => ∃ k : Nat, k ≤ ds.length ∧ i = .int .i64 k ∧ (∀ j, j < k → p (ds.getD j z36)) ∧ Below w.heap.size w wr) (fun i _ => (ds.length : Int).toNat - (intOf i).toNat)
  case atStart => exact ⟨0, by omega, rfl, fun j hj => by omega, Below.refl _ _⟩
  case round =>
    obtain ⟨k, hk, rfl, hall, hB⟩ := hrel
    have HA := Lib.hid hall
    have KB := Lib.hid hB
    clear hall hB
    by_cases hlt : k < ds.length
    · obtain ⟨ad, eA, q0, q1⟩ := at_T36 (Kd.C_below HX.out KB.out) (k : Int) (by omega) (by omega)
      subst eA
      have hrd : rd_T36 ds (k : Int) = ds.getD k z36 := by unfold rd_T36; rw [Int.toNat_natCast]
      rw [hrd, Int.toNat_natCast] at q0 q1
      have hfa := fun (q : ¬ p (ds.getD k z36)) => fst_at H.out hlt q HA.out
      have FA := Lib.hid hfa
      clear hfa
      generalize hx : ds.getD k z36 = x at *
      have X := Lib.hid hx
      clear hx hrd
      by_cases hq : p x
      · have hd : (!decide (p x)) = false := by rw [decide_eq_true hq]; rfl
        have IV := HF.out x _ KB.out
        rw [hd] at IV
        have IV := Lib.hid IV
        have HQ := Lib.hid hq
        clear hq hd
        go_wp2_with (go_at_call 75; refine IV.out.mono ?_; rintro en w1 ⟨rfl, hb⟩; have KB := Lib.hid (below_step KB.out hb); clear hb)
        go_roundw
        case rel => exact ⟨k + 1, by omega, by go_num, fun j hj => by
          rcases Nat.lt_or_ge j k with q | q
          · exact HA.out j q
          · obtain rfl : j = k := by omega
            rw [X.out]; exact HQ.out, KB.out⟩
        case measure => simp [intOf]; omega
      · have hd : (!decide (p x)) = true := by rw [decide_eq_false hq]; rfl
        have IV := HF.out x _ KB.out
        rw [hd] at IV
        have IV := Lib.hid IV
        have hr := FA.out hq
        subst hr
        clear hq hd
        go_wp2_with (go_at_call 75; refine IV.out.mono ?_; rintro en w1 ⟨rfl, hb⟩; have KB := Lib.hid (below_step KB.out hb); clear hb)
        go_ret
        exact ⟨rfl, KB.out⟩
    · obtain rfl : k = ds.length := by omega
      have hr := fst_end H.out HA.out
      subst hr
      go_wp2
      go_ret
      exact ⟨rfl, KB.out⟩
set_option maxHeartbeats 4000000 in
theorem idx_get (q : Nat) (A : Option Addr) (c : Nat) (ds : List S36) (r : Int) (w : World) (p : S36 → Prop) [∀ a, Decidable (p a)] (hx : k36.C w A ds.length ds) (h : Fst p z36 ds r)
    (hf : ∀ (x : S36) (w' : World), Below w.heap.size w w' → Calls Try.prog 64 #[.agg #[.int .i64 x.f0, .int .i64 x.f1], .pointer (some ⟨q, 0, none⟩)] w' (BeP (.bool (!decide (p x))) w')) :
    Calls Try.prog 63 #[.slice A ds.length c, .func (.func 64) #[] #[.pointer (some ⟨q, 0, none⟩)]] w (BeP (.int .i64 r) w) := by
  have lx : ds.length ≤ 9223372036854775807 := hx.2.1
  have HX := Lib.hid hx
  have H := Lib.hid h
  have HF := Lib.hid hf
  clear hx h hf
  go_enter Try.func63, Try.ntmps63
  go_wp2
  go_loopw [8] (fun i wr => ∃ k : Nat, k ≤ ds.length ∧ i = .int .i64 k ∧ (∀ j, j < k → p (ds.getD j z36)) ∧ Below w.heap.size w wr) (fun i _ => (ds.length : Int).toNat - (intOf i).toNat)
  case atStart => exact ⟨0, by omega, rfl, fun j hj => by omega, Below.refl _ _⟩
  case round =>
    obtain ⟨k, hk, rfl, hall, hB⟩ := hrel
    have HA := Lib.hid hall
    have KB := Lib.hid hB
    clear hall hB
    by_cases hlt : k < ds.length
    · obtain ⟨ad, eA, q0, q1⟩ := at_T36 (Kd.C_below HX.out KB.out) (k : Int) (by omega) (by omega)
      subst eA
      have hrd : rd_T36 ds (k : Int) = ds.getD k z36 := by unfold rd_T36; rw [Int.toNat_natCast]
      rw [hrd, Int.toNat_natCast] at q0 q1
      have hfa := fun (q : ¬ p (ds.getD k z36)) => fst_at H.out hlt q HA.out
      have FA := Lib.hid hfa
      clear hfa
      generalize hx : ds.getD k z36 = x at *
      have X := Lib.hid hx
      clear hx hrd
      by_cases hq : p x
      · have hd : (!decide (p x)) = false := by rw [decide_eq_true hq]; rfl
        have IV := HF.out x _ KB.out
        rw [hd] at IV
        have IV := Lib.hid IV
        have HQ := Lib.hid hq
        clear hq hd
        go_wp2_with (go_at_call 64; refine IV.out.mono ?_; rintro en w1 ⟨rfl, hb⟩; have KB := Lib.hid (below_step KB.out hb); clear hb)
        go_roundw
        case rel => exact ⟨k + 1, by omega, by go_num, fun j hj => by
          rcases Nat.lt_or_ge j k with q | q
          · exact HA.out j q
          · obtain rfl : j = k := by omega
            rw [X.out]; exact HQ.out, KB.out⟩
        case measure => simp [intOf]; omega
      · have hd : (!decide (p x)) = true := by rw [decide_eq_false hq]; rfl
        have IV := HF.out x _ KB.out
        rw [hd] at IV
        have IV := Lib.hid IV
        have hr := FA.out hq
        subst hr
        clear hq hd
        go_wp2_with (go_at_call 64; refine IV.out.mono ?_; rintro en w1 ⟨rfl, hb⟩; have KB := Lib.hid (below_step KB.out hb); clear hb)
        go_ret
        exact ⟨rfl, KB.out⟩
    · obtain rfl : k = ds.length := by omega
      have hr := fst_end H.out HA.out
      subst hr
      go_wp2
      go_ret
      exact ⟨rfl, KB.out⟩
set_option maxHeartbeats 4000000 in
theorem idx_vinv (A : Option Addr) (c : Nat) (ds : List S36) (r : Int) (w : World) (p : S36 → Prop) [∀ a, Decidable (p a)] (hx : k36.C w A ds.length ds) (h : Fst p z36 ds r)
    (hf : ∀ (x : S36) (w' : World), Below w.heap.size w w' → Calls Try.prog 74 #[.agg #[.int .i64 x.f0, .int .i64 x.f1]] w' (BeP (.bool (!decide (p x))) w')) :
    Calls Try.prog 63 #[.slice A ds.length c, .func (.func 74) #[] #[]] w (BeP (.int .i64 r) w) := by
  have lx : ds.length ≤ 9223372036854775807 := hx.2.1
  have HX := Lib.hid hx
  have H := Lib.hid h
  have HF := Lib.hid hf
  clear hx h hf
  go_enter Try.func63, Try.ntmps63
  go_wp2
  go_loopw [8] (fun i wr => ∃ k : Nat, k ≤ ds.length ∧ i = .int .i64 k ∧ (∀ j, j < k → p (ds.getD j z36)) ∧ Below w.heap.size w wr) (fun i _ => (ds.length : Int).toNat - (intOf i).toNat)
  case atStart => exact ⟨0, by omega, rfl, fun j hj => by omega, Below.refl _ _⟩
  case round =>
    obtain ⟨k, hk, rfl, hall, hB⟩ := hrel
    have HA := Lib.hid hall
    have KB := Lib.hid hB
    clear hall hB
    by_cases hlt : k < ds.length
    · obtain ⟨ad, eA, q0, q1⟩ := at_T36 (Kd.C_below HX.out KB.out) (k : Int) (by omega) (by omega)
      subst eA
      have hrd : rd_T36 ds (k : Int) = ds.getD k z36 := by unfold rd_T36; rw [Int.toNat_natCast]
      rw [hrd, Int.toNat_natCast] at q0 q1
      have hfa := fun (q : ¬ p (ds.getD k z36)) => fst_at H.out hlt q HA.out
      have FA := Lib.hid hfa
      clear hfa
      generalize hx : ds.getD k z36 = x at *
      have X := Lib.hid hx
      clear hx hrd
      by_cases hq : p x
      · have hd : (!decide (p x)) = false := by rw [decide_eq_true hq]; rfl
        have IV := HF.out x _ KB.out
        rw [hd] at IV
        have IV := Lib.hid IV
        have HQ := Lib.hid hq
        clear hq hd
        go_wp2_with (go_at_call 74; refine IV.out.mono ?_; rintro en w1 ⟨rfl, hb⟩; have KB := Lib.hid (below_step KB.out hb); clear hb)
        go_roundw
        case rel => exact ⟨k + 1, by omega, by go_num, fun j hj => by
          rcases Nat.lt_or_ge j k with q | q
          · exact HA.out j q
          · obtain rfl : j = k := by omega
            rw [X.out]; exact HQ.out, KB.out⟩
        case measure => simp [intOf]; omega
      · have hd : (!decide (p x)) = true := by rw [decide_eq_false hq]; rfl
        have IV := HF.out x _ KB.out
        rw [hd] at IV
        have IV := Lib.hid IV
        have hr := FA.out hq
        subst hr
        clear hq hd
        go_wp2_with (go_at_call 74; refine IV.out.mono ?_; rintro en w1 ⟨rfl, hb⟩; have KB := Lib.hid (below_step KB.out hb); clear hb)
        go_ret
        exact ⟨rfl, KB.out⟩
    · obtain rfl : k = ds.length := by omega
      have hr := fst_end H.out HA.out
      subst hr
      go_wp2
      go_ret
      exact ⟨rfl, KB.out⟩
end Go.Proofs.Ytfbjbajbjlcjfaa.Cn

/- Layer 17, walks: ContainsFunc over dots; vector.Valid; vector.Get; context.Valid. -/
namespace Go.Proofs.Ytfbjbajbjlcjfaa.Cn
open Go Go.RowKit Go.Proofs Go.Proofs.Ytfbjbajbjlcjfaa.Vn Go.Proofs.Ytfbjbajbjlcjfaa.Kit Go.Proofs.Ytfbjbajbjlcjfaa.PCanonStates Go.Proofs.YtfbjbajbjlcjfaaW.PrintWords
set_option linter.unusedSimpArgs false
set_option linter.unusedVariables false

theorem con_near (q : Nat) (A : Option Addr) (c : Nat) (ds : List S36) (b : Bool) (w : World) (p : S36 → Prop) [∀ a, Decidable (p a)] (hx : k36.C w A ds.length ds) (h : b = true ↔ ¬ ∀ x ∈ ds, p x)
    (hf : ∀ (x : S36) (w' : World), Below w.heap.size w w' → Calls Try.prog 53 #[.agg #[.int .i64 x.f0, .int .i64 x.f1], .pointer (some ⟨q, 0, none⟩)] w' (BeP (.bool (!decide (p x))) w')) :
    Calls Try.prog 56 #[.slice A ds.length c, .func (.func 53) #[] #[.pointer (some ⟨q, 0, none⟩)]] w (BeP (.bool b) w) := by
  obtain ⟨r, hr⟩ := fst_total p z36 ds
  have hb : b = decide (0 ≤ r) := by
    rcases hr with ⟨e, rfl, h1, h2, h3⟩ | ⟨rfl, h2⟩
    · rw [decide_eq_true (by omega)]
      refine h.2 fun q => h2 ?_
      rw [List.getD_eq_getElem?_getD, List.getElem?_eq_getElem h1]
      exact q _ (List.getElem_mem h1)
    · rw [decide_eq_false (by omega)]
      refine Bool.eq_false_iff.2 fun q => h.1 q fun x hx => ?_
      obtain ⟨j, hj, rfl⟩ := List.getElem_of_mem hx
      have := h2 j hj
      rwa [List.getD_eq_getElem?_getD, List.getElem?_eq_getElem hj] at this
  have IX := Lib.hid (idx_near q  A c ds r w p hx hr hf)
  clear hx hr h hf
  subst hb
  go_enter Try.func56, Try.ntmps56
  go_wp2_with (go_at_call 67; refine IX.out.mono ?_; rintro en w1 ⟨rfl, hb⟩; have KB := Lib.hid hb; clear hb)
  go_ret
  exact ⟨rfl, KB.out⟩
theorem con_cinv (A : Option Addr) (c : Nat) (ds : List S36) (b : Bool) (w : World) (p : S36 → Prop) [∀ a, Decidable (p a)] (hx : k36.C w A ds.length ds) (h : b = true ↔ ¬ ∀ x ∈ ds, p x)
    (hf : ∀ (x : S36) (w' : World), Below w.heap.size w w' → Calls Try.prog 75 #[.agg #[.int .i64 x.f0, .int .i64 x.f1]] w' (BeP (.bool (!decide (p x))) w')) :
    Calls Try.prog 56 #[.slice A ds.length c, .func (.func 75) #[] #[]] w (BeP (.bool b) w) := by
  obtain ⟨r, hr⟩ := fst_total p z36 ds
  have hb : b = decide (0 ≤ r) := by
    rcases hr with ⟨e, rfl, h1, h2, h3⟩ | ⟨rfl, h2⟩
    · rw [decide_eq_true (by omega)]
      refine h.2 fun q => h2 ?_
      rw [List.getD_eq_getElem?_getD, List.getElem?_eq_getElem h1]
      exact q _ (List.getElem_mem h1)
    · rw [decide_eq_false (by omega)]
      refine Bool.eq_false_iff.2 fun q => h.1 q fun x hx => ?_
      obtain ⟨j, hj, rfl⟩ := List.getElem_of_mem hx
      have := h2 j hj
      rwa [List.getD_eq_getElem?_getD, List.getElem?_eq_getElem hj] at this
  have IX := Lib.hid (idx_cinv  A c ds r w p hx hr hf)
  clear hx hr h hf
  subst hb
  go_enter Try.func56, Try.ntmps56
  go_wp2_with (go_at_call 67; refine IX.out.mono ?_; rintro en w1 ⟨rfl, hb⟩; have KB := Lib.hid hb; clear hb)
  go_ret
  exact ⟨rfl, KB.out⟩
theorem con_vinv (A : Option Addr) (c : Nat) (ds : List S36) (b : Bool) (w : World) (p : S36 → Prop) [∀ a, Decidable (p a)] (hx : k36.C w A ds.length ds) (h : b = true ↔ ¬ ∀ x ∈ ds, p x)
    (hf : ∀ (x : S36) (w' : World), Below w.heap.size w w' → Calls Try.prog 74 #[.agg #[.int .i64 x.f0, .int .i64 x.f1]] w' (BeP (.bool (!decide (p x))) w')) :
    Calls Try.prog 73 #[.slice A ds.length c, .func (.func 74) #[] #[]] w (BeP (.bool b) w) := by
  obtain ⟨r, hr⟩ := fst_total p z36 ds
  have hb : b = decide (0 ≤ r) := by
    rcases hr with ⟨e, rfl, h1, h2, h3⟩ | ⟨rfl, h2⟩
    · rw [decide_eq_true (by omega)]
      refine h.2 fun q => h2 ?_
      rw [List.getD_eq_getElem?_getD, List.getElem?_eq_getElem h1]
      exact q _ (List.getElem_mem h1)
    · rw [decide_eq_false (by omega)]
      refine Bool.eq_false_iff.2 fun q => h.1 q fun x hx => ?_
      obtain ⟨j, hj, rfl⟩ := List.getElem_of_mem hx
      have := h2 j hj
      rwa [List.getD_eq_getElem?_getD, List.getElem?_eq_getElem hj] at this
  have IX := Lib.hid (idx_vinv  A c ds r w p hx hr hf)
  clear hx hr h hf
  subst hb
  go_enter Try.func73, Try.ntmps73
  go_wp2_with (go_at_call 63; refine IX.out.mono ?_; rintro en w1 ⟨rfl, hb⟩; have KB := Lib.hid hb; clear hb)
  go_ret
  exact ⟨rfl, KB.out⟩

theorem dvalid_any (x : S36) (w : World) : Calls Try.prog 68 #[.agg #[.int .i64 x.f0, .int .i64 x.f1]] w (BeP (.bool (decide (okDot x.f0 x.f1))) w) := by
  refine (dot_Valid.calls x.f0 x.f1 _ w (dot_f x.f0 x.f1)).mono ?_
  rintro en w' ⟨rfl, hb⟩
  exact ⟨rfl, hb⟩
theorem vinv_any (x : S36) (w : World) : Calls Try.prog 74 #[.agg #[.int .i64 x.f0, .int .i64 x.f1]] w (BeP (.bool (!decide (okDot x.f0 x.f1))) w) := by
  refine (vector_invalid.calls x.f0 x.f1 _ w (by unfold vector_invalid.f; rw [dot_f]; rfl)).mono ?_
  rintro en w' ⟨rfl, hb⟩
  exact ⟨rfl, hb⟩
theorem cinv_any (x : S36) (w : World) : Calls Try.prog 75 #[.agg #[.int .i64 x.f0, .int .i64 x.f1]] w (BeP (.bool (!decide (okDot x.f0 x.f1))) w) := by
  have DV := Lib.hid (dvalid_any x)
  generalize decide (okDot x.f0 x.f1) = b at *
  obtain ⟨r, c⟩ := x
  go_enter Try.func75, Try.ntmps75
  go_wp2_with (go_at_call 68; refine (DV.out _).mono ?_; rintro en w1 ⟨rfl, hb⟩; have KB := Lib.hid (below_step (below_alloc (Below.refl w.heap.size w) _) hb); clear hb)
  go_ret
  exact ⟨rfl, KB.out⟩
theorem cvalid_any (A : Option Addr) (c : Nat) (ds : List S36) (b : Bool) (w : World) (hx : k36.C w A ds.length ds) (h : b = true ↔ ∀ x ∈ ds, okDot x.f0 x.f1) : Calls Try.prog 66 #[.slice A ds.length c] w (BeP (.bool b) w) := by
  have CC := Lib.hid (con_cinv A c ds (!b) w (fun x => okDot x.f0 x.f1) hx (by cases b <;> simp_all) (fun x w' _ => cinv_any x w'))
  clear hx h
  go_enter Try.func66, Try.ntmps66
  go_wp2_with (go_at_call 56; refine CC.out.mono ?_; rintro en w1 ⟨rfl, hb⟩; have KB := Lib.hid hb; clear hb)
  go_ret
  exact ⟨by simp, KB.out⟩
theorem getl_any (q : Nat) (rep : Int) (T : TypeId) (x : S36) (w : World) (hb : w.heap[q]? = some (.cells #[.int .i64 rep] T (0, 0))) : Calls Try.prog 64 #[.agg #[.int .i64 x.f0, .int .i64 x.f1], .pointer (some ⟨q, 0, none⟩)] w (BeP (.bool (!decide (x.f0 ≠ rep))) w) := by
  have p0 := (blk_cell hb 0).trans rfl
  have he : (x.f0 == rep) = (!decide (x.f0 ≠ rep)) := by by_cases q : x.f0 = rep <;> simp [q]
  rw [← he]
  obtain ⟨r, c⟩ := x
  have hb' := blk_below hb (below_alloc (Below.refl w.heap.size w) (.cells #[.int .i64 r, .int .i64 c] 36))
  have p1 := (blk_cell hb' 0).trans rfl
  clear hb hb' he
  go_enter Try.func64, Try.ntmps64
  go_wp2
  go_ret
  exact ⟨rfl, below_alloc (Below.refl _ _) _⟩
end Go.Proofs.Ytfbjbajbjlcjfaa.Cn

/- Layer 17, walks: vector.Get, vector.Valid, context.Valid. -/
namespace Go.Proofs.Ytfbjbajbjlcjfaa.Cn
open Go Go.RowKit Go.Proofs Go.Proofs.Ytfbjbajbjlcjfaa.Vn Go.Proofs.Ytfbjbajbjlcjfaa.Kit Go.Proofs.Ytfbjbajbjlcjfaa.PCanonStates Go.Proofs.YtfbjbajbjlcjfaaW.PrintWords
set_option linter.unusedSimpArgs false
set_option linter.unusedVariables false

theorem cell_below {w w1 : World} {a : Addr} {u : Value} (h : w.cell? a = some u) (hb : Below w.heap.size w w1) : w1.cell? a = some u := by
  have hlt := World.block_lt_of_cell? w _ h
  rw [← h]
  unfold World.cell?
  rw [hb.block _ hlt]
/-- The counter of a replica in a vector, 0 if there is none. -/
def getV : List S36 → Int → Int
  | [], _ => 0
  | x :: xs, r => if x.f0 = r then x.f1 else getV xs r
theorem getV_none : ∀ (ds : List S36) (rep : Int), (∀ x ∈ ds, x.f0 ≠ rep) → getV ds rep = 0
  | [], _, _ => rfl
  | x :: xs, rep, h => by
    unfold getV
    rw [if_neg (h x List.mem_cons_self)]
    exact getV_none xs rep (fun y hy => h y (List.mem_cons_of_mem _ hy))
theorem getV_at : ∀ (ds : List S36) (rep : Int) (e : Nat), e < ds.length → (ds.getD e z36).f0 = rep → (∀ j, j < e → (ds.getD j z36).f0 ≠ rep) → getV ds rep = (ds.getD e z36).f1
  | [], _, _, h, _, _ => by simp at h
  | x :: xs, rep, 0, _, h, _ => by
    unfold getV
    rw [List.getD_cons_zero] at h ⊢
    rw [if_pos h]
  | x :: xs, rep, e + 1, hl, h, hall => by
    have h0 := hall 0 (by omega)
    rw [List.getD_cons_zero] at h0
    unfold getV
    rw [if_neg h0, List.getD_cons_succ]
    rw [List.getD_cons_succ] at h
    exact getV_at xs rep e (by simpa using hl) h (fun j hj => by have := hall (j + 1) (by omega); rwa [List.getD_cons_succ] at this)
set_option maxHeartbeats 4000000 in
theorem get_any (A : Option Addr) (c : Nat) (ds : List S36) (rep : Int) (w : World) (hx : k36.C w A ds.length ds) : Calls Try.prog 54 #[.slice A ds.length c, .int .i64 rep] w (BeP (.int .i64 (getV ds rep)) w) := by
  obtain ⟨r, hr⟩ := fst_total (fun x : S36 => x.f0 ≠ rep) z36 ds
  have HX := Lib.hid hx
  have IX := Lib.hid (fun (q : Nat) (w : World) (hx : k36.C w A ds.length ds) (hb : w.heap[q]? = some (.cells #[.int .i64 rep] 3 (0, 0))) => idx_get q A c ds r w (fun x => x.f0 ≠ rep) hx hr (fun x w' hw => getl_any q rep 3 x w' (blk_below hb hw)))
  have BOXT : True := trivial
  rcases hr with ⟨e, rfl, h1, h2, h3⟩ | ⟨rfl, h2⟩
  · have hg := getV_at ds rep e h1 (Decidable.not_not.1 h2) h3
    have hl9 : ds.length ≤ 9223372036854775807 := hx.2.1
    have hd : decide ((e : Int) < 0) = false := decide_eq_false (by omega)
    have he0 : (0 : Int) ≤ (e : Int) := by omega
    have he1 : (e : Int) < (ds.length : Int) := by omega
    rw [hg]
    obtain ⟨ad, eA, q0, q1⟩ := at_T36 hx (e : Int) (by omega) (by omega)
    subst eA
    have hrd : rd_T36 ds (e : Int) = ds.getD e z36 := by unfold rd_T36; rw [Int.toNat_natCast]
    rw [hrd, Int.toNat_natCast] at q1
    have Q1 := Lib.hid q1
    clear hx h1 h2 h3 hg q0 q1 hrd BOXT
    go_enter Try.func54, Try.ntmps54
    go_wp2_with (first | ((with_reducible refine gate_dst (N := 3) rfl ?_); refine box_event rfl (N := 3) rfl (cs := #[.int .i64 rep]) (t := 3) ?hr ?_; (case hr => first | (go_simp; done) | (go_simp; rfl)); intro g3 hg3 w1 hbox hb; have HBX := Lib.hid hbox; have KB := Lib.hid hb; clear hb hbox hg3) | (go_at_call 63; refine (IX.out _ _ (Kd.C_below HX.out KB.out) HBX.out).mono ?_; rintro en w2 ⟨rfl, hb⟩; have KB := Lib.hid (below_step KB.out hb); have q1 := cell_below Q1.out KB.out; clear hb))
    go_ret
    exact ⟨rfl, KB.out⟩
  · have hg := getV_none ds rep (fun x hx => by
      obtain ⟨j, hj, rfl⟩ := List.getElem_of_mem hx
      have := h2 j hj
      rwa [List.getD_eq_getElem?_getD, List.getElem?_eq_getElem hj] at this)
    rw [hg]
    clear hx h2 hg BOXT
    go_enter Try.func54, Try.ntmps54
    go_wp2_with (first | ((with_reducible refine gate_dst (N := 3) rfl ?_); refine box_event rfl (N := 3) rfl (cs := #[.int .i64 rep]) (t := 3) ?hr ?_; (case hr => first | (go_simp; done) | (go_simp; rfl)); intro g3 hg3 w1 hbox hb; have HBX := Lib.hid hbox; have KB := Lib.hid hb; clear hb hbox hg3) | (go_at_call 63; refine (IX.out _ _ (Kd.C_below HX.out KB.out) HBX.out).mono ?_; rintro en w2 ⟨rfl, hb⟩; have KB := Lib.hid (below_step KB.out hb); clear hb))
    go_ret
    exact ⟨rfl, KB.out⟩
/-- A valid vector. -/
def VecOk (ds : List S36) : Prop := (∀ j, j + 1 < ds.length → (ds.getD j z36).f0 < (ds.getD (j + 1) z36).f0) ∧ ∀ x ∈ ds, okDot x.f0 x.f1
set_option maxHeartbeats 4000000 in
theorem vvalid_any (A : Option Addr) (c : Nat) (ds : List S36) (b : Bool) (w : World) (hx : k36.C w A ds.length ds) (hl : ds.length ≤ 10000000) (h : b = true ↔ VecOk ds) : Calls Try.prog 65 #[.slice A ds.length c] w (BeP (.bool b) w) := by
  have lx : ds.length ≤ 9223372036854775807 := hx.2.1
  have hli : (ds.length : Int) ≤ 10000000 := by omega
  have HX := Lib.hid hx
  have H := Lib.hid h
  clear hx h hl
  go_enter Try.func65, Try.ntmps65
  go_wp2
  go_loopw [3] (fun i wr => ∃ m : Nat, i = .int .i64 ((m : Int) + 1) ∧ (m = 0 ∨ m + 1 ≤ ds.length) ∧ (∀ j, j < m → j + 1 < ds.length → (ds.getD j z36).f0 < (ds.getD (j + 1) z36).f0) ∧ Below w.heap.size w wr) (fun i _ => (ds.length : Int).toNat + 1 - (intOf i).toNat)
  case atStart => exact ⟨0, rfl, .inl rfl, fun j hj => by omega, Below.refl _ _⟩
  case round =>
    obtain ⟨m, rfl, hm, hall, hB⟩ := hrel
    have HA := Lib.hid hall
    have KB := Lib.hid hB
    clear hall hB
    by_cases hlt : m + 1 < ds.length
    · obtain ⟨ad, eA, q0, q1⟩ := at_T36 (Kd.C_below HX.out (below_drew KB.out)) (m : Int) (by omega) (by omega)
      obtain ⟨ad2, eA2, r0, r1⟩ := at_T36 (Kd.C_below HX.out (below_drew KB.out)) (((m + 1 : Nat)) : Int) (by omega) (by omega)
      subst eA
      injection eA2 with eA2
      subst eA2
      have hrd : rd_T36 ds (m : Int) = ds.getD m z36 := by unfold rd_T36; rw [Int.toNat_natCast]
      have hrd2 : rd_T36 ds ((m + 1 : Nat) : Int) = ds.getD (m + 1) z36 := by unfold rd_T36; rw [Int.toNat_natCast]
      rw [hrd, Int.toNat_natCast] at q0 q1
      rw [hrd2, Int.toNat_natCast] at r0 r1
      have hd1 : decide ((m : Int) + 1 < (ds.length : Int)) = true := decide_eq_true (by omega)
      have s1 : IntKind.i64.wrap ((m : Int) + 1 - 1) = (m : Int) := by rw [show (m : Int) + 1 - 1 = m by omega]; simp [IntKind.wrap, IntKind.bits, IntKind.signed]; omega
      have s2 : IntKind.i64.wrap (m : Int) = (m : Int) := by simp [IntKind.wrap, IntKind.bits, IntKind.signed]; omega
      have b5 : m < ds.length := by omega
      have b0 : (0 : Int) ≤ (m : Int) := by omega
      have b1 : (m : Int) < (ds.length : Int) := by omega
      have b2 : (0 : Int) ≤ (m : Int) + 1 := by omega
      have b3 : (m : Int) + 1 < (ds.length : Int) := by omega
      have b4 : ((m : Int) + 1).toNat = m + 1 := by omega
      have KD := Lib.hid (below_drew KB.out)
      have hno : ¬ (ds.getD m z36).f0 < (ds.getD (m + 1) z36).f0 → b = false := fun q => Bool.eq_false_iff.2 fun hb => q ((H.out.1 hb).1 m hlt)
      have NO := Lib.hid hno
      clear hno
      by_cases hq : (ds.getD m z36).f0 < (ds.getD (m + 1) z36).f0
      · have hd : decide ((ds.getD (m + 1) z36).f0 ≤ (ds.getD m z36).f0) = false := decide_eq_false (by omega)
        have HA2 := Lib.hid (show ∀ j, j < m + 1 → j + 1 < ds.length → (ds.getD j z36).f0 < (ds.getD (j + 1) z36).f0 from fun j hj hj2 => by
          rcases Nat.lt_or_ge j m with q | q
          · exact HA.out j q hj2
          · obtain rfl : j = m := by omega
            exact hq)
        clear hq hrd hrd2
        generalize ds.getD m z36 = x at *
        generalize ds.getD (m + 1) z36 = y at *
        go_wp2
        go_region_held3 (fun w' => w'.cell? (ad.add (m * 2)) = some (.int .i64 x.f0) ∧ w'.cell? (ad.add ((m + 1) * 2)) = some (.int .i64 y.f0)) (refine ⟨?_, ?_⟩ <;> assumption) (fail)
        go_wp2
        go_roundw
        case rel => exact ⟨m + 1, by go_num, .inr (by omega), HA2.out, KD.out⟩
        case measure => simp [intOf]; omega
      · have hd : decide ((ds.getD (m + 1) z36).f0 ≤ (ds.getD m z36).f0) = true := decide_eq_true (by omega)
        have hb := NO.out hq
        subst hb
        clear hq hrd hrd2
        generalize ds.getD m z36 = x at *
        generalize ds.getD (m + 1) z36 = y at *
        go_wp2
        go_region_held3 (fun w' => w'.cell? (ad.add (m * 2)) = some (.int .i64 x.f0) ∧ w'.cell? (ad.add ((m + 1) * 2)) = some (.int .i64 y.f0)) (refine ⟨?_, ?_⟩ <;> assumption) (fail)
        go_wp2
        go_ret
        exact ⟨rfl, KD.out⟩
    · have hall : ∀ j, j + 1 < ds.length → (ds.getD j z36).f0 < (ds.getD (j + 1) z36).f0 := fun j hj => HA.out j (by omega) hj
      have hd1 : decide ((m : Int) + 1 < (ds.length : Int)) = false := decide_eq_false (by omega)
      have hd2 : decide (m + 1 < ds.length) = false := decide_eq_false hlt
      have CV := Lib.hid (fun w hx => con_vinv A c ds (!b) w (fun x => okDot x.f0 x.f1) hx (by
        have hh := H.out
        cases b with
        | true => exact ⟨fun q => absurd q (by simp), fun q => absurd (hh.1 rfl).2 q⟩
        | false => exact ⟨fun _ q => Bool.noConfusion (hh.2 ⟨hall, q⟩), fun _ => rfl⟩) (fun x w' _ => vinv_any x w'))
      clear hall
      go_wp2_with (go_at_call 73; refine (CV.out _ (Kd.C_below HX.out KB.out)).mono ?_; rintro en w2 ⟨rfl, hb⟩; have KB := Lib.hid (below_step KB.out hb); clear hb)
      go_ret
      exact ⟨by simp, KB.out⟩
/-- A valid context. -/
def CtxOk (vs cl : List S36) : Prop := VecOk vs ∧ Inc cl ∧ ∀ x ∈ cl, okDot x.f0 x.f1
set_option maxHeartbeats 4000000 in
theorem cxvalid_any (Av : Option Addr) (cv : Nat) (vs : List S36) (Ac : Option Addr) (cc : Nat) (cl : List S36) (b : Bool) (w : World) (hv : k36.C w Av vs.length vs) (hc : k36.C w Ac cl.length cl) (hcc : cl.length ≤ cc) (lv : vs.length ≤ 1000000) (lc : cl.length ≤ 1000000) (h : b = true ↔ CtxOk vs cl) :
    Calls Try.prog 55 #[.agg #[.slice Av vs.length cv, .slice Ac cl.length cc]] w (BeP (.bool b) w) := by
  obtain ⟨b2, h1, h2⟩ := isset_f cl lc
  have HV := Lib.hid hv
  have HC := Lib.hid hc
  have HCC := Lib.hid hcc
  have H2 := Lib.hid h1
  by_cases q1 : VecOk vs
  · have VV := Lib.hid (fun w hx => vvalid_any Av cv vs true w hx (by omega) ⟨fun _ => q1, fun _ => rfl⟩)
    cases b2 with
    | true =>
      have CV := Lib.hid (fun w hx => cvalid_any Ac cc cl b w hx ⟨fun q => (h.1 q).2.2, fun q => h.2 ⟨q1, h2.1 rfl, q⟩⟩)
      clear hv hc hcc h1 h h2 q1
      go_enter Try.func55, Try.ntmps55
      go_wp2_with (first | ((with_reducible refine gate_dst (N := 1) rfl ?_); refine box_event rfl (N := 1) rfl (cs := #[.slice Av vs.length cv, .slice Ac cl.length cc]) (t := 43) ?hr ?_; (case hr => first | (go_simp; done) | (go_simp; rfl)); intro g1 hg1 w1 hbox hb; have HBX := Lib.hid hbox; have p0 := (blk_cell hbox 0).trans rfl; have p1 := (blk_cell hbox 1).trans rfl; have KB := Lib.hid hb; clear hb hbox hg1) | (go_at_call 65; refine (VV.out _ (Kd.C_below HV.out KB.out)).mono ?_; rintro en w2 ⟨rfl, hb⟩; have KB := Lib.hid (below_step KB.out hb); have hbx := blk_below HBX.out hb; have HBX := Lib.hid hbx; have p0 := (blk_cell hbx 0).trans rfl; have p1 := (blk_cell hbx 1).trans rfl; clear hb hbx) | (go_at_call 45; refine (dot_IsSet.calls _ Ac cc cl true _ (Kd.C_below HC.out KB.out) HCC.out H2.out).mono ?_; rintro en w3 ⟨rfl, hb⟩; have KB := Lib.hid (below_step KB.out hb); have hbx := blk_below HBX.out hb; have HBX := Lib.hid hbx; have p0 := (blk_cell hbx 0).trans rfl; have p1 := (blk_cell hbx 1).trans rfl; clear hb hbx) | (go_at_call 66; refine (CV.out _ (Kd.C_below HC.out KB.out)).mono ?_; rintro en w4 ⟨rfl, hb⟩; have KB := Lib.hid (below_step KB.out hb); have hbx := blk_below HBX.out hb; have HBX := Lib.hid hbx; have p0 := (blk_cell hbx 0).trans rfl; have p1 := (blk_cell hbx 1).trans rfl; clear hb hbx))
      go_ret
      exact ⟨rfl, KB.out⟩
    | false =>
      have hb : b = false := Bool.eq_false_iff.2 fun q => Bool.noConfusion (h2.2 (h.1 q).2.1)
      subst hb
      clear hv hc hcc h1 h h2 q1
      go_enter Try.func55, Try.ntmps55
      go_wp2_with (first | ((with_reducible refine gate_dst (N := 1) rfl ?_); refine box_event rfl (N := 1) rfl (cs := #[.slice Av vs.length cv, .slice Ac cl.length cc]) (t := 43) ?hr ?_; (case hr => first | (go_simp; done) | (go_simp; rfl)); intro g1 hg1 w1 hbox hb; have HBX := Lib.hid hbox; have p0 := (blk_cell hbox 0).trans rfl; have p1 := (blk_cell hbox 1).trans rfl; have KB := Lib.hid hb; clear hb hbox hg1) | (go_at_call 65; refine (VV.out _ (Kd.C_below HV.out KB.out)).mono ?_; rintro en w2 ⟨rfl, hb⟩; have KB := Lib.hid (below_step KB.out hb); have hbx := blk_below HBX.out hb; have HBX := Lib.hid hbx; have p0 := (blk_cell hbx 0).trans rfl; have p1 := (blk_cell hbx 1).trans rfl; clear hb hbx) | (go_at_call 45; refine (dot_IsSet.calls _ Ac cc cl false _ (Kd.C_below HC.out KB.out) HCC.out H2.out).mono ?_; rintro en w3 ⟨rfl, hb⟩; have KB := Lib.hid (below_step KB.out hb); have hbx := blk_below HBX.out hb; have HBX := Lib.hid hbx; have p0 := (blk_cell hbx 0).trans rfl; have p1 := (blk_cell hbx 1).trans rfl; clear hb hbx))
      go_ret
      exact ⟨rfl, KB.out⟩
  · have VV := Lib.hid (fun w hx => vvalid_any Av cv vs false w hx (by omega) ⟨fun q => Bool.noConfusion q, fun q => absurd q q1⟩)
    have hb : b = false := Bool.eq_false_iff.2 fun q => q1 (h.1 q).1
    subst hb
    clear hv hc hcc h1 h h2 q1
    go_enter Try.func55, Try.ntmps55
    go_wp2_with (first | ((with_reducible refine gate_dst (N := 1) rfl ?_); refine box_event rfl (N := 1) rfl (cs := #[.slice Av vs.length cv, .slice Ac cl.length cc]) (t := 43) ?hr ?_; (case hr => first | (go_simp; done) | (go_simp; rfl)); intro g1 hg1 w1 hbox hb; have HBX := Lib.hid hbox; have p0 := (blk_cell hbox 0).trans rfl; have p1 := (blk_cell hbox 1).trans rfl; have KB := Lib.hid hb; clear hb hbox hg1) | (go_at_call 65; refine (VV.out _ (Kd.C_below HV.out KB.out)).mono ?_; rintro en w2 ⟨rfl, hb⟩; have KB := Lib.hid (below_step KB.out hb); have hbx := blk_below HBX.out hb; have HBX := Lib.hid hbx; have p0 := (blk_cell hbx 0).trans rfl; have p1 := (blk_cell hbx 1).trans rfl; clear hb hbx))
    go_ret
    exact ⟨rfl, KB.out⟩
end Go.Proofs.Ytfbjbajbjlcjfaa.Cn

/- Layer 17, walks: context.IsCompact. -/
namespace Go.Proofs.Ytfbjbajbjlcjfaa.Cn
open Go Go.RowKit Go.Proofs Go.Proofs.Ytfbjbajbjlcjfaa.Vn Go.Proofs.Ytfbjbajbjlcjfaa.Kit Go.Proofs.Ytfbjbajbjlcjfaa.PCanonStates Go.Proofs.YtfbjbajbjlcjfaaW.PrintWords
set_option linter.unusedSimpArgs false
set_option linter.unusedVariables false

theorem getV_in {vs : List S36} (h : ∀ x ∈ vs, okDot x.f0 x.f1) (rep : Int) : 0 ≤ getV vs rep ∧ getV vs rep ≤ 4294967295 := by
  induction vs with
  | nil => exact ⟨Int.le_refl _, by show (0 : Int) ≤ 4294967295; decide⟩
  | cons x xs ih =>
    unfold getV
    split
    · have := h x List.mem_cons_self
      exact ⟨by have := this.2.2.1; omega, this.2.2.2⟩
    · exact ih (fun y hy => h y (List.mem_cons_of_mem _ hy))
set_option maxHeartbeats 4000000 in
theorem near_any (q : Nat) (Av : Option Addr) (cv : Nat) (vs : List S36) (S2 : Value) (x : S36) (w : World) (hb : w.heap[q]? = some (.cells #[.slice Av vs.length cv, S2] 43 (0, 0))) (hv : k36.C w Av vs.length vs) (hok : ∀ x ∈ vs, okDot x.f0 x.f1) :
    Calls Try.prog 53 #[.agg #[.int .i64 x.f0, .int .i64 x.f1], .pointer (some ⟨q, 0, none⟩)] w (BeP (.bool (!decide (¬ x.f1 ≤ getV vs x.f0 + 1))) w) := by
  have hgi := getV_in hok x.f0
  have he : decide (x.f1 ≤ getV vs x.f0 + 1) = (!decide (¬ x.f1 ≤ getV vs x.f0 + 1)) := by by_cases q : x.f1 ≤ getV vs x.f0 + 1 <;> simp [q]
  rw [← he]
  have GT := Lib.hid (fun w hx => get_any Av cv vs x.f0 w hx)
  generalize getV vs x.f0 = G at *
  obtain ⟨hg0, hg1⟩ := hgi
  have hw1 : IntKind.i64.wrap (G + 1) = G + 1 := by simp [IntKind.wrap, IntKind.bits, IntKind.signed]; omega
  obtain ⟨r, c⟩ := x
  have HV := Lib.hid hv
  have HBQ := Lib.hid hb
  clear hb hv hok he
  simp only at GT ⊢
  go_enter Try.func53, Try.ntmps53
  go_upto_region 1 with ((with_reducible refine gate_dst (N := 2) rfl ?_); refine box_event rfl (N := 2) rfl (cs := #[.int .i64 r, .int .i64 c]) (t := 36) ?hr ?_; (case hr => first | (go_simp; done) | (go_simp; rfl)); intro g2 hg2 w1 hbox hb; have HBX := Lib.hid hbox; have KB := Lib.hid hb; clear hb hbox hg2)
  have hd := below_drew (Below.refl w1.heap.size w1)
  have KD := Lib.hid (below_step KB.out hd)
  have bx := Lib.hid (blk_below HBX.out hd)
  have bq := Lib.hid (blk_below HBQ.out KD.out)
  have p0 := (blk_cell bx.out 0).trans rfl
  have p1 := (blk_cell bx.out 1).trans rfl
  have p2 := (blk_cell bq.out 0).trans rfl
  clear hd
  go_region_held3 (fun w' => w'.cell? ⟨g2, 0, none⟩ = some (.int .i64 r) ∧ w'.cell? ⟨g2, 1, none⟩ = some (.int .i64 c) ∧ w'.cell? ⟨q, 0, none⟩ = some (.slice Av vs.length cv)) (refine ⟨?_, ?_, ?_⟩ <;> assumption) (first | (go_at_call 54; (refine (GT.out _ (Kd.C_below HV.out KD.out)).mono ?_); rintro en w3 ⟨rfl, hb⟩; have s0 := (blk_cell (blk_below bx.out hb) 0).trans rfl; have s1 := (blk_cell (blk_below bx.out hb) 1).trans rfl; have s2 := (blk_cell (blk_below bq.out hb) 0).trans rfl; have KE := Lib.hid (below_step KD.out hb); clear hb))
  go_wp2
  go_ret
  exact ⟨rfl, KE.out⟩
/-- A valid and compact context. -/
def CompactOk (vs cl : List S36) : Prop := CtxOk vs cl ∧ ∀ x ∈ cl, ¬ x.f1 ≤ getV vs x.f0 + 1
set_option maxHeartbeats 4000000 in
theorem iscompact_any (Av : Option Addr) (cv : Nat) (vs : List S36) (Ac : Option Addr) (cc : Nat) (cl : List S36) (b : Bool) (w : World) (hv : k36.C w Av vs.length vs) (hc : k36.C w Ac cl.length cl) (hcc : cl.length ≤ cc) (lv : vs.length ≤ 1000000) (lc : cl.length ≤ 1000000) (h : b = true ↔ CompactOk vs cl) :
    Calls Try.prog 40 #[.agg #[.slice Av vs.length cv, .slice Ac cl.length cc]] w (BeP (.bool b) w) := by
  have HV := Lib.hid hv
  have HC := Lib.hid hc
  by_cases q1 : CtxOk vs cl
  · have CV := Lib.hid (fun w hx hy => cxvalid_any Av cv vs Ac cc cl true w hx hy hcc lv lc ⟨fun _ => q1, fun _ => rfl⟩)
    have CN := Lib.hid (fun (g : Nat) (w : World) (hx : k36.C w Av vs.length vs) (hy : k36.C w Ac cl.length cl) (hb : w.heap[g]? = some (.cells #[.slice Av vs.length cv, .slice Ac cl.length cc] 43 (0, 0))) => con_near g Ac cc cl (!b) w (fun x => ¬ x.f1 ≤ getV vs x.f0 + 1) hy (by
      cases b with
      | true => exact ⟨fun q => absurd q (by simp), fun q => absurd (h.1 rfl).2 q⟩
      | false => exact ⟨fun _ q => Bool.noConfusion (h.2 ⟨q1, q⟩), fun _ => rfl⟩) (fun x w' hw => near_any g Av cv vs _ x w' (blk_below hb hw) (Kd.C_below hx hw) q1.1.2))
    clear hv hc hcc h q1 lv lc
    go_enter Try.func40, Try.ntmps40
    go_wp2_with (first | ((with_reducible refine gate_dst (N := 1) rfl ?_); refine box_event rfl (N := 1) rfl (cs := #[.slice Av vs.length cv, .slice Ac cl.length cc]) (t := 43) ?hr ?_; (case hr => first | (go_simp; done) | (go_simp; rfl)); intro g1 hg1 w1 hbox hb; have HBX := Lib.hid hbox; have p0 := (blk_cell hbox 0).trans rfl; have p1 := (blk_cell hbox 1).trans rfl; have KB := Lib.hid hb; clear hb hbox hg1) | (go_at_call 55; refine (CV.out _ (Kd.C_below HV.out KB.out) (Kd.C_below HC.out KB.out)).mono ?_; rintro en w2 ⟨rfl, hb⟩; have KB := Lib.hid (below_step KB.out hb); have hbx := blk_below HBX.out hb; have HBX := Lib.hid hbx; have p0 := (blk_cell hbx 0).trans rfl; have p1 := (blk_cell hbx 1).trans rfl; clear hb hbx) | (go_at_call 56; refine (CN.out _ _ (Kd.C_below HV.out KB.out) (Kd.C_below HC.out KB.out) HBX.out).mono ?_; rintro en w3 ⟨rfl, hb⟩; have KB := Lib.hid (below_step KB.out hb); clear hb))
    go_ret
    exact ⟨by simp, KB.out⟩
  · have CV := Lib.hid (fun w hx hy => cxvalid_any Av cv vs Ac cc cl false w hx hy hcc lv lc ⟨fun q => Bool.noConfusion q, fun q => absurd q q1⟩)
    have hb : b = false := Bool.eq_false_iff.2 fun q => q1 (h.1 q).1
    subst hb
    clear hv hc hcc h q1 lv lc
    go_enter Try.func40, Try.ntmps40
    go_wp2_with (first | ((with_reducible refine gate_dst (N := 1) rfl ?_); refine box_event rfl (N := 1) rfl (cs := #[.slice Av vs.length cv, .slice Ac cl.length cc]) (t := 43) ?hr ?_; (case hr => first | (go_simp; done) | (go_simp; rfl)); intro g1 hg1 w1 hbox hb; have HBX := Lib.hid hbox; have p0 := (blk_cell hbox 0).trans rfl; have p1 := (blk_cell hbox 1).trans rfl; have KB := Lib.hid hb; clear hb hbox hg1) | (go_at_call 55; refine (CV.out _ (Kd.C_below HV.out KB.out) (Kd.C_below HC.out KB.out)).mono ?_; rintro en w2 ⟨rfl, hb⟩; have KB := Lib.hid (below_step KB.out hb); have hbx := blk_below HBX.out hb; have HBX := Lib.hid hbx; have p0 := (blk_cell hbx 0).trans rfl; have p1 := (blk_cell hbx 1).trans rfl; clear hb hbx))
    go_ret
    exact ⟨rfl, KB.out⟩
end Go.Proofs.Ytfbjbajbjlcjfaa.Cn

/- Layer 17, walks: canon.Context. -/
namespace Go.Proofs.Ytfbjbajbjlcjfaa.Cn
open Go Go.RowKit Go.Proofs Go.Proofs.Ytfbjbajbjlcjfaa.Vn Go.Proofs.Ytfbjbajbjlcjfaa.Kit Go.Proofs.Ytfbjbajbjlcjfaa.PCanonStates Go.Proofs.YtfbjbajbjlcjfaaW.PrintWords
set_option linter.unusedSimpArgs false
set_option linter.unusedVariables false

/-- The bytes of dots, and of a context. -/
def dotB (x : S36) : List Int := enc x.f0.toNat ++ enc x.f1.toNat
def dotsOf (ds : List S36) : List Int := ds.flatMap dotB
def dotsBs (ds : List S36) : List Int := enc ds.length ++ dotsOf ds
def ctxBs (vs cl : List S36) : List Int := dotsBs vs ++ dotsBs cl
theorem dotsOf_take {ds : List S36} {k : Nat} (h : k < ds.length) : dotsOf (ds.take (k + 1)) = dotsOf (ds.take k) ++ dotB (ds.getD k z36) := by
  unfold dotsOf
  rw [List.take_add_one, List.flatMap_append, List.getD_eq_getElem?_getD, List.getElem?_eq_getElem h]
  show _ ++ (dotB ds[k] ++ []) = _
  rw [List.append_nil]
  rfl
theorem getD_in {ds : List S36} {k : Nat} (h : k < ds.length) : ds.getD k z36 ∈ ds := by
  rw [List.getD_eq_getElem?_getD, List.getElem?_eq_getElem h]
  exact List.getElem_mem h
theorem dotB_len {x : S36} (h : okDot x.f0 x.f1) : (dotB x).length ≤ 20 := by
  obtain ⟨a, b, c, d⟩ := h
  have h1 := enc_length64 (n := x.f0.toNat) (by omega)
  have h2 := enc_length64 (n := x.f1.toNat) (by omega)
  unfold dotB
  rw [List.length_append]
  omega
theorem dotsOf_len : ∀ ds : List S36, (∀ x ∈ ds, okDot x.f0 x.f1) → (dotsOf ds).length ≤ 20 * ds.length
  | [], _ => by simp [dotsOf]
  | x :: ds, h => by
    have h1 := dotsOf_len ds (fun y hy => h y (List.mem_cons_of_mem _ hy))
    have h2 := dotB_len (h x List.mem_cons_self)
    have e : dotsOf (x :: ds) = dotB x ++ dotsOf ds := rfl
    rw [e, List.length_append, List.length_cons]
    omega
theorem dotsBs_len (ds : List S36) (h : ∀ x ∈ ds, okDot x.f0 x.f1) (hl : ds.length ≤ 65536) : (dotsBs ds).length ≤ 2000000 := by
  have h1 := dotsOf_len ds h
  have h2 := enc_length64 (n := ds.length) (by omega)
  unfold dotsBs
  rw [List.length_append]
  omega
theorem context_bad (Av : Option Addr) (cv : Nat) (vs : List S36) (Ac : Option Addr) (cc : Nat) (cl : List S36) (w : World) (hv : k36.C w Av vs.length vs) (hc : k36.C w Ac cl.length cl) (hcc : cl.length ≤ cc) (lv : vs.length ≤ 1000000) (lc : cl.length ≤ 1000000) (h : ¬ CompactOk vs cl) :
    Calls Try.prog 24 #[.agg #[.slice Av vs.length cv, .slice Ac cl.length cc]] w (BeP (.tuple #[.slice none 0 0, .int .i64 2]) w) := by
  have HV := Lib.hid hv
  have HC := Lib.hid hc
  have SV := Lib.hid (fun w hx hy => iscompact_any Av cv vs Ac cc cl false w hx hy hcc lv lc ⟨fun q => Bool.noConfusion q, fun q => absurd q h⟩)
  clear hv hc hcc h lv lc
  go_enter Try.func24, Try.ntmps24
  go_wp2_with (first | ((with_reducible refine gate_dst (N := 1) rfl ?_); refine box_event rfl (N := 1) rfl (cs := #[.slice Av vs.length cv, .slice Ac cl.length cc]) (t := 43) ?hr ?_; (case hr => first | (go_simp; done) | (go_simp; rfl)); intro g1 hg1 w1 hbox hb; have HBX := Lib.hid hbox; have p0 := (blk_cell hbox 0).trans rfl; have p1 := (blk_cell hbox 1).trans rfl; have KB := Lib.hid hb; clear hb hbox hg1) | (go_at_call 40; refine (SV.out _ (Kd.C_below HV.out KB.out) (Kd.C_below HC.out KB.out)).mono ?_; rintro en w2 ⟨rfl, hb⟩; have KB := Lib.hid (below_step KB.out hb); have hbx := blk_below HBX.out hb; have HBX := Lib.hid hbx; have p0 := (blk_cell hbx 0).trans rfl; have p1 := (blk_cell hbx 1).trans rfl; clear hb hbx))
  go_ret2
  exact ⟨rfl, KB.out⟩
set_option maxHeartbeats 2000000 in
theorem context_long (Av : Option Addr) (cv : Nat) (vs : List S36) (Ac : Option Addr) (cc : Nat) (cl : List S36) (w : World) (hv : k36.C w Av vs.length vs) (hc : k36.C w Ac cl.length cl) (hcc : cl.length ≤ cc) (lv : vs.length ≤ 1000000) (lc : cl.length ≤ 1000000) (h : CompactOk vs cl) (hm : 65536 < vs.length ∨ 65536 < cl.length) :
    Calls Try.prog 24 #[.agg #[.slice Av vs.length cv, .slice Ac cl.length cc]] w (BeP (.tuple #[.slice none 0 0, .int .i64 5]) w) := by
  have HV := Lib.hid hv
  have HC := Lib.hid hc
  have SV := Lib.hid (fun w hx hy => iscompact_any Av cv vs Ac cc cl true w hx hy hcc lv lc ⟨fun q => h, fun q => rfl⟩)
  have l1 : vs.length ≤ 9223372036854775807 := by omega
  have l2 : cl.length ≤ 9223372036854775807 := by omega
  by_cases q1 : 65536 < vs.length
  · have hd : decide ((65536 : Int) < (vs.length : Int)) = true := decide_eq_true (by omega)
    clear hv hc hcc h lv lc hm q1
    go_enter Try.func24, Try.ntmps24
    go_wp2_with (first | ((with_reducible refine gate_dst (N := 1) rfl ?_); refine box_event rfl (N := 1) rfl (cs := #[.slice Av vs.length cv, .slice Ac cl.length cc]) (t := 43) ?hr ?_; (case hr => first | (go_simp; done) | (go_simp; rfl)); intro g1 hg1 w1 hbox hb; have HBX := Lib.hid hbox; have p0 := (blk_cell hbox 0).trans rfl; have p1 := (blk_cell hbox 1).trans rfl; have KB := Lib.hid hb; clear hb hbox hg1) | (go_at_call 40; refine (SV.out _ (Kd.C_below HV.out KB.out) (Kd.C_below HC.out KB.out)).mono ?_; rintro en w2 ⟨rfl, hb⟩; have KB := Lib.hid (below_step KB.out hb); have hbx := blk_below HBX.out hb; have HBX := Lib.hid hbx; have p0 := (blk_cell hbx 0).trans rfl; have p1 := (blk_cell hbx 1).trans rfl; clear hb hbx))
    go_ret2
    exact ⟨rfl, KB.out⟩
  · have hd : decide ((65536 : Int) < (vs.length : Int)) = false := decide_eq_false (by omega)
    have hd2 : decide ((65536 : Int) < (cl.length : Int)) = true := decide_eq_true (by omega)
    clear hv hc hcc h lv lc hm q1
    go_enter Try.func24, Try.ntmps24
    go_wp2_with (first | ((with_reducible refine gate_dst (N := 1) rfl ?_); refine box_event rfl (N := 1) rfl (cs := #[.slice Av vs.length cv, .slice Ac cl.length cc]) (t := 43) ?hr ?_; (case hr => first | (go_simp; done) | (go_simp; rfl)); intro g1 hg1 w1 hbox hb; have HBX := Lib.hid hbox; have p0 := (blk_cell hbox 0).trans rfl; have p1 := (blk_cell hbox 1).trans rfl; have KB := Lib.hid hb; clear hb hbox hg1) | (go_at_call 40; refine (SV.out _ (Kd.C_below HV.out KB.out) (Kd.C_below HC.out KB.out)).mono ?_; rintro en w2 ⟨rfl, hb⟩; have KB := Lib.hid (below_step KB.out hb); have hbx := blk_below HBX.out hb; have HBX := Lib.hid hbx; have p0 := (blk_cell hbx 0).trans rfl; have p1 := (blk_cell hbx 1).trans rfl; clear hb hbx))
    go_ret2
    exact ⟨rfl, KB.out⟩
set_option maxHeartbeats 8000000 in
theorem context_ok (Av : Option Addr) (cv : Nat) (vs : List S36) (Ac : Option Addr) (cc : Nat) (cl : List S36) (w : World) (hv : k36.C w Av vs.length vs) (hc : k36.C w Ac cl.length cl) (hcc : cl.length ≤ cc) (lv : vs.length ≤ 65536) (lc : cl.length ≤ 65536) (h : CompactOk vs cl) :
    Calls Try.prog 24 #[.agg #[.slice Av vs.length cv, .slice Ac cl.length cc]] w (MadeE (ctxBs vs cl) w) := by
  have HV := Lib.hid hv
  have HC := Lib.hid hc
  have SV := Lib.hid (fun w hx hy => iscompact_any Av cv vs Ac cc cl true w hx hy hcc (by omega) (by omega) ⟨fun q => h, fun q => rfl⟩)
  have l1 : vs.length ≤ 9223372036854775807 := by omega
  have l2 : cl.length ≤ 9223372036854775807 := by omega
  have hd : decide ((65536 : Int) < (vs.length : Int)) = false := decide_eq_false (by omega)
  have hd2 : decide ((65536 : Int) < (cl.length : Int)) = false := decide_eq_false (by omega)
  have LV := Lib.hid lv
  have LC := Lib.hid lc
  have OV := Lib.hid h.1.1.2
  have OC := Lib.hid h.1.2.2
  have PL := Lib.hid (dotsBs_len vs h.1.1.2 lv)
  have TL := Lib.hid (show (ctxBs vs cl).length ≤ 100000000 by have := dotsBs_len vs h.1.1.2 lv; have := dotsBs_len cl h.1.2.2 lc; unfold ctxBs; rw [List.length_append]; omega)
  clear hv hc hcc h lv lc
  go_enter Try.func24, Try.ntmps24
  go_upto_region 7 with (first | ((with_reducible refine gate_dst (N := 1) rfl ?_); refine box_event rfl (N := 1) rfl (cs := #[.slice Av vs.length cv, .slice Ac cl.length cc]) (t := 43) ?hr ?_; (case hr => first | (go_simp; done) | (go_simp; rfl)); intro g1 hg1 w1 hbox hb; have HBX := Lib.hid hbox; have p0 := (blk_cell hbox 0).trans rfl; have p1 := (blk_cell hbox 1).trans rfl; have KB := Lib.hid hb; clear hb hbox hg1) | (go_at_call 40; refine (SV.out _ (Kd.C_below HV.out KB.out) (Kd.C_below HC.out KB.out)).mono ?_; rintro en w2 ⟨rfl, hb⟩; have KB := Lib.hid (below_step KB.out hb); have hbx := blk_below HBX.out hb; have HBX := Lib.hid hbx; have p0 := (blk_cell hbx 0).trans rfl; have p1 := (blk_cell hbx 1).trans rfl; clear hb hbx) | ((with_reducible refine gate_dst (N := 4) rfl ?_); refine box_event rfl (N := 4) rfl (cs := #[.slice none 0 0]) (t := 68) ?hr ?_; (case hr => first | (go_simp; done) | (go_simp; rfl)); intro g hg w2 hbox hb; have HW := Lib.hid (wr_box KB.out hg hbox hb); have hbx := blk_below HBX.out hb; have p0 := (blk_cell hbx 0).trans rfl; have p1 := (blk_cell hbx 1).trans rfl; clear hb hbox hg hbx))
  have hbL := blk_new w2 (.cells #[.slice Av vs.length cv, .slice Ac cl.length cc] 40)
  have hbB := below_alloc (Below.refl w2.heap.size w2) (.cells #[.slice Av vs.length cv, .slice Ac cl.length cc] 40)
  have GN := Lib.hid (show w2.heap.size ≠ g from Nat.ne_of_gt (blk_lt HW.out.own))
  have GO := Lib.hid (show some w2.heap.size ≠ (Value.slice none 0 0).ownBlock from fun e => absurd (Kd.R_lt HW.out.row _ e.symm) (Nat.lt_irrefl _))
  have HW := Lib.hid (HW.out.below hbB)
  have GB := Lib.hid hbL
  clear hbL hbB p0 p1 hd hd2 KB HBX SV
  generalize w2.alloc (.cells #[.slice Av vs.length cv, .slice Ac cl.length cc] 40) = w7 at *
  generalize w2.heap.size = gL at *
  go_wp2
  go_loopw [30] (fun i wr => ∃ (k : Nat) (v : Value), i = .int .i64 k ∧ wr.heap[gL]? = some (.cells #[.slice Av vs.length cv, .slice Ac cl.length cc] 40 (0, 0)) ∧ some gL ≠ v.ownBlock ∧ ((k = 0 ∧ Wr w wr g v []) ∨ (k = 1 ∧ Wr w wr g v (dotsBs vs)) ∨ (k = 2 ∧ Wr w wr g v (ctxBs vs cl)))) (fun i _ => (2 : Int).toNat - (intOf i).toNat)
  case atStart => exact ⟨0, _, rfl, GB.out, GO.out, .inl ⟨rfl, HW.out⟩⟩
  case round =>
    clear HW GB GO
    obtain ⟨k, v0, rfl, hG, hO, hk⟩ := hrel
    have GB := Lib.hid hG
    have GO := Lib.hid hO
    clear hG hO
    rcases hk with ⟨rfl, hW⟩ | ⟨rfl, hW⟩ | ⟨rfl, hW⟩
    · have HW := Lib.hid hW
      clear hW
      have hok0 : ∀ x ∈ vs, okDot x.f0 x.f1 := OV.out
      have hl0 : vs.length ≤ 65536 := LV.out
      have lx : vs.length ≤ 9223372036854775807 := by omega
      have uwl : IntKind.u64.wrap (vs.length : Int) = vs.length := by rw [wrapu]; omega
      have UL := Lib.hid (show U64 [(vs.length : Int)] from fun n hn => by obtain rfl : n = (vs.length : Int) := (by simpa using hn); omega)
      have hpre : (([] : List Int)).length ≤ 2000000 := by first | exact PL.out | simp
      have LP := Lib.hid (show (([] : List Int)).length ≤ 100000000 by omega)
      have AL := Lib.hid (fun wq vq (hq : Wr w wq g vq (([] : List Int))) => wnum_lit [(vs.length : Int)] (n := 1) (cs := #[.int .u64 (vs.length : Int)]) 59 rfl rfl (by simp) w wq g vq _ hq UL.out LP.out)
      have q0 := (blk_cell GB.out 0).trans rfl
      clear hok0 hl0
      go_upto_region 11 with ((go_at_call 36; (with_reducible refine (AL.out _ _ HW.out).mono ?_); rintro en w9 ⟨rfl, v1, hW2, hS2⟩; rw [encs_one, Int.toNat_natCast] at hW2; have hgb := hS2.1.blk GB.out (fun q => q.elim GN.out GO.out); have GO := Lib.hid (vlt_step GO.out hS2 (blk_lt GB.out)); have GB := Lib.hid hgb; have HW := Lib.hid hW2; clear hW2 hS2 hgb))
      clear q0
      go_wp2
      go_loopw [41] (fun i wr => ∃ (j : Nat) (v : Value), j ≤ vs.length ∧ i = .int .i64 j ∧ Wr w wr g v (([] : List Int) ++ enc vs.length ++ dotsOf (vs.take j)) ∧ wr.heap[gL]? = some (.cells #[.slice Av vs.length cv, .slice Ac cl.length cc] 40 (0, 0)) ∧ some gL ≠ v.ownBlock) (fun i _ => (vs.length : Int).toNat - (intOf i).toNat)
      case atStart => exact ⟨0, v1, by omega, rfl, by simpa [dotsOf] using HW.out, GB.out, GO.out⟩
      case round =>
        clear HW GB GO
        obtain ⟨j, v2, hj, rfl, hW, hG, hO⟩ := hrel
        have HW := Lib.hid hW
        have GB := Lib.hid hG
        have GO := Lib.hid hO
        clear hW hG hO
        by_cases hlt : j < vs.length
        · obtain ⟨ad, eA, q0, q1⟩ := at_T36 (Kd.C_below HV.out HW.out.bel) (j : Int) (by omega) (by omega)
          subst eA
          have hrd : rd_T36 vs (j : Int) = vs.getD j z36 := by unfold rd_T36; rw [Int.toNat_natCast]
          rw [hrd, Int.toNat_natCast] at q0 q1
          have hok := OV.out _ (getD_in hlt)
          have DT := Lib.hid (dotsOf_take hlt)
          have hdl := dotsOf_len (vs.take j) (fun x hx => OV.out x (List.mem_of_mem_take hx))
          rw [List.length_take] at hdl
          have hl0 : vs.length ≤ 65536 := LV.out
          have hel := enc_length64 (n := vs.length) (by omega)
          have LQ := Lib.hid (show (([] : List Int) ++ enc vs.length ++ dotsOf (vs.take j)).length ≤ 100000000 by rw [List.length_append, List.length_append]; omega)
          generalize vs.getD j z36 = x at *
          obtain ⟨r, c8⟩ := x
          obtain ⟨a1, a2, a3, a4⟩ := hok
          simp only at a1 a2 a3 a4 q0 q1
          have uw1 : IntKind.u64.wrap r = r := by rw [wrapu]; omega
          have uw2 : IntKind.u64.wrap c8 = c8 := by rw [wrapu]; omega
          have U2 := Lib.hid (show U64 [r, c8] from fun n hn => by
            rcases List.mem_cons.1 hn with rfl | hn
            · omega
            · obtain rfl : n = c8 := by simpa using hn
              omega)
          have A2 := Lib.hid (fun wq vq (hq : Wr w wq g vq (([] : List Int) ++ enc vs.length ++ dotsOf (vs.take j))) => wnum_lit [r, c8] (n := 2) (cs := #[.int .u64 r, .int .u64 c8]) 59 rfl rfl (by simp) w wq g vq _ hq U2.out LQ.out)
          clear hdl hel hl0
          go_upto_region 13 with (fail)
          have hb6 := below_alloc (Below.refl wr.heap.size wr) (.cells #[.int .i64 r, .int .i64 c8] 36)
          have HW := Lib.hid (HW.out.below hb6)
          have GB := Lib.hid (blk_below GB.out hb6)
          have hbx := blk_new wr (.cells #[.int .i64 r, .int .i64 c8] 36)
          have p0 := (blk_cell hbx 0).trans rfl
          have p1 := (blk_cell hbx 1).trans rfl
          clear hb6 hbx q0 q1
          generalize wr.alloc (.cells #[.int .i64 r, .int .i64 c8] 36) = w6 at *
          generalize wr.heap.size = g6 at *
          go_wp2_with (go_at_call 36; (with_reducible refine (A2.out _ _ HW.out).mono ?_); rintro en w9 ⟨rfl, v3, hW2, hS2⟩; have hgb := hS2.1.blk GB.out (fun q => q.elim GN.out GO.out); have GO := Lib.hid (vlt_step GO.out hS2 (blk_lt GB.out)); have GB := Lib.hid hgb; have HW := Lib.hid hW2; clear hW2 hS2 hgb)
          go_roundw
          case rel => exact ⟨j + 1, v3, by omega, by go_num, by rw [DT.out, ← List.append_assoc]; have := HW.out; rw [encs_cons, encs_one] at this; exact this, GB.out, GO.out⟩
          case measure => simp [intOf]; omega
        · obtain rfl : j = vs.length := by omega
          rw [List.take_length] at HW
          go_wp2
          go_roundw
          case rel => exact ⟨1, v2, by go_num, GB.out, GO.out, .inr (.inl ⟨rfl, by have := HW.out; simpa only [ctxBs, dotsBs, List.nil_append, List.append_assoc] using this⟩)⟩
          case measure => simp [intOf]
    · have HW := Lib.hid hW
      clear hW
      have hok0 : ∀ x ∈ cl, okDot x.f0 x.f1 := OC.out
      have hl0 : cl.length ≤ 65536 := LC.out
      have lx : cl.length ≤ 9223372036854775807 := by omega
      have uwl : IntKind.u64.wrap (cl.length : Int) = cl.length := by rw [wrapu]; omega
      have UL := Lib.hid (show U64 [(cl.length : Int)] from fun n hn => by obtain rfl : n = (cl.length : Int) := (by simpa using hn); omega)
      have hpre : (dotsBs vs).length ≤ 2000000 := by first | exact PL.out | simp
      have LP := Lib.hid (show (dotsBs vs).length ≤ 100000000 by omega)
      have AL := Lib.hid (fun wq vq (hq : Wr w wq g vq (dotsBs vs)) => wnum_lit [(cl.length : Int)] (n := 1) (cs := #[.int .u64 (cl.length : Int)]) 59 rfl rfl (by simp) w wq g vq _ hq UL.out LP.out)
      have q0 := (blk_cell GB.out 1).trans rfl
      clear hok0 hl0
      go_upto_region 11 with ((go_at_call 36; (with_reducible refine (AL.out _ _ HW.out).mono ?_); rintro en w9 ⟨rfl, v1, hW2, hS2⟩; rw [encs_one, Int.toNat_natCast] at hW2; have hgb := hS2.1.blk GB.out (fun q => q.elim GN.out GO.out); have GO := Lib.hid (vlt_step GO.out hS2 (blk_lt GB.out)); have GB := Lib.hid hgb; have HW := Lib.hid hW2; clear hW2 hS2 hgb))
      clear q0
      go_wp2
      go_loopw [41] (fun i wr => ∃ (j : Nat) (v : Value), j ≤ cl.length ∧ i = .int .i64 j ∧ Wr w wr g v (dotsBs vs ++ enc cl.length ++ dotsOf (cl.take j)) ∧ wr.heap[gL]? = some (.cells #[.slice Av vs.length cv, .slice Ac cl.length cc] 40 (0, 0)) ∧ some gL ≠ v.ownBlock) (fun i _ => (cl.length : Int).toNat - (intOf i).toNat)
      case atStart => exact ⟨0, v1, by omega, rfl, by simpa [dotsOf] using HW.out, GB.out, GO.out⟩
      case round =>
        clear HW GB GO
        obtain ⟨j, v2, hj, rfl, hW, hG, hO⟩ := hrel
        have HW := Lib.hid hW
        have GB := Lib.hid hG
        have GO := Lib.hid hO
        clear hW hG hO
        by_cases hlt : j < cl.length
        · obtain ⟨ad, eA, q0, q1⟩ := at_T36 (Kd.C_below HC.out HW.out.bel) (j : Int) (by omega) (by omega)
          subst eA
          have hrd : rd_T36 cl (j : Int) = cl.getD j z36 := by unfold rd_T36; rw [Int.toNat_natCast]
          rw [hrd, Int.toNat_natCast] at q0 q1
          have hok := OC.out _ (getD_in hlt)
          have DT := Lib.hid (dotsOf_take hlt)
          have hdl := dotsOf_len (cl.take j) (fun x hx => OC.out x (List.mem_of_mem_take hx))
          rw [List.length_take] at hdl
          have hl0 : cl.length ≤ 65536 := LC.out
          have hel := enc_length64 (n := cl.length) (by omega)
          have LQ := Lib.hid (show (dotsBs vs ++ enc cl.length ++ dotsOf (cl.take j)).length ≤ 100000000 by rw [List.length_append, List.length_append]; omega)
          generalize cl.getD j z36 = x at *
          obtain ⟨r, c8⟩ := x
          obtain ⟨a1, a2, a3, a4⟩ := hok
          simp only at a1 a2 a3 a4 q0 q1
          have uw1 : IntKind.u64.wrap r = r := by rw [wrapu]; omega
          have uw2 : IntKind.u64.wrap c8 = c8 := by rw [wrapu]; omega
          have U2 := Lib.hid (show U64 [r, c8] from fun n hn => by
            rcases List.mem_cons.1 hn with rfl | hn
            · omega
            · obtain rfl : n = c8 := by simpa using hn
              omega)
          have A2 := Lib.hid (fun wq vq (hq : Wr w wq g vq (dotsBs vs ++ enc cl.length ++ dotsOf (cl.take j))) => wnum_lit [r, c8] (n := 2) (cs := #[.int .u64 r, .int .u64 c8]) 59 rfl rfl (by simp) w wq g vq _ hq U2.out LQ.out)
          clear hdl hel hl0
          go_upto_region 13 with (fail)
          have hb6 := below_alloc (Below.refl wr.heap.size wr) (.cells #[.int .i64 r, .int .i64 c8] 36)
          have HW := Lib.hid (HW.out.below hb6)
          have GB := Lib.hid (blk_below GB.out hb6)
          have hbx := blk_new wr (.cells #[.int .i64 r, .int .i64 c8] 36)
          have p0 := (blk_cell hbx 0).trans rfl
          have p1 := (blk_cell hbx 1).trans rfl
          clear hb6 hbx q0 q1
          generalize wr.alloc (.cells #[.int .i64 r, .int .i64 c8] 36) = w6 at *
          generalize wr.heap.size = g6 at *
          go_wp2_with (go_at_call 36; (with_reducible refine (A2.out _ _ HW.out).mono ?_); rintro en w9 ⟨rfl, v3, hW2, hS2⟩; have hgb := hS2.1.blk GB.out (fun q => q.elim GN.out GO.out); have GO := Lib.hid (vlt_step GO.out hS2 (blk_lt GB.out)); have GB := Lib.hid hgb; have HW := Lib.hid hW2; clear hW2 hS2 hgb)
          go_roundw
          case rel => exact ⟨j + 1, v3, by omega, by go_num, by rw [DT.out, ← List.append_assoc]; have := HW.out; rw [encs_cons, encs_one] at this; exact this, GB.out, GO.out⟩
          case measure => simp [intOf]; omega
        · obtain rfl : j = cl.length := by omega
          rw [List.take_length] at HW
          go_wp2
          go_roundw
          case rel => exact ⟨2, v2, by go_num, GB.out, GO.out, .inr (.inr ⟨rfl, by have := HW.out; simpa only [ctxBs, dotsBs, List.nil_append, List.append_assoc] using this⟩)⟩
          case measure => simp [intOf]
    · have HW := Lib.hid hW
      clear hW
      go_wp2_with (go_at_call 39; refine (bytes_any w _ g v0 _ HW.out TL.out).mono ?_; rintro en w8 ⟨v8, rfl, hr, hb⟩; have R8 := Lib.hid hr; have KD := Lib.hid (below_step HW.out.bel hb); have SZ := Lib.hid HW.out.bel.size; clear hr hb)
      go_ret2
      refine ⟨v8, rfl, ?_, KD.out⟩
      exact Kd.R_lower (Kd.R_mono R8.out (fun k hk => Nat.le_trans SZ.out hk)) SZ.out
end Go.Proofs.Ytfbjbajbjlcjfaa.Cn

/- Layer 17, walks: the reference's Number and Context, the law's contexts. -/
namespace Go.Proofs.Ytfbjbajbjlcjfaa.Cn
open Go Go.RowKit Go.Proofs Go.Proofs.Ytfbjbajbjlcjfaa.Vn Go.Proofs.Ytfbjbajbjlcjfaa.Kit Go.Proofs.Ytfbjbajbjlcjfaa.PCanonStates Go.Proofs.YtfbjbajbjlcjfaaW.PrintWords
set_option linter.unusedSimpArgs false
set_option linter.unusedVariables false

theorem rnumber_any (n : Int) (h0 : 0 ≤ n) (h1 : n < 18446744073709551616) (w : World) : Calls Try.prog 29 #[.int .u64 n] w (Vn.MadeP (enc n.toNat) w) := by
  refine (redpencilref17_Number.calls 10 n _ w (rnum_f n h0 h1 0)).mono ?_
  rintro en w1 ⟨v, rfl, hr, hb⟩
  exact ⟨v, rfl, Kd.R_mono (Kd.R_bound hr) (fun k hk => hk.2.1), hb⟩
set_option maxHeartbeats 8000000 in
theorem rcontext_any (Av : Option Addr) (cv : Nat) (vs : List S36) (Ac : Option Addr) (cc : Nat) (cl : List S36) (w : World) (hv : k36.C w Av vs.length vs) (hc : k36.C w Ac cl.length cl) (lv : vs.length ≤ 65536) (lc : cl.length ≤ 65536) (ov : ∀ x ∈ vs, okDot x.f0 x.f1) (oc : ∀ x ∈ cl, okDot x.f0 x.f1) :
    Calls Try.prog 20 #[.agg #[.slice Av vs.length cv, .slice Ac cl.length cc]] w (Vn.MadeP (ctxBs vs cl) w) := by
  have HV := Lib.hid hv
  have HC := Lib.hid hc
  have l1 : vs.length ≤ 9223372036854775807 := by omega
  have l2 : cl.length ≤ 9223372036854775807 := by omega
  have LV := Lib.hid lv
  have LC := Lib.hid lc
  have OV := Lib.hid ov
  have OC := Lib.hid oc
  have PL := Lib.hid (dotsBs_len vs ov lv)
  clear hv hc lv lc ov oc
  go_enter Try.func20, Try.ntmps20
  go_upto_region 3 with (first | ((with_reducible refine gate_dst (N := 1) rfl ?_); refine box_event rfl (N := 1) rfl (cs := #[.slice Av vs.length cv, .slice Ac cl.length cc]) (t := 43) ?hr ?_; (case hr => first | (go_simp; done) | (go_simp; rfl)); intro g1 hg1 w1 hbox hb; have HBX := Lib.hid hbox; have p0 := (blk_cell hbox 0).trans rfl; have p1 := (blk_cell hbox 1).trans rfl; have KB := Lib.hid hb; clear hb hbox hg1))
  have hbL := blk_new w1 (.cells #[.slice Av vs.length cv, .slice Ac cl.length cc] 40)
  have hbB := below_alloc (Below.refl w1.heap.size w1) (.cells #[.slice Av vs.length cv, .slice Ac cl.length cc] 40)
  have KB := Lib.hid (below_step KB.out hbB)
  have GB := Lib.hid hbL
  clear hbL hbB p0 p1 HBX
  generalize w1.alloc (.cells #[.slice Av vs.length cv, .slice Ac cl.length cc] 40) = w7 at *
  generalize w1.heap.size = gL at *
  go_wp2
  go_loopw [3, 13] (fun b i wr => ∃ (k : Nat), i = .int .i64 k ∧ wr.heap[gL]? = some (.cells #[.slice Av vs.length cv, .slice Ac cl.length cc] 40 (0, 0)) ∧ Below w.heap.size w wr ∧ ((k = 0 ∧ k8.R 5 wr w.heap.size (fun q => w.heap.size ≤ q ∧ q ≠ gL) b ([])) ∨ (k = 1 ∧ k8.R 5 wr w.heap.size (fun q => w.heap.size ≤ q ∧ q ≠ gL) b (dotsBs vs)) ∨ (k = 2 ∧ k8.R 5 wr w.heap.size (fun q => w.heap.size ≤ q ∧ q ≠ gL) b (ctxBs vs cl)))) (fun _ i _ => (2 : Int).toNat - (intOf i).toNat)
  case atStart => exact ⟨0, rfl, GB.out, KB.out, .inl ⟨rfl, Kd.R_nil _ _ _ _ _⟩⟩
  case round =>
    clear GB KB
    obtain ⟨k, rfl, hG, hB, hk⟩ := hrel
    have GB := Lib.hid hG
    have KB := Lib.hid hB
    clear hG hB
    rcases hk with ⟨rfl, hO⟩ | ⟨rfl, hO⟩ | ⟨rfl, hO⟩
    · have HO := Lib.hid hO
      clear hO
      have hok0 : ∀ x ∈ vs, okDot x.f0 x.f1 := OV.out
      have hl0 : vs.length ≤ 65536 := LV.out
      have lx : vs.length ≤ 9223372036854775807 := by omega
      have uwl : IntKind.u64.wrap (vs.length : Int) = vs.length := by rw [wrapu]; omega
      have hpre : (([] : List Int)).length ≤ 2000000 := by first | exact PL.out | simp
      have hel := enc_length64 (n := vs.length) (by omega)
      have NL := rnumber_any (vs.length : Int) (by omega) (by omega)
      rw [Int.toNat_natCast] at NL
      have NL := Lib.hid NL
      have LP := Lib.hid (show ((([] : List Int)).length + (enc vs.length).length) * 1 ≤ 140737488355328 by omega)
      have HP := Lib.hid hpre
      have HEL := Lib.hid hel
      have q0 := (blk_cell GB.out 0).trans rfl
      clear hok0 hl0 hpre hel
      go_upto_region 6 with (first | (go_at_call 29; (with_reducible refine (NL.out _).mono ?_); rintro en w9 ⟨v1, rfl, hr, hb⟩; obtain ⟨A1, c1, rfl, _, hC⟩ := Kd.R_reads hr; have HO := Lib.hid (Kd.R_below HO.out hb); have GB := Lib.hid (blk_below GB.out hb); have KB := Lib.hid (below_step KB.out hb); have C1 := Lib.hid hC; clear hr hb hC) | ((with_reducible refine gate_builtin (b := .append) (xs := #[.tmp 17, .tmp 21]) rfl ?_); at_builtin; refine Kd.R_append_rows k8 (w0 := w) w.heap.size rfl (.tmp 17) (.tmp 21) 24 5 (.int .u8 0) 1 rfl Try.underlying24 info8 rfl (by decide) (by omega) u3 (([] : List Int)) (enc vs.length) _ _ _ (fun q => w.heap.size ≤ q ∧ q ≠ gL) (fun _ => False) rfl rfl HO.out C1.out (fun _ _ h => h) (fun _ h => h.elim) (fun q hq => ⟨Nat.le_trans KB.out.size hq, Nat.ne_of_gt (Nat.lt_of_lt_of_le (blk_lt GB.out) hq)⟩) KB.out KB.out.size LP.out ?_; intro v7 w7 ho hb hg_ hat; have GB := Lib.hid (blk_grown GB.out hg_ (fun e => (HO.out.1 gL e.symm).2 rfl)); have HO := Lib.hid ho; have KB := Lib.hid hb; clear ho hb hg_ hat))
      clear q0
      go_wp2
      go_loopw [3, 6] (fun b i wr => ∃ j : Nat, j ≤ vs.length ∧ i = .int .i64 j ∧ k8.R 5 wr w.heap.size (fun q => w.heap.size ≤ q ∧ q ≠ gL) b (([] : List Int) ++ enc vs.length ++ dotsOf (vs.take j)) ∧ wr.heap[gL]? = some (.cells #[.slice Av vs.length cv, .slice Ac cl.length cc] 40 (0, 0)) ∧ Below w.heap.size w wr) (fun _ i _ => (vs.length : Int).toNat - (intOf i).toNat)
      case atStart => exact ⟨0, by omega, rfl, by simpa [dotsOf] using HO.out, GB.out, KB.out⟩
      case round =>
        clear HO GB KB
        obtain ⟨j, hj, rfl, hO, hG, hB⟩ := hrel
        have HO := Lib.hid hO
        have GB := Lib.hid hG
        have KB := Lib.hid hB
        clear hO hG hB
        by_cases hlt : j < vs.length
        · obtain ⟨ad, eA, q0, q1⟩ := at_T36 HV.out (j : Int) (by omega) (by omega)
          subst eA
          have hrd : rd_T36 vs (j : Int) = vs.getD j z36 := by unfold rd_T36; rw [Int.toNat_natCast]
          rw [hrd, Int.toNat_natCast] at q0 q1
          have hok := OV.out _ (getD_in hlt)
          have DT := Lib.hid (dotsOf_take hlt)
          have hdl := dotsOf_len (vs.take j) (fun x hx => OV.out x (List.mem_of_mem_take hx))
          rw [List.length_take] at hdl
          have hl0 : vs.length ≤ 65536 := LV.out
          have hel := HEL.out
          have hpre := HP.out
          have hLQ : (([] : List Int) ++ enc vs.length ++ dotsOf (vs.take j)).length ≤ 100000000 := by rw [List.length_append, List.length_append]; omega
          generalize vs.getD j z36 = x at *
          obtain ⟨r, c8⟩ := x
          obtain ⟨a1, a2, a3, a4⟩ := hok
          simp only at a1 a2 a3 a4 q0 q1
          have uw1 : IntKind.u64.wrap r = r := by rw [wrapu]; omega
          have uw2 : IntKind.u64.wrap c8 = c8 := by rw [wrapu]; omega
          have h1 := enc_length64 (n := r.toNat) (by omega)
          have h2 := enc_length64 (n := c8.toNat) (by omega)
          have N1 := Lib.hid (rnumber_any r (by omega) (by omega))
          have N2 := Lib.hid (rnumber_any c8 (by omega) (by omega))
          have LQ1 := Lib.hid (show ((([] : List Int) ++ enc vs.length ++ dotsOf (vs.take j)).length + (enc r.toNat).length) * 1 ≤ 140737488355328 by omega)
          have LQ2 := Lib.hid (show ((([] : List Int) ++ enc vs.length ++ dotsOf (vs.take j) ++ enc r.toNat).length + (enc c8.toNat).length) * 1 ≤ 140737488355328 by simp only [List.length_append] at hLQ ⊢; omega)
          have P0 := Lib.hid q0
          have P1 := Lib.hid q1
          clear hdl hel hl0 hpre hLQ h1 h2 a1 a2 a3 a4 q0 q1
          have hdw := below_drew (Below.refl wr.heap.size wr)
          have HO := Lib.hid (Kd.R_below HO.out hdw)
          have GB := Lib.hid (blk_below GB.out hdw)
          have KB := Lib.hid (below_step KB.out hdw)
          clear hdw
          have s0 := cell_below P0.out KB.out
          have s1 := cell_below P1.out KB.out
          go_upto_region 9 with (fail)
          go_region_held3 (fun w' => w'.cell? (ad.add (j * 2)) = some (.int .i64 r) ∧ w'.cell? ⟨(ad.add (j * 2)).block, (ad.add (j * 2)).off + 1, none⟩ = some (.int .i64 c8)) (refine ⟨?_, ?_⟩ <;> assumption) (first | (go_at_call 29; (with_reducible refine (N1.out _).mono ?_); rintro en w9 ⟨v1, rfl, hr, hb⟩; obtain ⟨A1, c1, rfl, _, hC⟩ := Kd.R_reads hr; have HO := Lib.hid (Kd.R_below HO.out hb); have GB := Lib.hid (blk_below GB.out hb); have KB := Lib.hid (below_step KB.out hb); have C1 := Lib.hid hC; have s0 := cell_below P0.out KB.out; have s1 := cell_below P1.out KB.out; clear hr hb hC) | (go_at_call 29; (with_reducible refine (N2.out _).mono ?_); rintro en w9 ⟨v1, rfl, hr, hb⟩; obtain ⟨A1, c1, rfl, _, hC⟩ := Kd.R_reads hr; have HO := Lib.hid (Kd.R_below HO.out hb); have GB := Lib.hid (blk_below GB.out hb); have KB := Lib.hid (below_step KB.out hb); have C1 := Lib.hid hC; have s0 := cell_below P0.out KB.out; have s1 := cell_below P1.out KB.out; clear hr hb hC) | (refine Kd.R_append_rows_step k8 (w0 := w) w.heap.size (by rfl) (.tmp 29) (.tmp 36) 24 5 (.int .u8 0) 1 rfl Try.underlying24 info8 rfl (by decide) (by omega) u3 (([] : List Int) ++ enc vs.length ++ dotsOf (vs.take j)) (enc r.toNat) _ _ _ (fun q => w.heap.size ≤ q ∧ q ≠ gL) (fun _ => False) rfl rfl HO.out C1.out (fun _ _ h => h) (fun _ h => h.elim) (fun q hq => ⟨Nat.le_trans KB.out.size hq, Nat.ne_of_gt (Nat.lt_of_lt_of_le (blk_lt GB.out) hq)⟩) KB.out KB.out.size LQ1.out ?_; intro v7 w7 ho hb hg_ hat; have GB := Lib.hid (blk_grown GB.out hg_ (fun e => (HO.out.1 gL e.symm).2 rfl)); have HO := Lib.hid ho; have KB := Lib.hid hb; clear ho hb hg_ hat; have s0 := cell_below P0.out KB.out; have s1 := cell_below P1.out KB.out) | (refine Kd.R_append_rows_step k8 (w0 := w) w.heap.size (by rfl) (.tmp 37) (.tmp 44) 24 5 (.int .u8 0) 1 rfl Try.underlying24 info8 rfl (by decide) (by omega) _ (([] : List Int) ++ enc vs.length ++ dotsOf (vs.take j) ++ enc r.toNat) (enc c8.toNat) _ _ _ (fun q => w.heap.size ≤ q ∧ q ≠ gL) (fun _ => False) rfl rfl HO.out C1.out (fun _ _ h => h) (fun _ h => h.elim) (fun q hq => ⟨Nat.le_trans KB.out.size hq, Nat.ne_of_gt (Nat.lt_of_lt_of_le (blk_lt GB.out) hq)⟩) KB.out KB.out.size LQ2.out ?_; intro v7 w7 ho hb hg_ hat; have GB := Lib.hid (blk_grown GB.out hg_ (fun e => (HO.out.1 gL e.symm).2 rfl)); have HO := Lib.hid ho; have KB := Lib.hid hb; clear ho hb hg_ hat; have s0 := cell_below P0.out KB.out; have s1 := cell_below P1.out KB.out))
          go_wp2
          go_roundw
          case rel => exact ⟨j + 1, by omega, by go_num, by rw [DT.out]; unfold dotB; simpa only [List.append_assoc] using HO.out, GB.out, KB.out⟩
          case measure => simp [intOf]; omega
        · obtain rfl : j = vs.length := by omega
          rw [List.take_length] at HO
          go_wp2
          go_roundw
          case rel => exact ⟨1, by go_num, GB.out, KB.out, .inr (.inl ⟨rfl, by have := HO.out; simpa only [ctxBs, dotsBs, List.nil_append, List.append_assoc] using this⟩)⟩
          case measure => simp [intOf]
    · have HO := Lib.hid hO
      clear hO
      have hok0 : ∀ x ∈ cl, okDot x.f0 x.f1 := OC.out
      have hl0 : cl.length ≤ 65536 := LC.out
      have lx : cl.length ≤ 9223372036854775807 := by omega
      have uwl : IntKind.u64.wrap (cl.length : Int) = cl.length := by rw [wrapu]; omega
      have hpre : (dotsBs vs).length ≤ 2000000 := by first | exact PL.out | simp
      have hel := enc_length64 (n := cl.length) (by omega)
      have NL := rnumber_any (cl.length : Int) (by omega) (by omega)
      rw [Int.toNat_natCast] at NL
      have NL := Lib.hid NL
      have LP := Lib.hid (show ((dotsBs vs).length + (enc cl.length).length) * 1 ≤ 140737488355328 by omega)
      have HP := Lib.hid hpre
      have HEL := Lib.hid hel
      have q0 := (blk_cell GB.out 1).trans rfl
      clear hok0 hl0 hpre hel
      go_upto_region 6 with (first | (go_at_call 29; (with_reducible refine (NL.out _).mono ?_); rintro en w9 ⟨v1, rfl, hr, hb⟩; obtain ⟨A1, c1, rfl, _, hC⟩ := Kd.R_reads hr; have HO := Lib.hid (Kd.R_below HO.out hb); have GB := Lib.hid (blk_below GB.out hb); have KB := Lib.hid (below_step KB.out hb); have C1 := Lib.hid hC; clear hr hb hC) | ((with_reducible refine gate_builtin (b := .append) (xs := #[.tmp 17, .tmp 21]) rfl ?_); at_builtin; refine Kd.R_append_rows k8 (w0 := w) w.heap.size rfl (.tmp 17) (.tmp 21) 24 5 (.int .u8 0) 1 rfl Try.underlying24 info8 rfl (by decide) (by omega) u3 (dotsBs vs) (enc cl.length) _ _ _ (fun q => w.heap.size ≤ q ∧ q ≠ gL) (fun _ => False) rfl rfl HO.out C1.out (fun _ _ h => h) (fun _ h => h.elim) (fun q hq => ⟨Nat.le_trans KB.out.size hq, Nat.ne_of_gt (Nat.lt_of_lt_of_le (blk_lt GB.out) hq)⟩) KB.out KB.out.size LP.out ?_; intro v7 w7 ho hb hg_ hat; have GB := Lib.hid (blk_grown GB.out hg_ (fun e => (HO.out.1 gL e.symm).2 rfl)); have HO := Lib.hid ho; have KB := Lib.hid hb; clear ho hb hg_ hat))
      clear q0
      go_wp2
      go_loopw [3, 6] (fun b i wr => ∃ j : Nat, j ≤ cl.length ∧ i = .int .i64 j ∧ k8.R 5 wr w.heap.size (fun q => w.heap.size ≤ q ∧ q ≠ gL) b (dotsBs vs ++ enc cl.length ++ dotsOf (cl.take j)) ∧ wr.heap[gL]? = some (.cells #[.slice Av vs.length cv, .slice Ac cl.length cc] 40 (0, 0)) ∧ Below w.heap.size w wr) (fun _ i _ => (cl.length : Int).toNat - (intOf i).toNat)
      case atStart => exact ⟨0, by omega, rfl, by simpa [dotsOf] using HO.out, GB.out, KB.out⟩
      case round =>
        clear HO GB KB
        obtain ⟨j, hj, rfl, hO, hG, hB⟩ := hrel
        have HO := Lib.hid hO
        have GB := Lib.hid hG
        have KB := Lib.hid hB
        clear hO hG hB
        by_cases hlt : j < cl.length
        · obtain ⟨ad, eA, q0, q1⟩ := at_T36 HC.out (j : Int) (by omega) (by omega)
          subst eA
          have hrd : rd_T36 cl (j : Int) = cl.getD j z36 := by unfold rd_T36; rw [Int.toNat_natCast]
          rw [hrd, Int.toNat_natCast] at q0 q1
          have hok := OC.out _ (getD_in hlt)
          have DT := Lib.hid (dotsOf_take hlt)
          have hdl := dotsOf_len (cl.take j) (fun x hx => OC.out x (List.mem_of_mem_take hx))
          rw [List.length_take] at hdl
          have hl0 : cl.length ≤ 65536 := LC.out
          have hel := HEL.out
          have hpre := HP.out
          have hLQ : (dotsBs vs ++ enc cl.length ++ dotsOf (cl.take j)).length ≤ 100000000 := by rw [List.length_append, List.length_append]; omega
          generalize cl.getD j z36 = x at *
          obtain ⟨r, c8⟩ := x
          obtain ⟨a1, a2, a3, a4⟩ := hok
          simp only at a1 a2 a3 a4 q0 q1
          have uw1 : IntKind.u64.wrap r = r := by rw [wrapu]; omega
          have uw2 : IntKind.u64.wrap c8 = c8 := by rw [wrapu]; omega
          have h1 := enc_length64 (n := r.toNat) (by omega)
          have h2 := enc_length64 (n := c8.toNat) (by omega)
          have N1 := Lib.hid (rnumber_any r (by omega) (by omega))
          have N2 := Lib.hid (rnumber_any c8 (by omega) (by omega))
          have LQ1 := Lib.hid (show ((dotsBs vs ++ enc cl.length ++ dotsOf (cl.take j)).length + (enc r.toNat).length) * 1 ≤ 140737488355328 by omega)
          have LQ2 := Lib.hid (show ((dotsBs vs ++ enc cl.length ++ dotsOf (cl.take j) ++ enc r.toNat).length + (enc c8.toNat).length) * 1 ≤ 140737488355328 by simp only [List.length_append] at hLQ ⊢; omega)
          have P0 := Lib.hid q0
          have P1 := Lib.hid q1
          clear hdl hel hl0 hpre hLQ h1 h2 a1 a2 a3 a4 q0 q1
          have hdw := below_drew (Below.refl wr.heap.size wr)
          have HO := Lib.hid (Kd.R_below HO.out hdw)
          have GB := Lib.hid (blk_below GB.out hdw)
          have KB := Lib.hid (below_step KB.out hdw)
          clear hdw
          have s0 := cell_below P0.out KB.out
          have s1 := cell_below P1.out KB.out
          go_upto_region 9 with (fail)
          go_region_held3 (fun w' => w'.cell? (ad.add (j * 2)) = some (.int .i64 r) ∧ w'.cell? ⟨(ad.add (j * 2)).block, (ad.add (j * 2)).off + 1, none⟩ = some (.int .i64 c8)) (refine ⟨?_, ?_⟩ <;> assumption) (first | (go_at_call 29; (with_reducible refine (N1.out _).mono ?_); rintro en w9 ⟨v1, rfl, hr, hb⟩; obtain ⟨A1, c1, rfl, _, hC⟩ := Kd.R_reads hr; have HO := Lib.hid (Kd.R_below HO.out hb); have GB := Lib.hid (blk_below GB.out hb); have KB := Lib.hid (below_step KB.out hb); have C1 := Lib.hid hC; have s0 := cell_below P0.out KB.out; have s1 := cell_below P1.out KB.out; clear hr hb hC) | (go_at_call 29; (with_reducible refine (N2.out _).mono ?_); rintro en w9 ⟨v1, rfl, hr, hb⟩; obtain ⟨A1, c1, rfl, _, hC⟩ := Kd.R_reads hr; have HO := Lib.hid (Kd.R_below HO.out hb); have GB := Lib.hid (blk_below GB.out hb); have KB := Lib.hid (below_step KB.out hb); have C1 := Lib.hid hC; have s0 := cell_below P0.out KB.out; have s1 := cell_below P1.out KB.out; clear hr hb hC) | (refine Kd.R_append_rows_step k8 (w0 := w) w.heap.size (by rfl) (.tmp 29) (.tmp 36) 24 5 (.int .u8 0) 1 rfl Try.underlying24 info8 rfl (by decide) (by omega) u3 (dotsBs vs ++ enc cl.length ++ dotsOf (cl.take j)) (enc r.toNat) _ _ _ (fun q => w.heap.size ≤ q ∧ q ≠ gL) (fun _ => False) rfl rfl HO.out C1.out (fun _ _ h => h) (fun _ h => h.elim) (fun q hq => ⟨Nat.le_trans KB.out.size hq, Nat.ne_of_gt (Nat.lt_of_lt_of_le (blk_lt GB.out) hq)⟩) KB.out KB.out.size LQ1.out ?_; intro v7 w7 ho hb hg_ hat; have GB := Lib.hid (blk_grown GB.out hg_ (fun e => (HO.out.1 gL e.symm).2 rfl)); have HO := Lib.hid ho; have KB := Lib.hid hb; clear ho hb hg_ hat; have s0 := cell_below P0.out KB.out; have s1 := cell_below P1.out KB.out) | (refine Kd.R_append_rows_step k8 (w0 := w) w.heap.size (by rfl) (.tmp 37) (.tmp 44) 24 5 (.int .u8 0) 1 rfl Try.underlying24 info8 rfl (by decide) (by omega) _ (dotsBs vs ++ enc cl.length ++ dotsOf (cl.take j) ++ enc r.toNat) (enc c8.toNat) _ _ _ (fun q => w.heap.size ≤ q ∧ q ≠ gL) (fun _ => False) rfl rfl HO.out C1.out (fun _ _ h => h) (fun _ h => h.elim) (fun q hq => ⟨Nat.le_trans KB.out.size hq, Nat.ne_of_gt (Nat.lt_of_lt_of_le (blk_lt GB.out) hq)⟩) KB.out KB.out.size LQ2.out ?_; intro v7 w7 ho hb hg_ hat; have GB := Lib.hid (blk_grown GB.out hg_ (fun e => (HO.out.1 gL e.symm).2 rfl)); have HO := Lib.hid ho; have KB := Lib.hid hb; clear ho hb hg_ hat; have s0 := cell_below P0.out KB.out; have s1 := cell_below P1.out KB.out))
          go_wp2
          go_roundw
          case rel => exact ⟨j + 1, by omega, by go_num, by rw [DT.out]; unfold dotB; simpa only [List.append_assoc] using HO.out, GB.out, KB.out⟩
          case measure => simp [intOf]; omega
        · obtain rfl : j = cl.length := by omega
          rw [List.take_length] at HO
          go_wp2
          go_roundw
          case rel => exact ⟨2, by go_num, GB.out, KB.out, .inr (.inr ⟨rfl, by have := HO.out; simpa only [ctxBs, dotsBs, List.nil_append, List.append_assoc] using this⟩)⟩
          case measure => simp [intOf]
    · have HO := Lib.hid hO
      clear hO
      go_wp2
      go_ret
      exact ⟨_, rfl, Kd.R_mono HO.out (fun k hk => hk.1), KB.out⟩
/-- What Context returns: the bytes, the error. -/
def CCx (vs cl : List S36) (B : List Int) (E : Int) : Prop := (¬ CompactOk vs cl ∧ B = [] ∧ E = 2) ∨ (CompactOk vs cl ∧ (65536 < vs.length ∨ 65536 < cl.length) ∧ B = [] ∧ E = 5) ∨ (CompactOk vs cl ∧ vs.length ≤ 65536 ∧ cl.length ≤ 65536 ∧ B = ctxBs vs cl ∧ E = 0)
theorem context_any (Av : Option Addr) (cv : Nat) (vs : List S36) (Ac : Option Addr) (cc : Nat) (cl : List S36) (B : List Int) (E : Int) (w : World) (hv : k36.C w Av vs.length vs) (hc : k36.C w Ac cl.length cl) (hcc : cl.length ≤ cc) (lv : vs.length ≤ 1000000) (lc : cl.length ≤ 1000000) (h : CCx vs cl B E) :
    Calls Try.prog 24 #[.agg #[.slice Av vs.length cv, .slice Ac cl.length cc]] w (MadeT B E w) := by
  rcases h with ⟨h1, rfl, rfl⟩ | ⟨h1, h2, rfl, rfl⟩ | ⟨h1, h2, h3, rfl, rfl⟩
  · exact (context_bad Av cv vs Ac cc cl w hv hc hcc lv lc h1).mono fun _ _ h => made_nil h
  · exact (context_long Av cv vs Ac cc cl w hv hc hcc lv lc h1 h2).mono fun _ _ h => made_nil h
  · exact context_ok Av cv vs Ac cc cl w hv hc hcc h2 h3 h1
end Go.Proofs.Ytfbjbajbjlcjfaa.Cn

/- Layer 17, walks: Copy of the reference. -/
namespace Go.Proofs.Ytfbjbajbjlcjfaa.Cn
open Go Go.RowKit Go.Proofs Go.Proofs.Ytfbjbajbjlcjfaa.Vn Go.Proofs.Ytfbjbajbjlcjfaa.Kit Go.Proofs.Ytfbjbajbjlcjfaa.PCanonStates Go.Proofs.YtfbjbajbjlcjfaaW.PrintWords
set_option linter.unusedSimpArgs false
set_option linter.unusedVariables false

set_option maxHeartbeats 2000000 in
theorem rcopy_any (A : Option Addr) (c : Nat) (xs : List S38) (w : World) (hx : k38.C w A xs.length xs) (hl : xs.length ≤ 1000000) :
    Calls Try.prog 13 #[.slice A xs.length c] w fun e w' => ∃ v, e = .returned v ∧ k38.R 38 w' w.heap.size (fun _ => True) v xs ∧ Below w.heap.size w w' := by
  have HX := Lib.hid hx
  have HL := Lib.hid hl
  go_enter Try.func13, Try.ntmps13
  go_wp2_with (refine Kd.R_append_rows k38 (w0 := w) w.heap.size rfl (.const (.slice none 0 0)) (.tmp 3) 23 38 (.agg #[.int .i64 0, .int .i64 0, .int .i64 0, .int .i64 0, .int .i64 0, .int .i32 0]) 48 rfl Try.underlying23 info38 rfl (by decide) (by omega) (.slice none 0 0) [] xs A xs.length c (fun _ => True) (fun _ => False) rfl rfl (Kd.R_nil _ _ _ _ _) HX.out (fun x cs h => by obtain rfl := k38_open h; exact k38_mkM _ _ _ x) (fun _ h => h.elim) (fun _ _ => trivial) (Below.refl _ _) (Nat.le_refl _) (by have := HL.out; simp only [List.length_nil]; omega) ?_; intro v1 w1 ho hb hg hat)
  go_wp2
  go_ret
  exact ⟨_, rfl, ho, hb⟩
end Go.Proofs.Ytfbjbajbjlcjfaa.Cn

/- Layer 17: the contracts of the package's functions and of some of the laws' helpers, as the printed texts call them. -/
namespace Go.Proofs.Ytfbjbajbjlcjfaa.PCanonStates
open Go Go.RowKit Go.Proofs Go.Proofs.Ytfbjbajbjlcjfaa.Vn Go.Proofs.Ytfbjbajbjlcjfaa.Kit Go.Proofs.Ytfbjbajbjlcjfaa.Cn Go.Proofs.YtfbjbajbjlcjfaaW.PrintWords
set_option linter.unusedSimpArgs false
set_option linter.unusedVariables false

instance (xs : List S38) : Decidable (StoreOk xs) :=
  decidable_of_iff ((∀ x ∈ xs, okNode x) ∧ ∀ j, j < xs.length - 1 → before (xs.getD j z38).f0 (xs.getD (j + 1) z38).f0)
    ⟨fun h => ⟨fun j hj => h.1 _ (by rw [List.getD_eq_getElem?_getD, List.getElem?_eq_getElem hj]; exact List.getElem_mem hj), fun j hj => h.2 j (by omega)⟩,
     fun h => ⟨((storeOk_iff xs).1 h).1, fun j hj => h.2 j (by omega)⟩⟩
instance (ds : List S36) : Decidable (Inc ds) :=
  decidable_of_iff (∀ j, j < ds.length - 1 → before (ds.getD j z36) (ds.getD (j + 1) z36)) ⟨fun h j hj => h j (by omega), fun h j hj => h j (by omega)⟩
instance (ds : List S36) : Decidable (VecOk ds) :=
  decidable_of_iff ((∀ j, j < ds.length - 1 → (ds.getD j z36).f0 < (ds.getD (j + 1) z36).f0) ∧ ∀ x ∈ ds, okDot x.f0 x.f1) ⟨fun h => ⟨fun j hj => h.1 j (by omega), h.2⟩, fun h => ⟨fun j hj => h.1 j (by omega), h.2⟩⟩
instance (vs cl : List S36) : Decidable (CtxOk vs cl) := by unfold CtxOk; infer_instance
instance (vs cl : List S36) : Decidable (CompactOk vs cl) := by unfold CompactOk; infer_instance
def cenP (xs : List S38) : List Int × Int := if StoreOk xs then (if xs.length ≤ 65536 then (canonBs xs, 0) else ([], 5)) else ([], 2)
theorem cenP_is (xs : List S38) : CEn xs (cenP xs).1 (cenP xs).2 := by
  unfold cenP
  by_cases h : StoreOk xs
  · rw [if_pos h]
    by_cases q : xs.length ≤ 65536
    · rw [if_pos q]; exact .inr (.inr ⟨h, q, rfl, rfl⟩)
    · rw [if_neg q]; exact .inr (.inl ⟨h, by omega, rfl, rfl⟩)
  · rw [if_neg h]; exact .inl ⟨h, rfl, rfl⟩
def ccxP (vs cl : List S36) : List Int × Int := if CompactOk vs cl then (if vs.length ≤ 65536 ∧ cl.length ≤ 65536 then (ctxBs vs cl, 0) else ([], 5)) else ([], 2)
theorem ccxP_is (vs cl : List S36) : CCx vs cl (ccxP vs cl).1 (ccxP vs cl).2 := by
  unfold ccxP
  by_cases h : CompactOk vs cl
  · rw [if_pos h]
    by_cases q : vs.length ≤ 65536 ∧ cl.length ≤ 65536
    · rw [if_pos q]; exact .inr (.inr ⟨h, q.1, q.2, rfl, rfl⟩)
    · rw [if_neg q]; exact .inr (.inl ⟨h, by omega, rfl, rfl⟩)
  · rw [if_neg h]; exact .inl ⟨h, rfl, rfl⟩
def canon_Encode.f (l0 : List S38) : Option (List Int × Int) := if l0.length ≤ 1000000 then some (cenP l0) else none
def canon_Append.f (l0 : List Int) (l1 : List S38) : Option (List Int × Int) := if l0.length ≤ 1000000 ∧ l1.length ≤ 1000000 then some (if (cenP l1).2 = 0 then l0 ++ (cenP l1).1 else [], (cenP l1).2) else none
def canon_Size.f (l0 : List S38) : Option (Int × Int) := if l0.length ≤ 1000000 then some (((cenP l0).1.length : Int), (cenP l0).2) else none
def canon_Context.f (l0_0 l0_1 : List S36) : Option (List Int × Int) := if l0_0.length ≤ 1000000 ∧ l0_1.length ≤ 1000000 then some (ccxP l0_0 l0_1) else none
def redpencilref14_Copy.f (l0 : List S38) : Option (List S38) := if l0.length ≤ 1000000 then some l0 else none
def redpencilref17_Context.f (l0_0 l0_1 : List S36) : Option (List Int) := if l0_0.length ≤ 65536 ∧ l0_1.length ≤ 65536 ∧ (∀ x ∈ l0_0, okDot x.f0 x.f1) ∧ (∀ x ∈ l0_1, okDot x.f0 x.f1) then some (ctxBs l0_0 l0_1) else none
theorem opt_if {α : Type} {p : Prop} [Decidable p] {a b : α} (h : (if p then some a else none) = some b) : p ∧ a = b := by
  split at h
  · exact ⟨‹_›, Option.some.inj h⟩
  · cases h
theorem canon_Encode.calls (A0 : Option Addr) (c0 : Nat) (l0 : List S38) (r1 : List Int) (r2 : Int) (w : World) (hr0 : Kd.C k38 w A0 l0.length l0) (hc0 : l0.length ≤ c0) (h : canon_Encode.f l0 = some (r1, r2)) :
    Calls Try.prog 23 #[.slice A0 l0.length c0] w fun e w' => ∃ v0_ : Value, e = .returned (.tuple #[v0_, .int .i64 r2]) ∧ Kd.R (Kd.int .u8) 5 w' w.heap.size (fun _ => True) v0_ r1 ∧ Below w.heap.size w w' := by
  obtain ⟨hl, h⟩ := opt_if h
  have hc := cenP_is l0
  rw [h] at hc
  refine (cencode_any A0 c0 l0 r1 r2 w hr0 hc0 hl hc).mono ?_
  rintro e w' ⟨v, rfl, hr, hb⟩
  exact ⟨v, rfl, Kd.R_mono hr (fun _ _ => trivial), hb⟩
theorem canon_Append.calls (A0 : Option Addr) (c0 : Nat) (l0 : List Int) (A1 : Option Addr) (c1 : Nat) (l1 : List S38) (r1 : List Int) (r2 : Int) (w : World) (hr0 : Kd.C (Kd.int .u8) w A0 l0.length l0) (hc0 : l0.length ≤ c0) (hr1 : Kd.C k38 w A1 l1.length l1) (hc1 : l1.length ≤ c1) (h : canon_Append.f l0 l1 = some (r1, r2)) :
    Calls Try.prog 28 #[.slice A0 l0.length c0, .slice A1 l1.length c1] w fun e w' => ∃ v0_ : Value, e = .returned (.tuple #[v0_, .int .i64 r2]) ∧ Kd.R (Kd.int .u8) 5 w' w.heap.size (fun _ => True) v0_ r1 ∧ Below w.heap.size w w' := by
  obtain ⟨hl, h⟩ := opt_if h
  injection h with h1 h2
  subst h1 h2
  refine (cappend_any A0 c0 l0 A1 c1 l1 _ _ w hr0 hl.1 hr1 hc1 hl.2 (cenP_is l1)).mono ?_
  rintro e w' ⟨v, rfl, hr, hb⟩
  exact ⟨v, rfl, Kd.R_mono hr (fun _ _ => trivial), hb⟩
theorem canon_Size.calls (A0 : Option Addr) (c0 : Nat) (l0 : List S38) (r1 : Int) (r2 : Int) (w : World) (hr0 : Kd.C k38 w A0 l0.length l0) (hc0 : l0.length ≤ c0) (h : canon_Size.f l0 = some (r1, r2)) :
    Calls Try.prog 22 #[.slice A0 l0.length c0] w fun e w' => e = .returned (.tuple #[.int .i64 r1, .int .i64 r2]) ∧ Below w.heap.size w w' := by
  obtain ⟨hl, h⟩ := opt_if h
  injection h with h1 h2
  subst h1 h2
  exact csize_any A0 c0 l0 _ _ w hr0 hc0 hl (cenP_is l0)
theorem canon_Context.calls (A0_0 : Option Addr) (c0_0 : Nat) (l0_0 : List S36) (A0_1 : Option Addr) (c0_1 : Nat) (l0_1 : List S36) (r1 : List Int) (r2 : Int) (w : World) (hr0_0 : Kd.C k36 w A0_0 l0_0.length l0_0) (hc0_0 : l0_0.length ≤ c0_0) (hr0_1 : Kd.C k36 w A0_1 l0_1.length l0_1) (hc0_1 : l0_1.length ≤ c0_1) (h : canon_Context.f l0_0 l0_1 = some (r1, r2)) :
    Calls Try.prog 24 #[.agg #[.slice A0_0 l0_0.length c0_0, .slice A0_1 l0_1.length c0_1]] w fun e w' => ∃ v0_ : Value, e = .returned (.tuple #[v0_, .int .i64 r2]) ∧ Kd.R (Kd.int .u8) 5 w' w.heap.size (fun _ => True) v0_ r1 ∧ Below w.heap.size w w' := by
  obtain ⟨hl, h⟩ := opt_if h
  have hc := ccxP_is l0_0 l0_1
  rw [h] at hc
  refine (context_any A0_0 c0_0 l0_0 A0_1 c0_1 l0_1 r1 r2 w hr0_0 hr0_1 hc0_1 hl.1 hl.2 hc).mono ?_
  rintro e w' ⟨v, rfl, hr, hb⟩
  exact ⟨v, rfl, Kd.R_mono hr (fun _ _ => trivial), hb⟩
theorem redpencilref14_Copy.calls (A0 : Option Addr) (c0 : Nat) (l0 : List S38) (r : List S38) (w : World) (hr0 : Kd.C k38 w A0 l0.length l0) (hc0 : l0.length ≤ c0) (h : redpencilref14_Copy.f l0 = some r) :
    Calls Try.prog 13 #[.slice A0 l0.length c0] w fun e w' => ∃ v0_ : Value, e = .returned v0_ ∧ Kd.R k38 38 w' w.heap.size (fun _ => True) v0_ r ∧ Below w.heap.size w w' := by
  obtain ⟨hl, h⟩ := opt_if h
  subst h
  exact rcopy_any A0 c0 l0 w hr0 hl
theorem redpencilref17_Context.calls (A0_0 : Option Addr) (c0_0 : Nat) (l0_0 : List S36) (A0_1 : Option Addr) (c0_1 : Nat) (l0_1 : List S36) (r : List Int) (w : World) (hr0_0 : Kd.C k36 w A0_0 l0_0.length l0_0) (hc0_0 : l0_0.length ≤ c0_0) (hr0_1 : Kd.C k36 w A0_1 l0_1.length l0_1) (hc0_1 : l0_1.length ≤ c0_1) (h : redpencilref17_Context.f l0_0 l0_1 = some r) :
    Calls Try.prog 20 #[.agg #[.slice A0_0 l0_0.length c0_0, .slice A0_1 l0_1.length c0_1]] w fun e w' => ∃ v0_ : Value, e = .returned v0_ ∧ Kd.R (Kd.int .u8) 5 w' w.heap.size (fun _ => True) v0_ r ∧ Below w.heap.size w w' := by
  obtain ⟨hl, h⟩ := opt_if h
  subst h
  refine (rcontext_any A0_0 c0_0 l0_0 A0_1 c0_1 l0_1 w hr0_0 hr0_1 hl.1 hl.2.1 hl.2.2.1 hl.2.2.2).mono ?_
  rintro e w' ⟨v, rfl, hr, hb⟩
  exact ⟨v, rfl, Kd.R_mono hr (fun _ _ => trivial), hb⟩
end Go.Proofs.Ytfbjbajbjlcjfaa.PCanonStates
