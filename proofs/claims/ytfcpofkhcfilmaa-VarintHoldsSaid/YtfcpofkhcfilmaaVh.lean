/- The laws' helpers of layer 1: reads, signed, hears, takes, first, nines, number at literals. -/
import Derived.Test.YtfcpofkhcfilmaaVs
namespace Go.Proofs.Ytfcpofkhcfilmaa.Vn
open Go.RowKit Go.Proofs Go.Proofs.YtfcpofkhcfilmaaW.PrintWords Go.Proofs.Ytfcpofkhcfilmaa.Kit
set_option linter.unusedSimpArgs false
set_option linter.unusedVariables false

/-- The answer is yes, and the reader has read so many. -/
def YesP (g : Nat) (A : Option Addr) (c : Nat) (xs : List Int) (q : Nat) (w : World) (en : Ending) (w' : World) : Prop :=
  en = .returned (.bool true) ∧ Rd w' g A c xs q ∧ Fr w w' (fun i => i = g)
section
variable {g : Nat} {A : Option Addr} {c : Nat} {xs : List Int} {p : Nat}
theorem reads_yes (w : World) (h : Rd w g A c xs p) (hb : Bys xs) (most : Int) {v s e : Int} (hr : RdR (xs.drop p) v s e) (want no : Int) (q : Nat) (hw : nV most v e = want) (hn : nE most v e = no) (hq : p + nS most v s e = q) :
    Calls Try.prog 16 #[.pointer (some ⟨g, 0, none⟩), .int .u64 most, .int .u64 want, .int .i64 no] w (YesP g A c xs q w) := by
  subst hq
  have H := Lib.hid h
  have HB := Lib.hid hb
  have HR := Lib.hid hr
  have HW := Lib.hid (And.intro hw hn)
  clear h hb hr hw hn
  go_enter Try.func16, Try.ntmps16
  go_wp2_with (go_at_call 33; refine (rdnum_any _ H.out HB.out most HR.out).mono ?_; rintro en w1 ⟨rfl, h1, h2⟩; rw [HW.out.1, HW.out.2]; have R := Lib.hid (And.intro h1 h2); clear h1 h2)
  go_ret
  exact ⟨rfl, R.out⟩
theorem signed_yes (w : World) (h : Rd w g A c xs p) (hb : Bys xs) {v s e : Int} (hr : RdR (xs.drop p) v s e) (want no : Int) (q : Nat) (hw : zag v = want) (hn : e = no) (hq : p + s.toNat = q) :
    Calls Try.prog 18 #[.pointer (some ⟨g, 0, none⟩), .int .i64 want, .int .i64 no] w (YesP g A c xs q w) := by
  subst hq
  have H := Lib.hid h
  have HB := Lib.hid hb
  have HR := Lib.hid hr
  have HW := Lib.hid (And.intro hw hn)
  clear h hb hr hw hn
  go_enter Try.func18, Try.ntmps18
  go_wp2_with (go_at_call 42; refine (rdint_any _ H.out HB.out HR.out).mono ?_; rintro en w1 ⟨rfl, h1, h2⟩; rw [HW.out.1, HW.out.2]; have R := Lib.hid (And.intro h1 h2); clear h1 h2)
  go_ret
  exact ⟨rfl, R.out⟩
theorem hears_yes {l : List Int} (hl : xs.drop p = l) (w : World) (h : Rd w g A c xs p) (hb : Bys xs) (most : Int) (hm : most ≤ 9223372036854775807) {v s e : Int} (hr : RdR l v s e) (z : ByteArray) (no : Int) (q : Nat) (hz : strOfNums (hY l v s no) = z) (hn : hE most v s e l.length = no) (hq : p + hS v s no = q) :
    Calls Try.prog 30 #[.pointer (some ⟨g, 0, none⟩), .int .i64 most, .string z, .int .i64 no] w (YesP g A c xs q w) := by
  subst hn
  subst hz
  subst hq
  have H := Lib.hid h
  have HB := Lib.hid hb
  have HR := Lib.hid hr
  have HL := Lib.hid hl
  have HM := Lib.hid hm
  clear h hb hr hl hm
  generalize hE' : hE most v s e l.length = E
  generalize hY' : hY l v s E = ys
  generalize hS' : p + hS v s E = q
  have HE := Lib.hid (And.intro hE' (And.intro hY' hS'))
  clear hE' hY' hS'
  go_enter Try.func30, Try.ntmps30
  go_wp2_with (go_at_call 46; refine (hear_l HL.out _ H.out HB.out most HM.out HR.out).mono ?_; rintro en w1 ⟨v1, rfl, hr, h1, h2⟩; rw [HE.out.1] at h1 hr; rw [HE.out.1]; rw [HE.out.2.1] at hr; rw [HE.out.2.2] at h1; obtain ⟨A1, c1, rfl, _, hC1⟩ := Kd.R_reads hr; have hq := conv8 (c := c1) hC1; have R := Lib.hid (And.intro h1 h2); clear h1 h2 hr hC1)
  go_ret
  exact ⟨rfl, R.out⟩
theorem takes_yes {l : List Int} (hl : xs.drop p = l) (w : World) (h : Rd w g A c xs p) (n : Int) (z : ByteArray) (no : Int) (q : Nat) (hz : strOfNums (tY n l) = z) (hn : tE n l = no) (hq : p + (tY n l).length = q) :
    Calls Try.prog 31 #[.pointer (some ⟨g, 0, none⟩), .int .i64 n, .string z, .int .i64 no] w (YesP g A c xs q w) := by
  subst hn
  subst hz
  subst hq
  have H := Lib.hid h
  have HL := Lib.hid hl
  clear h hl
  generalize hE' : tE n l = E
  generalize hS' : p + (tY n l).length = q
  generalize hY' : tY n l = ys
  have HE := Lib.hid (And.intro hE' (And.intro hY' hS'))
  clear hE' hY' hS'
  go_enter Try.func31, Try.ntmps31
  go_wp2_with (go_at_call 35; refine (raw_l HL.out _ H.out n).mono ?_; rintro en w1 ⟨v1, rfl, hr, h1, h2⟩; rw [HE.out.2.2] at h1; rw [HE.out.1]; rw [HE.out.2.1] at hr; obtain ⟨A1, c1, rfl, _, hC1⟩ := Kd.R_reads hr; have hq := conv8 (c := c1) hC1; have R := Lib.hid (And.intro h1 h2); clear h1 h2 hr hC1)
  go_ret
  exact ⟨rfl, R.out⟩
end
/-- The answer is yes, and nothing of the caller's was written. -/
def YepP (w : World) (en : Ending) (w' : World) : Prop := en = .returned (.bool true) ∧ Below w.heap.size w w'
theorem reads_zd (q : Value) (w : World) (h : Zd w q) (most : Int) : Calls Try.prog 16 #[q, .int .u64 most, .int .u64 0, .int .i64 1] w (YepP w) := by
  have H := Lib.hid h
  clear h
  go_enter Try.func16, Try.ntmps16
  go_wp2_with (go_at_call 33; refine (rdnum_zd _ _ H.out most).mono ?_; rintro en w1 ⟨rfl, rfl⟩)
  go_ret
  exact ⟨rfl, Below.refl _ _⟩
theorem signed_zd (q : Value) (w : World) (h : Zd w q) : Calls Try.prog 18 #[q, .int .i64 0, .int .i64 1] w (YepP w) := by
  have H := Lib.hid h
  clear h
  go_enter Try.func18, Try.ntmps18
  go_wp2_with (go_at_call 42; refine (rdint_zd _ _ H.out).mono ?_; rintro en w1 ⟨rfl, hb⟩)
  go_ret
  exact ⟨rfl, hb⟩
theorem hears_zd (q : Value) (w : World) (h : Zd w q) (most : Int) (z : ByteArray) (hz : strOfNums [] = z) : Calls Try.prog 30 #[q, .int .i64 most, .string z, .int .i64 1] w (YepP w) := by
  have H := Lib.hid h
  clear h
  have hq : ∀ w, (convert 23 9 (.slice none 0 0)).run Try.prog w = .ok (.string z) w := fun w => by rw [← hz]; exact conv8 (A := none) (c := 0) (xs := []) ⟨rfl, by decide, fun h => absurd h (by decide)⟩
  clear hz
  go_enter Try.func30, Try.ntmps30
  go_wp2_with (go_at_call 46; refine (hear_zd _ _ H.out most).mono ?_; rintro en w1 ⟨rfl, rfl⟩)
  go_ret
  exact ⟨rfl, Below.refl _ _⟩
theorem takes_zd (q : Value) (w : World) (h : Zd w q) (most : Int) (z : ByteArray) (hz : strOfNums [] = z) : Calls Try.prog 31 #[q, .int .i64 most, .string z, .int .i64 1] w (YepP w) := by
  have H := Lib.hid h
  clear h
  have hq : ∀ w, (convert 23 9 (.slice none 0 0)).run Try.prog w = .ok (.string z) w := fun w => by rw [← hz]; exact conv8 (A := none) (c := 0) (xs := []) ⟨rfl, by decide, fun h => absurd h (by decide)⟩
  clear hz
  go_enter Try.func31, Try.ntmps31
  go_wp2_with (go_at_call 35; refine (raw_zd _ _ H.out most).mono ?_; rintro en w1 ⟨rfl, rfl⟩)
  go_ret
  exact ⟨rfl, Below.refl _ _⟩

theorem first_any (A : Option Addr) (c : Nat) (xs : List Int) (w : World) (hx : k8.C w A xs.length xs) (hb : Bys xs) (hl : xs.length ≤ 10000000) (no : Int) (hn : no ≠ 0) (hr : RdR xs 0 0 no) :
    Calls Try.prog 19 #[.int .i64 no, .slice A xs.length c] w (YepP w) := by
  have HX := Lib.hid hx
  have HB := Lib.hid hb
  have HL := Lib.hid hl
  have HR := Lib.hid (show RdR (xs.drop 0) 0 0 no from hr)
  have q : nV 18446744073709551615 0 no = 0 ∧ nE 18446744073709551615 0 no = no ∧ 0 + nS 18446744073709551615 0 0 no = 0 := by
    unfold nV nE nS
    exact ⟨if_neg (by omega), if_pos hn, by rw [if_neg (by omega)]⟩
  have Q := Lib.hid q
  clear hx hb hl hr hn q
  go_enter Try.func19, Try.ntmps19
  go_wp2_with (first | (go_at_call 15; refine (new_any A c xs w HX.out HL.out).mono ?_; rintro en w1 ⟨g, A1, c1, rfl, h1, h2, h3, h4⟩; have R := Lib.hid h1; have B := Lib.hid (And.intro h2 h4); clear h1 h2 h3 h4) | (go_at_call 16; refine (reads_yes _ R.out HB.out _ HR.out 0 no 0 Q.out.1 Q.out.2.1 Q.out.2.2).mono ?_; rintro en w2 ⟨rfl, h1, h2⟩; have R2 := Lib.hid h1; have F := Lib.hid h2; clear h1 h2) | (go_at_call 32; refine (at_any _ R2.out).mono ?_; rintro en w3 ⟨rfl, n, rfl⟩))
  go_ret
  exact ⟨rfl, below_alike (F.out.to_below B.out.2 B.out.2.size (fun i e => by subst e; exact B.out.1)) n⟩

theorem lit_C {k : IntKind} (xs : List Int) {n : Nat} {cs : Array Value} (t : TypeId) (hn : xs.length = n) (hcs : cs = (xs.map (fun x => Value.int k x)).toArray) (hl : xs.length ≤ 1000) (W : World) : (Kd.int k).C (W.alloc (.cells cs t)) (some ⟨W.heap.size, 0, none⟩) n xs := by
  subst hn
  subst hcs
  refine ⟨rfl, by omega, fun _ => ⟨_, rfl, fun j p hj => ?_⟩⟩
  refine ⟨[.int k p], rfl, rfl, fun i u hu => ?_⟩
  rw [add_plain, blk_cell (blk_new W _)]
  cases i with
  | zero =>
    have hu : Value.int k p = u := by simpa [Kd.int, Kd.scalar] using hu
    subst hu
    have : j * (Kd.int k).sz = j := by show j * 1 = j; omega
    simp [this, hj]
  | succ i => simp at hu
theorem new_lit (xs : List Int) {n : Nat} {cs : Array Value} (t : TypeId) (hn : xs.length = n) (hcs : cs = (xs.map (fun x => Value.int .u8 x)).toArray) (hl : xs.length ≤ 1000) (w : World) :
    Calls Try.prog 15 #[.slice (some ⟨w.heap.size, 0, none⟩) n n] (w.alloc (.cells cs t)) (NewP xs w) := by
  have hC := lit_C xs t hn hcs hl w
  subst hn
  refine (new_any _ _ xs _ hC (by omega)).mono ?_
  rintro en w' ⟨g, A, c, rfl, h1, h2, h3, h4⟩
  have hb : Below w.heap.size w (w.alloc (.cells cs t)) := below_alloc (Below.refl _ _) _
  exact ⟨g, A, c, rfl, h1, Nat.le_trans hb.size h2, fun ad e hp => Nat.le_trans hb.size (h3 ad e hp), below_step hb h4⟩
theorem first_lit (xs : List Int) {n : Nat} {cs : Array Value} (t : TypeId) (hn : xs.length = n) (hcs : cs = (xs.map (fun x => Value.int .u8 x)).toArray) (hl : xs.length ≤ 1000) (hb : Bys xs) (no : Int) (h0 : no ≠ 0) (hr : RdR xs 0 0 no) (w : World) :
    Calls Try.prog 19 #[.int .i64 no, .slice (some ⟨w.heap.size, 0, none⟩) n n] (w.alloc (.cells cs t)) (YepP w) := by
  have hC := lit_C xs t hn hcs hl w
  subst hn
  refine (first_any _ _ xs _ hC hb (by omega) no h0 hr).mono ?_
  rintro en w' ⟨rfl, h4⟩
  exact ⟨rfl, below_step (below_alloc (Below.refl _ _) _) h4⟩
def ninesL (x : Int) : List Int := [255, 255, 255, 255, 255, 255, 255, 255, 255, x]
theorem nines_any (x : Int) (w : World) : Calls Try.prog 43 #[.int .u8 x] w fun en w' => ∃ A, en = .returned (.slice A 10 10) ∧ k8.C w' A 10 (ninesL x) ∧ Below w.heap.size w w' := by
  have hC : ∀ t, k8.C (w.alloc (.cells #[.int .u8 255, .int .u8 255, .int .u8 255, .int .u8 255, .int .u8 255, .int .u8 255, .int .u8 255, .int .u8 255, .int .u8 255, .int .u8 x] t)) (some ⟨w.heap.size, 0, none⟩) 10 (ninesL x) := fun t => lit_C (ninesL x) t rfl rfl (show 10 ≤ 1000 by decide) w
  have HC := Lib.hid hC
  clear hC
  go_enter Try.func43, Try.ntmps43
  go_wp2
  go_ret
  exact ⟨_, rfl, HC.out _, below_alloc (Below.refl _ _) _⟩
end Go.Proofs.Ytfcpofkhcfilmaa.Vn
