/- The examples of layer 22's chapter: known answers true; and the law of new counters and of nil ones. -/
import Derived.Test.YtnkblfokfmbbhaaRn
namespace Go.Proofs.Ytnkblfokfmbbhaa.Al
open Go.RowKit Go.Proofs Go.Proofs.YtnkblfokfmbbhaaW.PrintWords Go.Proofs.Ytnkblfokfmbbhaa.Kit
set_option linter.unusedSimpArgs false
set_option linter.unusedVariables false

structure RK (w0 : World) (g b : Nat) (l e : Int) (w : World) : Prop where
  rs : Rs w g b 3 l e 5
  bel : Below w0.heap.size w0 w
  gw : w0.heap.size ≤ g
  bw : w0.heap.size ≤ b
structure RK2 (w0 : World) (g b : Nat) (l e : Int) (g2 b2 : Nat) (l2 e2 : Int) (w : World) : Prop where
  one : RK w0 g b l e w
  two : RK w0 g2 b2 l2 e2 w
  n1 : b2 ≠ g
  n2 : b2 ≠ b
  n3 : b ≠ g2
theorem Rs.grown {w w1 : World} {g b c : Nat} {r l e s : Int} (h : Rs w g b r l e s) (hg : w.grownBy w1 (some c)) (h1 : c ≠ g) (h2 : c ≠ b) : Rs w1 g b r l e s :=
  ⟨blk_grown h.own hg (by intro q; injection q with q; exact h1 q.symm), h.al.grown hg (by intro q; injection q with q; exact h2 q.symm), h.ne⟩
section
variable {w0 w w1 : World} {g b g2 b2 : Nat} {l e l2 e2 l' e' : Int}
theorem RK.below (h : RK w0 g b l e w) (hb : Below w.heap.size w w1) : RK w0 g b l e w1 := ⟨h.rs.below hb, below_step h.bel hb, h.gw, h.bw⟩
theorem RK.step (h : RK w0 g b l e w) (hr : Rs w1 g b 3 l' e' 5) (hg : w.grownBy w1 (some b)) : RK w0 g b l' e' w1 :=
  ⟨hr, grown_below h.bel h.bel.size hg (fun k q => by injection q with q; have := h.bw; omega), h.gw, h.bw⟩
theorem RK2.below (h : RK2 w0 g b l e g2 b2 l2 e2 w) (hb : Below w.heap.size w w1) : RK2 w0 g b l e g2 b2 l2 e2 w1 := ⟨h.one.below hb, h.two.below hb, h.n1, h.n2, h.n3⟩
theorem RK2.step1 (h : RK2 w0 g b l e g2 b2 l2 e2 w) (hr : Rs w1 g b 3 l' e' 5) (hg : w.grownBy w1 (some b)) : RK2 w0 g b l' e' g2 b2 l2 e2 w1 :=
  ⟨h.one.step hr hg, ⟨h.two.rs.grown hg h.n3 h.n2.symm, (h.one.step hr hg).bel, h.two.gw, h.two.bw⟩, h.n1, h.n2, h.n3⟩
theorem RK2.step2 (h : RK2 w0 g b l e g2 b2 l2 e2 w) (hr : Rs w1 g2 b2 3 l' e' 5) (hg : w.grownBy w1 (some b2)) : RK2 w0 g b l e g2 b2 l' e' w1 :=
  ⟨⟨h.one.rs.grown hg h.n1 h.n2, (h.two.step hr hg).bel, h.one.gw, h.one.bw⟩, h.two.step hr hg, h.n1, h.n2, h.n3⟩
theorem RK2.init (h : RK w0 g b l e w) (hg : w.heap.size ≤ g2) (hb : w.heap.size ≤ b2) (hr : Rs w1 g2 b2 3 l2 e2 5) (h1 : Below w.heap.size w w1) : RK2 w0 g b l e g2 b2 l2 e2 w1 := by
  have q1 := h.rs.lt
  have q2 := h.rs.al.lt
  have q3 := h.bel.size
  exact ⟨h.below h1, ⟨hr, below_step h.bel h1, by omega, by omega⟩, by omega, by omega, by omega⟩
end
theorem ROK {l e : Int} (h1 : 0 ≤ l) (h2 : l ≤ e) (h3 : e ≤ 4294967295) : RsOk 3 l e 5 := ⟨rfl, by decide, by decide, h1, h2, h3, rfl, by decide, by decide⟩
theorem HV1 : rvalid 3 10 5 = true := rfl
theorem HV2 : rvalid 3 4294967294 5 = true := rfl
theorem C_lit2 (W : World) (x y x2 y2 : Int) : d32.C (W.alloc (.cells #[.int .i64 x, .int .i64 y, .int .i64 x2, .int .i64 y2] 34 (0, 0))) (some ⟨W.heap.size, 0, none⟩) 2 [(x, y), (x2, y2)] := by
  refine ⟨rfl, by omega, fun _ => ⟨_, rfl, fun j p hj => ?_⟩⟩
  rcases j with _ | _ | j
  · have hp : (x, y) = p := by simpa using hj
    subst hp
    refine ⟨[.int .i64 x, .int .i64 y], rfl, ⟨[.int .i64 x], [.int .i64 y], rfl, rfl, rfl⟩, fun i u hu => ?_⟩
    rw [add_plain, blk_cell (blk_new W _)]
    rcases i with _ | _ | i
    · simpa [d32, Kd.pair, Kd.int, Kd.scalar] using hu
    · simpa [d32, Kd.pair, Kd.int, Kd.scalar] using hu
    · simp at hu
  · have hp : (x2, y2) = p := by simpa using hj
    subst hp
    refine ⟨[.int .i64 x2, .int .i64 y2], rfl, ⟨[.int .i64 x2], [.int .i64 y2], rfl, rfl, rfl⟩, fun i u hu => ?_⟩
    rw [add_plain, blk_cell (blk_new W _)]
    rcases i with _ | _ | i
    · simpa [d32, Kd.pair, Kd.int, Kd.scalar] using hu
    · simpa [d32, Kd.pair, Kd.int, Kd.scalar] using hu
    · simp at hu
  · simp at hj

theorem nexts_none (g b : Nat) (r l e s n no : Int) (w : World) (ok : RsOk r l e s) (h : Rs w g b r l e s) (h1 : no = nx l e n) (h3 : nxN l e n = 0) :
    Calls Try.prog 21 #[.pointer (some ⟨g, 0, none⟩), .int .i64 n, .slice none 0 0, .int .i64 no] w (TrueP w) :=
  nexts_ok g b r l e s n no none 0 [] w ok h h1 (C_nil _) (by rw [h3]; rfl)
theorem nexts_two (g b : Nat) (r l e s x y x2 y2 : Int) (w : World) (ok : RsOk r l e s) (h : Rs w g b r l e s) (h1 : 0 = nx l e 2) (h3 : [(x, y), (x2, y2)] = dots r l (nxN l e 2)) :
    Calls Try.prog 21 #[.pointer (some ⟨g, 0, none⟩), .int .i64 2, .slice (some ⟨w.heap.size, 0, none⟩) 2 2, .int .i64 0] (w.alloc (.cells #[.int .i64 x, .int .i64 y, .int .i64 x2, .int .i64 y2] 34)) (TrueP (w.alloc (.cells #[.int .i64 x, .int .i64 y, .int .i64 x2, .int .i64 y2] 34))) :=
  nexts_ok g b r l e s 2 0 _ 2 [(x, y), (x2, y2)] _ ok (h.below (below_alloc (Below.refl _ _) _)) h1 (C_lit2 _ x y x2 y2) h3
theorem rrnew_no (r l s : Int) (w : World) (h : rvalid r l s = false) : Calls Try.prog 17 #[.int .i64 r, .int .i64 l, .int .i64 s] w fun en w' => en = .returned (.tuple #[.pointer none, .int .i64 2]) ∧ Below w.heap.size w w' :=
  (rrnew_any r l s w).mono fun en w' hp => by
    rcases hp with ⟨q, _⟩ | ⟨_, q⟩
    · rw [h] at q; cases q
    · exact q
theorem rrnew_yes (r l s : Int) (w : World) (h : rvalid r l s = true) : Calls Try.prog 17 #[.int .i64 r, .int .i64 l, .int .i64 s] w fun en w' => ∃ g, en = .returned (.tuple #[.pointer (some ⟨g, 0, none⟩), .int .i64 0]) ∧ w.heap.size ≤ g ∧ Rr w' g r l l s ∧ Below w.heap.size w w' :=
  (rrnew_any r l s w).mono fun en w' hp => by
    rcases hp with ⟨_, q⟩ | ⟨q, _⟩
    · exact q
    · rw [h] at q; cases q
set_option maxRecDepth 100000 in
set_option maxHeartbeats 2000000 in
theorem known_a (w : World) : Calls Try.prog 8 #[] w (TrueP w) := by
  go_enter Try.func8, Try.ntmps8
  go_wp2_with (first | (go_at_call 9; ((with_reducible refine (rsnew_yes 3 10 5 _ HV1).mono ?_); rintro en w1 ⟨g, b, rfl, hg, hb, HR, hb1⟩; have K := Lib.hid (RK.mk HR hb1 hg hb); clear hg hb HR hb1)) | (go_at_call 9; ((with_reducible refine (rsnew_yes 3 4294967294 5 _ HV2).mono ?_); rintro en w1 ⟨g2, b2, rfl, hg, hb, HR, hb1⟩; have L := Lib.hid (RK2.init K.out hg hb HR hb1); clear K hg hb HR hb1)) | (go_at_call 14; ((with_reducible refine (used_any g b 3 _ _ 5 _ rfl K.out.rs).mono ?_); rintro en w1 ⟨rfl, rfl⟩)) | (go_at_call 15; ((with_reducible refine (reserved_any g b 3 _ _ 5 _ rfl K.out.rs).mono ?_); rintro en w1 ⟨rfl, rfl⟩)) | (go_at_call 21; ((with_reducible refine (nexts_none g b 3 _ _ 5 _ _ _ (ROK (by decide) (by decide) (by decide)) K.out.rs (by decide) (by decide)).mono ?_); rintro en w1 ⟨rfl, hb1⟩; have K := Lib.hid (K.out.below hb1); clear hb1)) | (go_at_call 12; ((with_reducible refine (needs_ok g b 3 _ _ 5 _ _ _ _ (ROK (by decide) (by decide) (by decide)) K.out.rs (by decide) (by decide)).mono ?_); rintro en w1 ⟨rfl, hb1⟩; have K := Lib.hid (K.out.below hb1); clear hb1)) | (go_at_call 10; ((with_reducible refine (grant_any g b 3 _ _ 5 _ _ (ROK (by decide) (by decide) (by decide)) K.out.rs).mono ?_); rintro en w1 ⟨rfl, HR1, HG1⟩; simp [grantEnd] at HR1; simp [grantE]; have K := Lib.hid (K.out.step HR1 HG1); clear HR1 HG1)) | (go_at_call 13; ((with_reducible refine (use_any g b 3 _ _ 5 _ _ (ROK (by decide) (by decide) (by decide)) K.out.rs).mono ?_); rintro en w1 ⟨rfl, HR1, HG1⟩; simp [useL, nx, chk] at HR1; simp [nx, chk]; have K := Lib.hid (K.out.step HR1 HG1); clear HR1 HG1)) | (go_at_call 14; ((with_reducible refine (used_any g2 b2 3 _ _ 5 _ rfl L.out.two.rs).mono ?_); rintro en w1 ⟨rfl, rfl⟩)) | (go_at_call 15; ((with_reducible refine (reserved_any g2 b2 3 _ _ 5 _ rfl L.out.two.rs).mono ?_); rintro en w1 ⟨rfl, rfl⟩)) | (go_at_call 21; ((with_reducible refine (nexts_none g2 b2 3 _ _ 5 _ _ _ (ROK (by decide) (by decide) (by decide)) L.out.two.rs (by decide) (by decide)).mono ?_); rintro en w1 ⟨rfl, hb1⟩; have L := Lib.hid (L.out.below hb1); clear hb1)) | (go_at_call 12; ((with_reducible refine (needs_ok g2 b2 3 _ _ 5 _ _ _ _ (ROK (by decide) (by decide) (by decide)) L.out.two.rs (by decide) (by decide)).mono ?_); rintro en w1 ⟨rfl, hb1⟩; have L := Lib.hid (L.out.below hb1); clear hb1)) | (go_at_call 10; ((with_reducible refine (grant_any g2 b2 3 _ _ 5 _ _ (ROK (by decide) (by decide) (by decide)) L.out.two.rs).mono ?_); rintro en w1 ⟨rfl, HR1, HG1⟩; simp [grantEnd] at HR1; simp [grantE]; have L := Lib.hid (L.out.step2 HR1 HG1); clear HR1 HG1)) | (go_at_call 13; ((with_reducible refine (use_any g2 b2 3 _ _ 5 _ _ (ROK (by decide) (by decide) (by decide)) L.out.two.rs).mono ?_); rintro en w1 ⟨rfl, HR1, HG1⟩; simp [useL, nx, chk] at HR1; simp [nx, chk]; have L := Lib.hid (L.out.step2 HR1 HG1); clear HR1 HG1)) | (go_at_call 14; ((with_reducible refine (used_any g b 3 _ _ 5 _ rfl L.out.one.rs).mono ?_); rintro en w1 ⟨rfl, rfl⟩)) | (go_at_call 15; ((with_reducible refine (reserved_any g b 3 _ _ 5 _ rfl L.out.one.rs).mono ?_); rintro en w1 ⟨rfl, rfl⟩)) | (go_at_call 21; ((with_reducible refine (nexts_none g b 3 _ _ 5 _ _ _ (ROK (by decide) (by decide) (by decide)) L.out.one.rs (by decide) (by decide)).mono ?_); rintro en w1 ⟨rfl, hb1⟩; have L := Lib.hid (L.out.below hb1); clear hb1)) | (go_at_call 12; ((with_reducible refine (needs_ok g b 3 _ _ 5 _ _ _ _ (ROK (by decide) (by decide) (by decide)) L.out.one.rs (by decide) (by decide)).mono ?_); rintro en w1 ⟨rfl, hb1⟩; have L := Lib.hid (L.out.below hb1); clear hb1)) | (go_at_call 10; ((with_reducible refine (grant_any g b 3 _ _ 5 _ _ (ROK (by decide) (by decide) (by decide)) L.out.one.rs).mono ?_); rintro en w1 ⟨rfl, HR1, HG1⟩; simp [grantEnd] at HR1; simp [grantE]; have L := Lib.hid (L.out.step1 HR1 HG1); clear HR1 HG1)) | (go_at_call 13; ((with_reducible refine (use_any g b 3 _ _ 5 _ _ (ROK (by decide) (by decide) (by decide)) L.out.one.rs).mono ?_); rintro en w1 ⟨rfl, HR1, HG1⟩; simp [useL, nx, chk] at HR1; simp [nx, chk]; have L := Lib.hid (L.out.step1 HR1 HG1); clear HR1 HG1)) | (go_at_call 21; ((with_reducible refine (nexts_two g b 3 _ _ 5 3 11 3 12 _ (ROK (by decide) (by decide) (by decide)) K.out.rs (by decide) (by decide)).mono ?_); rintro en w1 ⟨rfl, hb1⟩; have K := Lib.hid ((K.out.below (below_alloc (Below.refl _ _) _)).below hb1); clear hb1)) | (go_at_call 18; ((with_reducible refine (fails_ok _ _ _ _ rfl).mono ?_); rintro en w1 ⟨rfl, hb1⟩; have L := Lib.hid (L.out.below hb1); clear hb1)))
  go_ret
  exact ⟨rfl, L.out.two.bel⟩

def LawP (w : World) (en : Ending) (w' : World) : Prop := en = .returned (.bool true) ∧ Below w.heap.size w w'

set_option maxHeartbeats 1000000 in
theorem reserveNew_walk (r l s : Int) (w : World) : Calls Try.prog 5 #[.int .i64 r, .int .i64 l, .int .i64 s] w (LawP w) := by
  cases h : rvalid r l s with
  | false =>
    have HV := Lib.hid h
    clear h
    go_enter Try.func5, Try.ntmps5
    go_wp2_with (first | (go_at_call 17; refine (rrnew_no _ _ _ _ HV.out).mono ?_; rintro en w1 ⟨rfl, hb1⟩; have B := Lib.hid hb1; clear hb1) | (go_at_call 18; refine (fails_ok _ _ _ _ HV.out).mono ?_; rintro en w2 ⟨rfl, hb2⟩; have B2 := Lib.hid hb2; clear hb2) | (go_at_call 8; refine (known_a _).mono ?_; rintro en w3 ⟨rfl, hb3⟩; have B3 := Lib.hid hb3; clear hb3))
    go_ret
    exact ⟨rfl, below_step (below_step B.out B2.out) B3.out⟩
  | true =>
    have HV := Lib.hid h
    clear h
    go_enter Try.func5, Try.ntmps5
    go_wp2_with (first | (go_at_call 17; refine (rrnew_yes _ _ _ _ HV.out).mono ?_; rintro en w1 ⟨x, rfl, hx, HX, hb1⟩; have B := Lib.hid hb1; have X := Lib.hid HX; clear hb1 HX hx) | (go_at_call 9; refine (rsnew_yes _ _ _ _ HV.out).mono ?_; rintro en w2 ⟨g, b, rfl, hg, hb, HR, hb2⟩; have X := Lib.hid (X.out.below hb2); have R := Lib.hid HR; have B2 := Lib.hid (below_step B.out hb2); clear hg hb hb2 HR) | (go_at_call 19; refine (alike_ok g b x r l l s _ (rvalid_ok HV.out).1 R.out X.out).mono ?_; rintro en w3 ⟨rfl, hb3⟩; have B3 := Lib.hid hb3; clear hb3) | (go_at_call 8; refine (known_a _).mono ?_; rintro en w4 ⟨rfl, hb4⟩; have B4 := Lib.hid hb4; clear hb4))
    go_ret
    exact ⟨rfl, below_step (below_step B2.out B3.out) B4.out⟩

structure ZS (w0 : World) (b g : Nat) (w : World) : Prop where
  al : w.heap[b]? = some (.cells #[.pointer none, .int .i64 0] 55 (0, 0))
  bel : Below w0.heap.size w0 w
  row : w.heap[g]? = some (.cells #[.pointer none, .pointer (some ⟨b, 0, none⟩)] 23 (0, 0))
section
variable {w0 w w1 : World} {b g : Nat}
theorem ZS.below (h : ZS w0 b g w) (hb : Below w.heap.size w w1) : ZS w0 b g w1 := ⟨blk_below h.al hb, below_step h.bel hb, blk_below h.row hb⟩
theorem ZS.e0 (h : ZS w0 b g w) : w.cell? ⟨g, 0, none⟩ = some (.pointer none) := (blk_cell h.row 0).trans rfl
theorem ZS.e1 (h : ZS w0 b g w) : w.cell? ⟨g, 1, none⟩ = some (.pointer (some ⟨b, 0, none⟩)) := (blk_cell h.row 1).trans rfl
theorem ZS.zr (h : ZS w0 b g w) (p : Value) (hp : p = .pointer none ∨ p = .pointer (some ⟨b, 0, none⟩)) : Zs w p := by
  rcases hp with hp | hp
  · exact .inl hp
  · exact .inr ⟨b, hp, h.al⟩
end
set_option maxHeartbeats 1000000 in
theorem reserveNil_walk (n : Int) (w : World) : Calls Try.prog 7 #[.int .i64 n] w (LawP w) := by
  go_enter Try.func7, Try.ntmps7
  go_wp2
  go_loopw [9] (fun i wr => ∃ k : Nat, k ≤ 2 ∧ i = .int .i64 k ∧ ZS w w.heap.size (w.heap.size + 1) wr) (fun i _ => (2 - intOf i).toNat)
  case atStart =>
    refine ⟨0, by omega, rfl, ?_, ?_, ?_⟩
    · exact blk_alloc (blk_new w _) _
    · exact below_alloc (below_alloc (Below.refl _ _) _) _
    · have := blk_new (w.alloc (.cells #[.pointer none, .int .i64 0] 55)) (.cells #[.pointer none, .pointer (some ⟨w.heap.size, 0, none⟩)] 23)
      simpa using this
  case round =>
    obtain ⟨k, hk, rfl, hz⟩ := hrel
    have e0 := hz.e0
    have e1 := hz.e1
    have Z := Lib.hid hz
    clear hz
    have hk3 : k = 0 ∨ k = 1 ∨ k = 2 := by omega
    rcases hk3 with rfl | rfl | rfl
    · go_wp2_with (first | (go_at_call 21; refine (nexts_zs n _ _ (Z.out.zr _ (.inl rfl))).mono ?_; rintro en w1 ⟨rfl, hb1⟩; have Z := Lib.hid (Z.out.below hb1); clear hb1) | (go_at_call 12; refine (needs_zs n _ _ (Z.out.zr _ (.inl rfl))).mono ?_; rintro en w1 ⟨rfl, hb1⟩; have Z := Lib.hid (Z.out.below hb1); clear hb1) | (go_at_call 13; refine (use_zs _ _ (Z.out.zr _ (.inl rfl)) n).mono ?_; rintro en w1 ⟨rfl, rfl⟩) | (go_at_call 10; refine (grant_zs _ _ (Z.out.zr _ (.inl rfl)) n).mono ?_; rintro en w1 ⟨rfl, rfl⟩) | (go_at_call 26; refine (rsreplica_zs _ _ (Z.out.zr _ (.inl rfl))).mono ?_; rintro en w1 ⟨rfl, rfl⟩) | (go_at_call 14; refine (used_zs _ _ (Z.out.zr _ (.inl rfl))).mono ?_; rintro en w1 ⟨rfl, rfl⟩) | (go_at_call 15; refine (reserved_zs _ _ (Z.out.zr _ (.inl rfl))).mono ?_; rintro en w1 ⟨rfl, rfl⟩) | (go_at_call 25; refine (rscopy_zs _ _ (Z.out.zr _ (.inl rfl))).mono ?_; rintro en w1 ⟨rfl, rfl⟩))
      go_roundw
      case rel => exact ⟨1, by omega, rfl, Z.out⟩
      case measure => simp [intOf]
    · go_wp2_with (first | (go_at_call 21; refine (nexts_zs n _ _ (Z.out.zr _ (.inr rfl))).mono ?_; rintro en w1 ⟨rfl, hb1⟩; have Z := Lib.hid (Z.out.below hb1); clear hb1) | (go_at_call 12; refine (needs_zs n _ _ (Z.out.zr _ (.inr rfl))).mono ?_; rintro en w1 ⟨rfl, hb1⟩; have Z := Lib.hid (Z.out.below hb1); clear hb1) | (go_at_call 13; refine (use_zs _ _ (Z.out.zr _ (.inr rfl)) n).mono ?_; rintro en w1 ⟨rfl, rfl⟩) | (go_at_call 10; refine (grant_zs _ _ (Z.out.zr _ (.inr rfl)) n).mono ?_; rintro en w1 ⟨rfl, rfl⟩) | (go_at_call 26; refine (rsreplica_zs _ _ (Z.out.zr _ (.inr rfl))).mono ?_; rintro en w1 ⟨rfl, rfl⟩) | (go_at_call 14; refine (used_zs _ _ (Z.out.zr _ (.inr rfl))).mono ?_; rintro en w1 ⟨rfl, rfl⟩) | (go_at_call 15; refine (reserved_zs _ _ (Z.out.zr _ (.inr rfl))).mono ?_; rintro en w1 ⟨rfl, rfl⟩) | (go_at_call 25; refine (rscopy_zs _ _ (Z.out.zr _ (.inr rfl))).mono ?_; rintro en w1 ⟨rfl, rfl⟩))
      go_roundw
      case rel => exact ⟨2, by omega, rfl, Z.out⟩
      case measure => simp [intOf]
    · go_wp2_with (go_at_call 8; refine (known_a _).mono ?_; rintro en w3 ⟨rfl, hb3⟩; have B3 := Lib.hid hb3; clear hb3)
      go_ret
      exact ⟨rfl, below_step Z.out.bel B3.out⟩
end Go.Proofs.Ytnkblfokfmbbhaa.Al
