/- Layer 9, plain law: what the printed functions of two nodes and of texts compute. -/
/- Layer 9, plain law: each statement of this layer answers true. -/
import Derived.Test.YtamggklblaigpaaGreatDoorNmc
import Derived.Test.YtamggklblaigpaaGreatDoorPAllx4
import Derived.Test.YtamggklblaigpaaGreatDoorPAllx3
import Derived.Test.YtamggklblaigpaaGreatDoorPAllx5
import Derived.Test.YtamggklblaigpaaGreatDoorPAllx7
import Derived.Test.YtamggklblaigpaaGreatDoorPAllx6
import Derived.Test.YtamggklblaigpaaGreatDoorPAllx8
import Derived.Test.YtamggklblaigpaaGreatDoorPAllx13
import Derived.Test.YtamggklblaigpaaGreatDoorPAllx14
import Derived.Test.YtamggklblaigpaaGreatDoorPAllx15
import Derived.Test.YtamggklblaigpaaGreatDoorPAllx9
namespace Go.Proofs.YtamggklblaigpaaGreatDoor.Nx
open Go Go.RowKit Go.Proofs Go.Proofs.YtamggklblaigpaaGreatDoorW.PrintWords Go.Proofs.YtamggklblaigpaaGreatDoor.PAll Go.Proofs.YtamggklblaigpaaGreatDoor.Dx Go.Proofs.YtamggklblaigpaaGreatDoor.Hx Go.Proofs.YtamggklblaigpaaGreatDoor.Rn
set_option linter.unusedSimpArgs false
set_option linter.unusedVariables false

theorem cmp_int (a b : Int) : cmp_Compare_int.f a b = some (if a < b then -1 else if a > b then 1 else 0) := by
  have e : ∀ x : Int, cmp_isNaN_int.f x = some false := fun x => by unfold cmp_isNaN_int.f; simp
  unfold cmp_Compare_int.f
  rw [e, e, Option.bind_some, Option.bind_some, if_neg (by decide), if_neg (by decide)]
  split
  · rfl
  · split <;> rfl
theorem or_two (k : Nat) (a b : Int) : cmp_Or_int.f (k + 3) [a, b] = some (if a = 0 then b else a) := by
  unfold cmp_Or_int.f
  have e0 : wrap64 (0 + 1) = 1 := by decide +kernel
  have e1 : wrap64 (1 + 1) = 2 := by decide +kernel
  have l2 : (([a, b] : List Int).length : Int) = 2 := rfl
  rw [l2, cmp_Or_int.l0, if_pos (by decide), if_pos (by decide), if_pos (by simp), e0]
  have r0 : rd [a, b] 0 = a := rfl
  have r1 : rd [a, b] 1 = b := rfl
  rw [r0]
  by_cases h : a = 0
  · rw [if_pos h, if_pos h, cmp_Or_int.l0, if_pos (by decide), if_pos (by decide), if_pos (by simp), r1, e1]
    by_cases k0 : b = 0
    · rw [if_pos k0, cmp_Or_int.l0, if_neg (by decide), k0]
    · rw [if_neg k0]
  · rw [if_neg h, if_neg h]
/-- A stands before b, as siblings. -/
def befP (a b : Nd) : Prop := b.t < a.t ∨ (b.t = a.t ∧ (b.c < a.c ∨ (b.c = a.c ∧ b.r < a.r)))
instance (a b : Nd) : Decidable (befP a b) := inferInstanceAs (Decidable (_ ∨ _))
theorem before_f (k : Nat) (a b : Nd) : node_Before.f (k + 3) a.r a.c a.p a.q a.t a.u b.r b.c b.p b.q b.t b.u = some (decide (befP a b)) := by
  unfold node_Before.f dot_Compare.f
  rw [cmp_int, cmp_int, cmp_int, Option.bind_some, Option.bind_some, Option.bind_some, or_two, Option.bind_some, Option.bind_some, or_two, Option.bind_some]
  congr 1
  refine decide_eq_decide.2 ?_
  unfold befP
  repeat' split
  all_goals omega
/-- Two nodes agree. -/
def agr (a b : Nd) : Prop := a.r = b.r ∧ a.c = b.c ∧ a.p = b.p ∧ a.q = b.q ∧ a.t = b.t ∧ (a.u = b.u ∨ a.u = 0 ∨ b.u = 0)
instance (a b : Nd) : Decidable (agr a b) := inferInstanceAs (Decidable (_ ∧ _))
def mrg (a b : Nd) : Nd × Int := if okN a ∧ okN b then (if agr a b then (if b.u = 0 then (b, 0) else (a, 0)) else (zN, 15)) else (zN, 2)
def flat (x : Nd × Int) : Int × Int × Int × Int × Int × Int × Int := (x.1.r, x.1.c, x.1.p, x.1.q, x.1.t, x.1.u, x.2)
theorem nd_ext {a b : Nd} (h1 : a.r = b.r) (h2 : a.c = b.c) (h3 : a.p = b.p) (h4 : a.q = b.q) (h5 : a.t = b.t) (h6 : a.u = b.u) : a = b := by cases a; cases b; simp_all
theorem merge_j1 (k : Nat) (a b : Nd) (x : Bool) : node_Merge.j1 (k + 1) x a.r a.c a.p a.q a.t a.u b.r b.c b.p b.q b.t b.u = some (flat (if x = true then (zN, 15) else if b.u = 0 then (b, 0) else (a, 0))) := by
  rw [node_Merge.j1]
  cases x with
  | true => rw [if_pos rfl, if_pos rfl]; rfl
  | false =>
    rw [if_neg (by decide), if_neg (by decide)]
    unfold node_Dead.f
    rw [Option.bind_some]
    by_cases h : b.u = 0
    · rw [if_pos (by simp [h]), if_pos h]; rfl
    · rw [if_neg (by simp [h]), if_neg h]; rfl
theorem merge_f (k : Nat) (a b : Nd) : node_Merge.f (k + 2) a.r a.c a.p a.q a.t a.u b.r b.c b.p b.q b.t b.u = some (flat (mrg a b)) := by
  have j2 : ∀ x, x = true → node_Merge.j0 (k + 2) x a.r a.c a.p a.q a.t a.u b.r b.c b.p b.q b.t b.u = some (flat (zN, 2)) := fun x hx => by rw [node_Merge.j0, if_pos hx]; rfl
  unfold node_Merge.f
  rw [nvalid_f a (k + 1), Option.bind_some]
  by_cases ha : okN a
  · rw [if_pos (decide_eq_true ha), nvalid_f b (k + 1), Option.bind_some]
    by_cases hb : okN b
    · rw [decide_eq_true hb, node_Merge.j0, if_neg (by decide)]
      unfold node_Kill.f
      rw [Option.bind_some, Option.bind_some]
      have hm : mrg a b = if agr a b then (if b.u = 0 then (b, 0) else (a, 0)) else (zN, 15) := if_pos ⟨ha, hb⟩
      by_cases h5 : a.r = b.r ∧ a.c = b.c ∧ a.p = b.p ∧ a.q = b.q ∧ a.t = b.t
      · obtain ⟨e1, e2, e3, e4, e5⟩ := h5
        rw [if_neg (by simp [e1, e2, e3, e4, e5])]
        by_cases h6 : a.u = b.u
        · rw [if_neg (by simp [e1, e2, e3, e4, e5, h6]), merge_j1, if_neg (by decide), hm, if_pos (show agr a b from ⟨e1, e2, e3, e4, e5, .inl h6⟩)]
        · rw [if_pos (by simp [h6])]
          unfold node_Dead.f
          rw [Option.bind_some]
          by_cases h7 : a.u = 0
          · rw [if_pos (by simp [h7]), merge_j1, if_neg (by decide), hm, if_pos (show agr a b from ⟨e1, e2, e3, e4, e5, .inr (.inl h7)⟩)]
          · rw [if_neg (by simp [h7]), Option.bind_some, merge_j1]
            by_cases h8 : b.u = 0
            · rw [if_neg (by simp [h8]), hm, if_pos (show agr a b from ⟨e1, e2, e3, e4, e5, .inr (.inr h8)⟩)]
            · rw [if_pos (by simp [h8]), hm, if_neg (fun q => q.2.2.2.2.2.elim h6 (fun r => r.elim h7 h8))]
      · rw [if_pos (by
          by_cases q1 : a.r = b.r <;> by_cases q2 : a.c = b.c <;> by_cases q3 : a.p = b.p <;> by_cases q4 : a.q = b.q <;> by_cases q5 : a.t = b.t <;> simp_all), merge_j1, if_pos rfl, hm, if_neg (fun q => h5 ⟨q.1, q.2.1, q.2.2.1, q.2.2.2.1, q.2.2.2.2.1⟩)]
    · rw [decide_eq_false hb, j2 (!false) rfl, show mrg a b = (zN, 2) from if_neg (fun q => hb q.2)]
  · rw [if_neg (by simpa using ha), j2 _ rfl, show mrg a b = (zN, 2) from if_neg (fun q => ha q.1)]
theorem six_eq (a b : Nd) : ((a.r == b.r && (a.c == b.c)) && ((a.p == b.p && (a.q == b.q)) && (a.t == b.t && (a.u == b.u)))) = decide (a = b) := by
  rw [Bool.eq_iff_iff]
  simp only [Bool.and_eq_true, beq_iff_eq, decide_eq_true_eq]
  constructor
  · rintro ⟨⟨h1, h2⟩, ⟨h3, h4⟩, h5, h6⟩
    exact nd_ext h1 h2 h3 h4 h5 h6
  · rintro rfl
    exact ⟨⟨rfl, rfl⟩, ⟨rfl, rfl⟩, rfl, rfl⟩
theorem seven (x : Nd × Int) (n : Nd) (e : Int) : (if ((x.1.r == n.r && (x.1.c == n.c)) && ((x.1.p == n.p && (x.1.q == n.q)) && (x.1.t == n.t && (x.1.u == n.u)))) = true then (some (x.2 == e)) else (some false)) = some (decide (x = (n, e))) := by
  rw [six_eq]
  obtain ⟨m, f⟩ := x
  by_cases h : m = n
  · rw [if_pos (decide_eq_true h)]
    congr 1
    by_cases q : f = e <;> simp [h, q]
  · rw [if_neg (by simpa using h), decide_eq_false (fun q => h (by injection q))]
theorem merges_f (k : Nat) (a b n : Nd) (e : Int) : redpencillaw09_merges.f (k + 2) a.r a.c a.p a.q a.t a.u b.r b.c b.p b.q b.t b.u n.r n.c n.p n.q n.t n.u e = some (decide (mrg a b = (n, e))) := by
  unfold redpencillaw09_merges.f
  rw [merge_f, Option.bind_some]
  exact seven (mrg a b) n e
theorem parses_f (s : ByteArray) (hs : s.size ≤ 1000000) (n : Nd) (e : Int) : redpencillaw09_parses.f s n.r n.c n.p n.q n.t n.u e = some (decide (nodP s = (n, e))) := by
  unfold redpencillaw09_parses.f node_Parse.f
  rw [if_pos hs, Option.bind_some]
  exact seven (nodP s) n e
theorem toL_eq (a b : ByteArray) : a.toList = b.toList ↔ a = b := str_dec a b
end Go.Proofs.YtamggklblaigpaaGreatDoor.Nx

/- Layer 9, plain law: the reference's texts of nodes. -/
namespace Go.Proofs.YtamggklblaigpaaGreatDoor.Nx
open Go Go.RowKit Go.Proofs Go.Proofs.YtamggklblaigpaaGreatDoorW.PrintWords Go.Proofs.YtamggklblaigpaaGreatDoor.PAll Go.Proofs.YtamggklblaigpaaGreatDoor.Dx Go.Proofs.YtamggklblaigpaaGreatDoor.Hx Go.Proofs.YtamggklblaigpaaGreatDoor.Rn
set_option linter.unusedSimpArgs false
set_option linter.unusedVariables false

theorem rtext_val {k : Nat} (hk : 20 ≤ k) {r c : Int} (h : okDot r c ∨ (r = 0 ∧ c = 0)) : redpencilref04_Text.f k r c = some (dtP r c) := Up.leO_up (redpencilref04_Text.mono r c) (text_val h) k hk
theorem rdig_val {k : Nat} (hk : 20 ≤ k) {t : Int} (h0 : 1 ≤ t) (h1 : t ≤ maxT) : redpencilref04_Digits.f k t = some ⟨(Lib.decDigits t.toNat).toArray⟩ := by
  unfold maxT at h1
  have := digits_val 19 t.toNat (by omega) (by omega) (by omega)
  rw [Int.toNat_of_nonneg (by omega)] at this
  exact Up.leO_up (redpencilref04_Digits.mono t) this k hk
theorem sz (l : List UInt8) : (⟨l.toArray⟩ : ByteArray).size = l.length := List.size_toArray ..
theorem ntext_f (n : Nd) (h : okN n) (k : Nat) (hk : 20 ≤ k) : redpencilref09_Text.f k n.r n.c n.p n.q n.t n.u = some (ntP n) := by
  have e1 := rtext_val hk (.inl h.1)
  have e2 := rtext_val hk h.2.1
  have e3 := rdig_val hk h.2.2.2.1.1 h.2.2.2.1.2
  have l1 := dt_len20 (.inl h.1)
  have l2 := dt_len20 h.2.1
  have l3 := dec_len 18 n.t.toNat (by have := h.2.2.2.1.2; unfold maxT at this; omega)
  have l4 := nm_len h.2.2.2.2
  have s1 : (dtP n.r n.c).size = (dtL n.r n.c).length := sz _
  have s2 : (dtP n.p n.q).size = (dtL n.p n.q).length := sz _
  have s3 : (⟨(Lib.decDigits n.t.toNat).toArray⟩ : ByteArray).size = (Lib.decDigits n.t.toNat).length := sz _
  have o : (⟨#[32]⟩ : ByteArray).size = 1 := rfl
  have EQ := ntP_eq n (dtP n.r n.c) (dtP n.p n.q) ⟨(Lib.decDigits n.t.toNat).toArray⟩ ⟨(nmL n.u).toArray⟩ rfl rfl rfl rfl
  unfold redpencilref09_Text.f
  by_cases hu : n.u = 0
  · rw [if_pos hu, e1, Option.bind_some, if_pos (by omega), e2, Option.bind_some, if_pos (by simp only [ByteArray.size_append, o]; omega), if_pos (by simp only [ByteArray.size_append, o]; omega), e3, Option.bind_some, if_pos (by simp only [ByteArray.size_append, o]; omega), if_pos (by simp only [ByteArray.size_append, o]; omega), if_pos (by simp only [ByteArray.size_append, o]; omega)]
    congr 1
    rw [← EQ]
    have e4 : nmL n.u = [45] := by unfold nmL; rw [if_pos hu]
    rw [e4]
    apply ByteArray.ext
    simp [ByteArray.data_append]
  · have hr : okRune n.u := h.2.2.2.2.resolve_left hu
    have e4 : nmL n.u = nameL n.u.toNat := by unfold nmL; rw [if_neg hu]
    have s4 : (nameP n.u.toNat).size = (nmL n.u).length := by rw [e4]; exact sz _
    rw [if_neg hu, Up.name_f hr k hk, Option.bind_some, e1, Option.bind_some, if_pos (by omega), e2, Option.bind_some, if_pos (by simp only [ByteArray.size_append, o]; omega), if_pos (by simp only [ByteArray.size_append, o]; omega), e3, Option.bind_some, if_pos (by simp only [ByteArray.size_append, o]; omega), if_pos (by simp only [ByteArray.size_append, o]; omega), if_pos (by simp only [ByteArray.size_append, o]; omega)]
    congr 1
    rw [← EQ, e4]
    have e5 : (⟨(nameL n.u.toNat).toArray⟩ : ByteArray) = nameP n.u.toNat := rfl
    rw [e5]
    generalize dtP n.r n.c = za
    generalize dtP n.p n.q = zb
    generalize (⟨(Lib.decDigits n.t.toNat).toArray⟩ : ByteArray) = zc
    generalize nameP n.u.toNat = zd
    apply bytes_eq
    simp [ByteArray.data_append]
/-! The words. -/
theorem piece (s : ByteArray) (a b : Nat) (hab : a ≤ b) (hb : b ≤ s.size) : (s.extract a b).data.toList = (s.data.toList.drop a).take (b - a) ∧ s.data.toList.drop a = (s.data.toList.drop a).take (b - a) ++ s.data.toList.drop b := by
  refine ⟨?_, ?_⟩
  · rw [Lib.extract_data]
  · have := List.take_append_drop (b - a) (s.data.toList.drop a)
    rw [List.drop_drop, show a + (b - a) = b by omega] at this
    exact this.symm
theorem no_sp (s : ByteArray) (a b : Nat) (h : ∀ j, a ≤ j → j < b → Up.bN s j ≠ 32) : ∀ x ∈ (s.data.toList.drop a).take (b - a), x ≠ 32 := by
  rintro x hx rfl
  obtain ⟨j, hj, e⟩ := List.mem_iff_getElem.1 hx
  rw [List.length_take, List.length_drop] at hj
  rw [List.getElem_take, List.getElem_drop] at e
  refine h (a + j) (by omega) (by omega) ?_
  unfold Up.bN
  rw [List.getD_eq_getElem?_getD, List.getElem?_eq_getElem (by omega), e]
  rfl
theorem words_l0 (s : ByteArray) (hl : s.size ≤ 1000000) : ∀ (n i a : Nat) (acc : List ByteArray), i + n = s.size → a ≤ i → acc.length ≤ i → (∀ j, a ≤ j → j < i → Up.bN s j ≠ 32) → ∀ k, n + 2 ≤ k → ∃ W, redpencilref09_words.l0 k s acc (a : Int) (i : Int) = some (acc ++ W) ∧ W.map (·.data.toList) = spl (s.data.toList.drop a)
  | 0, i, a, acc, h, ha, hc, hn, k, hk => by
    obtain ⟨k, rfl⟩ : ∃ j, k = j + 2 := ⟨k - 2, by omega⟩
    obtain ⟨p1, p2⟩ := piece s a i ha (by omega)
    have e0 : s.data.toList.drop i = [] := List.drop_of_length_le (by rw [← Lib.size_eq]; omega)
    refine ⟨[s.extract a i], ?_, ?_⟩
    · rw [redpencilref09_words.l0, if_pos (by omega), if_pos (by omega), if_pos (by omega), if_pos (by omega), if_pos (by omega), Up.wi (by omega), redpencilref09_words.l0, if_neg (by omega), Int.toNat_natCast, Int.toNat_natCast]
    · rw [List.map_singleton, p1]
      rw [e0, List.append_nil] at p2
      rw [p2]
      have hs := no_sp s a i hn
      rw [List.take_take, Nat.min_self]
      rw [spl_none _ hs]
  | n + 1, i, a, acc, h, ha, hc, hn, k, hk => by
    obtain ⟨k, rfl⟩ : ∃ j, k = j + 1 := ⟨k - 1, by omega⟩
    have hi : i < s.size := by omega
    have hlt : i < s.data.toList.length := by rw [← Lib.size_eq]; exact hi
    by_cases q : Up.bN s i = 32
    · obtain ⟨p1, p2⟩ := piece s a i ha (by omega)
      obtain ⟨W, e, hW⟩ := words_l0 s hl n (i + 1) (i + 1) (acc ++ [s.extract a i]) (by omega) (Nat.le_refl _) (by simp; omega) (fun j h1 h2 => by omega) k (by omega)
      refine ⟨s.extract a i :: W, ?_, ?_⟩
      · rw [redpencilref09_words.l0, if_pos (by omega), if_neg (by omega), if_pos (by omega), if_pos (by omega), Up.bt_nat hi, if_pos (by omega), if_pos (by omega), if_pos (by omega), if_pos (by omega), Up.wi (by omega), Int.toNat_natCast, Int.toNat_natCast, e]
        simp
      · have hd : s.data.toList.drop i = 32 :: s.data.toList.drop (i + 1) := by
          rw [List.drop_eq_getElem_cons hlt]
          congr 1
          unfold Up.bN at q
          rw [List.getD_eq_getElem?_getD, List.getElem?_eq_getElem hlt] at q
          exact UInt8.toNat_inj.1 q
        rw [List.map_cons, hW, p1, p2, hd, spl_at _ _ (no_sp s a i hn), List.take_append_of_le_length (by rw [List.length_take, List.length_drop]; omega), List.take_take, Nat.min_self]
    · obtain ⟨W, e, hW⟩ := words_l0 s hl n (i + 1) a acc (by omega) (by omega) (by omega) (fun j h1 h2 => by
        by_cases c : j = i
        · rw [c]; exact q
        · exact hn j h1 (by omega)) k (by omega)
      refine ⟨W, ?_, hW⟩
      rw [redpencilref09_words.l0, if_pos (by omega), if_neg (by omega), if_pos (by omega), if_pos (by omega), Up.bt_nat hi, if_neg (by omega), Up.wi (by omega), e]
theorem words_f (s : ByteArray) (hl : s.size ≤ 1000000) (k : Nat) (hk : s.size + 2 ≤ k) : ∃ W, redpencilref09_words.f k s = some W ∧ W.map (·.data.toList) = spl s.data.toList := by
  obtain ⟨W, e, hW⟩ := words_l0 s hl s.size 0 0 [] (by omega) (Nat.le_refl _) (Nat.le_refl _) (fun j h1 h2 => by omega) k hk
  exact ⟨W, by unfold redpencilref09_words.f; exact e, by simpa using hW⟩
/-! The time. -/
theorem time_any (s : ByteArray) (hl : s.size ≤ 1000000) : ∀ (n i : Nat) (x : Int), i + n = s.size → ∀ k, n + 1 ≤ k → ∃ v, redpencilref09_time.l0 k s x (i : Int) = some v
  | 0, i, x, h, k, hk => by
    obtain ⟨k, rfl⟩ : ∃ j, k = j + 1 := ⟨k - 1, by omega⟩
    exact ⟨x, by rw [redpencilref09_time.l0, if_neg (by omega)]⟩
  | n + 1, i, x, h, k, hk => by
    obtain ⟨k, rfl⟩ : ∃ j, k = j + 1 := ⟨k - 1, by omega⟩
    rw [redpencilref09_time.l0, if_pos (by omega), if_pos (by omega), Up.wi (by omega)]
    split
    · exact ⟨_, rfl⟩
    · split
      · exact ⟨_, rfl⟩
      · split
        · exact ⟨_, rfl⟩
        · exact time_any s hl n (i + 1) _ (by omega) k (by omega)
theorem fold_up : ∀ (b : List UInt8) (n : Nat), n ≤ b.foldl (fun n c => 10 * n + (c.toNat - 48)) n
  | [], n => Nat.le_refl _
  | c :: b, n => Nat.le_trans (by omega) (fold_up b (10 * n + (c.toNat - 48)))
theorem decV_le (l b : List UInt8) : decV l ≤ decV (l ++ b) := by
  unfold decV
  rw [List.foldl_append]
  exact fold_up b _
theorem time_dec (s : ByteArray) (hl : s.size ≤ 1000000) (hd : ∀ c ∈ s.data.toList, 48 ≤ c.toNat ∧ c.toNat ≤ 57) (hm : (decV s.data.toList : Int) ≤ maxT) : ∀ (n i : Nat), i + n = s.size → ∀ k, n + 1 ≤ k → redpencilref09_time.l0 k s (decV (s.data.toList.take i) : Nat) (i : Int) = some ((decV s.data.toList : Nat) : Int)
  | 0, i, h, k, hk => by
    obtain ⟨k, rfl⟩ : ∃ j, k = j + 1 := ⟨k - 1, by omega⟩
    rw [redpencilref09_time.l0, if_neg (by omega), List.take_of_length_le (by rw [← Lib.size_eq]; omega)]
  | n + 1, i, h, k, hk => by
    obtain ⟨k, rfl⟩ : ∃ j, k = j + 1 := ⟨k - 1, by omega⟩
    have hi : i < s.size := by omega
    have hlt : i < s.data.toList.length := by rw [← Lib.size_eq]; exact hi
    have hc := hd _ (List.getElem_mem hlt)
    have hb : Up.bN s i = (s.data.toList[i]).toNat := by
      unfold Up.bN
      rw [List.getD_eq_getElem?_getD, List.getElem?_eq_getElem hlt]
      rfl
    have hstep : decV (s.data.toList.take (i + 1)) = 10 * decV (s.data.toList.take i) + ((s.data.toList[i]).toNat - 48) := by
      rw [List.take_succ_eq_append_getElem hlt, decV_app]
    have hle : decV (s.data.toList.take (i + 1)) ≤ decV s.data.toList := by
      conv => rhs; rw [← List.take_append_drop (i + 1) s.data.toList]
      exact decV_le _ _
    unfold maxT at hm
    have ih := time_dec s hl hd (by unfold maxT; exact hm) n (i + 1) (by omega) k (by omega)
    rw [redpencilref09_time.l0, if_pos (by omega), if_pos (by omega), Up.bt_nat hi, hb, if_neg (by omega), if_neg (by omega), if_neg (by omega), Up.wi (by omega)]
    rw [Up.w64 (n := 10 * ((decV (s.data.toList.take i) : Nat) : Int)) (by omega) (by omega), Up.w64 (n := ((s.data.toList[i]).toNat : Int)) (by omega) (by omega), Up.w64 (n := 10 * ((decV (s.data.toList.take i) : Nat) : Int) + ((s.data.toList[i]).toNat : Int)) (by omega) (by omega), Up.w64 (by omega) (by omega)]
    rw [hstep] at ih
    rw [← ih]
    congr 1
    omega
theorem time_f (s : ByteArray) (hl : s.size ≤ 1000000) (k : Nat) (hk : s.size + 1 ≤ k) : ∃ v, redpencilref09_time.f k s = some v ∧ ∀ t, 1 ≤ t → t ≤ maxT → s.data.toList = Lib.decDigits t.toNat → v = t := by
  obtain ⟨v, hv⟩ := time_any s hl s.size 0 0 (by omega) k hk
  refine ⟨v, by unfold redpencilref09_time.f; exact hv, fun t h0 h1 he => ?_⟩
  have hD : decV s.data.toList = t.toNat := by rw [he, decV_dec]
  have := time_dec s hl (fun c hc => by rw [he] at hc; exact dec_digit _ c hc) (by rw [hD]; omega) s.size 0 (by omega) k hk
  rw [List.take_zero, hD] at this
  have e : redpencilref09_time.l0 k s 0 0 = some t := by
    have e2 : ((t.toNat : Nat) : Int) = t := Int.toNat_of_nonneg (by omega)
    rw [e2] at this
    exact this
  rw [show ((0 : Nat) : Int) = 0 from rfl] at hv
  rw [hv] at e
  injection e
end Go.Proofs.YtamggklblaigpaaGreatDoor.Nx

namespace Go.Proofs.YtamggklblaigpaaGreatDoor.Nx
open Go Go.RowKit Go.Proofs Go.Proofs.YtamggklblaigpaaGreatDoorW.PrintWords Go.Proofs.YtamggklblaigpaaGreatDoor.PAll Go.Proofs.YtamggklblaigpaaGreatDoor.Dx Go.Proofs.YtamggklblaigpaaGreatDoor.Hx Go.Proofs.YtamggklblaigpaaGreatDoor.Rn
set_option linter.unusedSimpArgs false
set_option linter.unusedVariables false

/-! The examples of the chapter. -/
theorem pv (s : ByteArray) (r c p q t u e : Int) (hs : s.size ≤ 1000000) (h : nodP s = (⟨r, c, p, q, t, u⟩, e)) : redpencillaw09_parses.f s r c p q t u e = some true := by
  have := parses_f s hs ⟨r, c, p, q, t, u⟩ e
  rw [decide_eq_true h] at this
  exact this
theorem mv {k : Nat} (hk : 2 ≤ k) (a b n : Nd) (e : Int) (h : mrg a b = (n, e)) : redpencillaw09_merges.f k a.r a.c a.p a.q a.t a.u b.r b.c b.p b.q b.t b.u n.r n.c n.p n.q n.t n.u e = some true := by
  obtain ⟨j, rfl⟩ : ∃ j, k = j + 2 := ⟨k - 2, by omega⟩
  rw [merges_f, decide_eq_true h]
theorem bv {k : Nat} (hk : 3 ≤ k) (a b : Nd) (x : Bool) (h : decide (befP a b) = x) : node_Before.f k a.r a.c a.p a.q a.t a.u b.r b.c b.p b.q b.t b.u = some x := by
  obtain ⟨j, rfl⟩ : ∃ j, k = j + 3 := ⟨k - 3, by omega⟩
  rw [before_f, h]
theorem vv {k : Nat} (hk : 1 ≤ k) (a : Nd) (x : Bool) (h : decide (okN a) = x) : node_Valid.f k a.r a.c a.p a.q a.t a.u = some x := by
  obtain ⟨j, rfl⟩ : ∃ j, k = j + 1 := ⟨k - 1, by omega⟩
  rw [nvalid_f, h]
theorem nt_a : ntP ⟨3, 7, 1, 2, 5, 65⟩ = ⟨#[51, 46, 55, 32, 49, 46, 50, 32, 53, 32, 85, 43, 48, 48, 52, 49]⟩ := by
  unfold ntP ntL dtL
  rw [if_neg (by decide), if_neg (by decide)]
  show (⟨((Lib.decDigits 3 ++ 46 :: Lib.decDigits 7) ++ 32 :: ((Lib.decDigits 1 ++ 46 :: Lib.decDigits 2) ++ 32 :: (Lib.decDigits 5 ++ 32 :: nmL 65))).toArray⟩ : ByteArray) = _
  rw [dec_one (u := 3) (by decide), dec_one (u := 7) (by decide), dec_one (u := 1) (by decide), dec_one (u := 2) (by decide), dec_one (u := 5) (by decide)]
  decide
theorem nt_b : ntP ⟨3, 7, 0, 0, 5, 0⟩ = ⟨#[51, 46, 55, 32, 114, 111, 111, 116, 32, 53, 32, 45]⟩ := by
  unfold ntP ntL
  rw [show dtL (0 : Int) 0 = rootL from if_pos ⟨rfl, rfl⟩]
  unfold dtL
  rw [if_neg (by decide)]
  show (⟨((Lib.decDigits 3 ++ 46 :: Lib.decDigits 7) ++ 32 :: (rootL ++ 32 :: (Lib.decDigits 5 ++ 32 :: nmL 0))).toArray⟩ : ByteArray) = _
  rw [dec_one (u := 3) (by decide), dec_one (u := 7) (by decide), dec_one (u := 5) (by decide)]
  decide
theorem no_of (s : ByteArray) (a b c d : List UInt8) (hs : spl s.data.toList = [a, b, c, d]) (h : ∀ m, okN m → dtL m.r m.c = a → dtL m.p m.q = b → Lib.decDigits m.t.toNat = c → nmL m.u = d → False) : nodP s = (zN, 6) :=
  nodP_no fun m hm he => by
    rw [← he, spl_nt hm] at hs
    injection hs with ha hs
    injection hs with hb hs
    injection hs with hc' hs
    injection hs with hd' _
    exact h m hm ha hb hc' hd'
theorem ofv_no (a0 a1 a3 a4 : Int) : ofV a0 a1 0 a3 a4 = (a0, a1, 0, 0, a3, a4) := if_neg (by decide)
theorem known_true (m : Nat) : redpencillaw09_known.f (m + 20) = some true := by
  have k2 : redpencillaw09_known.j2 (m + 18) false 0 0 0 0 0 0 = some true := by
    rw [redpencillaw09_known.j2, if_neg (by decide)]
    unfold redpencillaw09_of.f
    rw [show ofV 3 7 2 5 65 = (3, 7, 1, 2, 5, 65) from if_pos (by decide), ofv_no, Option.bind_some]
    rw [pv _ 3 7 1 2 5 65 0 (by decide) (by rw [← nt_a]; exact nodP_yes (by decide)), Option.bind_some, if_pos rfl, Option.bind_some]
    rw [pv _ 3 7 0 0 5 0 0 (by decide) (by rw [← nt_b]; exact nodP_yes (by decide)), Option.bind_some, if_pos rfl]
    rw [pv _ 0 0 0 0 0 0 6 (by decide) (no_of _ rootL rootL [53] [45] (by decide) (fun m hm ha _ _ _ => dot_not_root hm.1 ha)), Option.bind_some, if_pos rfl]
    rw [pv _ 0 0 0 0 0 0 6 (by decide) (no_of _ [51, 46, 55] rootL [48, 53] [45] (by decide) (fun m hm _ _ hc _ => by
      have h1 := congrArg decV hc
      rw [decV_dec] at h1
      have h1 : m.t.toNat = 5 := h1
      rw [h1, dec_one (by decide)] at hc
      exact absurd hc (by decide))), Option.bind_some, if_pos rfl]
    rw [pv _ 0 0 0 0 0 0 6 (by decide) (nodP_len (by decide)), Option.bind_some]
  have k1 : redpencillaw09_known.j1 (m + 19) false 1 1 0 0 1 97 1 1 0 0 1 0 0 0 0 0 0 0 = some true := by
    rw [redpencillaw09_known.j1, if_neg (by decide), mv (by omega) ⟨1, 1, 0, 0, 1, 97⟩ ⟨1, 1, 0, 0, 1, 0⟩ ⟨1, 1, 0, 0, 1, 0⟩ 0 (by decide), Option.bind_some, if_pos rfl]
    unfold redpencillaw09_of.f
    simp only [ofv_no]
    rw [Option.bind_some, mv (by omega) ⟨1, 1, 0, 0, 1, 97⟩ ⟨1, 1, 0, 0, 1, 98⟩ ⟨0, 0, 0, 0, 0, 0⟩ 15 (by decide), Option.bind_some, if_pos rfl]
    rw [Option.bind_some, mv (by omega) ⟨1, 1, 0, 0, 1, 0⟩ ⟨1, 1, 0, 0, 2, 0⟩ ⟨0, 0, 0, 0, 0, 0⟩ 15 (by decide), Option.bind_some, if_pos rfl]
    rw [Option.bind_some, mv (by omega) ⟨1, 1, 0, 0, 1, 0⟩ ⟨1, 1, 0, 0, 0, 0⟩ ⟨0, 0, 0, 0, 0, 0⟩ 2 (by decide), Option.bind_some]
    exact k2
  have k0 : redpencillaw09_known.j0 (m + 20) false 1 1 0 0 1 97 1 1 0 0 1 0 0 0 0 0 0 0 = some true := by
    rw [redpencillaw09_known.j0, if_neg (by decide)]
    unfold redpencillaw09_of.f
    simp only [ofv_no]
    rw [Option.bind_some, Option.bind_some, bv (by omega) ⟨1, 2, 0, 0, 5, 0⟩ ⟨9, 1, 0, 0, 4, 0⟩ true (by decide), Option.bind_some, if_pos rfl]
    rw [Option.bind_some, Option.bind_some, bv (by omega) ⟨1, 2, 0, 0, 5, 0⟩ ⟨2, 2, 0, 0, 5, 0⟩ false (by decide), Option.bind_some, if_neg (by decide)]
    rw [Option.bind_some, Option.bind_some, bv (by omega) ⟨1, 1, 0, 0, 5, 0⟩ ⟨1, 1, 0, 0, 5, 0⟩ false (by decide), Option.bind_some]
    exact k1
  unfold redpencillaw09_known.f redpencillaw09_of.f
  simp only [ofv_no, show ofV 1 2 1 2 0 = (1, 2, 1, 1, 2, 0) from if_pos (by decide), show ofV 1 1 1 2 0 = (1, 1, 1, 1, 2, 0) from if_pos (by decide)]
  rw [Option.bind_some, Option.bind_some, vv (by omega) ⟨1, 1, 0, 0, 1, 97⟩ true (by decide), Option.bind_some, if_pos rfl]
  rw [Option.bind_some, vv (by omega) ⟨1, 2, 1, 1, 2, 0⟩ true (by decide), Option.bind_some, if_pos rfl]
  rw [Option.bind_some, vv (by omega) ⟨1, 1, 1, 1, 2, 0⟩ false (by decide), Option.bind_some, if_neg (by decide)]
  rw [Option.bind_some, vv (by omega) ⟨1, 1, 0, 0, 0, 0⟩ false (by decide), Option.bind_some, if_neg (by decide), Option.bind_some]
  unfold node_Dead.f node_Kill.f
  rw [Option.bind_some, if_pos (by decide), Option.bind_some]
  exact k0
theorem known_f {k : Nat} (h : 20 ≤ k) : redpencillaw09_known.f k = some true := by
  obtain ⟨m, rfl⟩ : ∃ m, k = m + 20 := ⟨k - 20, by omega⟩
  exact known_true m
theorem then_known {k : Nat} (h : 20 ≤ k) : ((redpencillaw09_known.f k).bind fun t => some t) = some true := by rw [known_f h]; rfl
end Go.Proofs.YtamggklblaigpaaGreatDoor.Nx
