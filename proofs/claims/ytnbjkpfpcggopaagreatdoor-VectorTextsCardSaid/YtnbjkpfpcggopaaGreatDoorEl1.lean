/- Version vectors, plain law: VectorTexts answers true. -/
/- Layer 5: the call of VectorTexts at read arguments. -/
import Derived.Test.YtnbjkpfpcggopaaGreatDoorEh
import Derived.Test.YtnbjkpfpcggopaaGreatDoorPAllx7
import Derived.Test.YtnbjkpfpcggopaaGreatDoorEb4
namespace Go.Proofs.YtnbjkpfpcggopaaGreatDoor.Ev
open Go Go.RowKit Go.Proofs Go.Proofs.YtnbjkpfpcggopaaGreatDoorW.PrintWords Go.Proofs.YtnbjkpfpcggopaaGreatDoor.PAll Go.Proofs.YtnbjkpfpcggopaaGreatDoor.Dl Go.Proofs.YtnbjkpfpcggopaaGreatDoor.Dx
set_option linter.unusedSimpArgs false
set_option linter.unusedVariables false

def bN (s : ByteArray) (i : Nat) : Nat := (s.data.toList.getD i 0).toNat
theorem bt_nat {s : ByteArray} {i : Nat} (h : i < s.size) : bt s (i : Int) = bN s i := by
  unfold bt bN
  rw [dif_pos (by rw [Int.toNat_natCast]; exact h)]
  have hs : i < s.data.toList.length := by rw [Array.length_toList]; exact h
  rw [List.getD_eq_getElem?_getD, List.getElem?_eq_getElem hs]
  simp [ByteArray.getElem_eq_getElem_data]
theorem piece (s : ByteArray) (a b : Nat) (hab : a ≤ b) (hb : b ≤ s.size) : (s.extract a b).data.toList = (s.data.toList.drop a).take (b - a) ∧ s.data.toList.drop a = (s.data.toList.drop a).take (b - a) ++ s.data.toList.drop b := by
  refine ⟨?_, ?_⟩
  · rw [Lib.extract_data]
  · have := List.take_append_drop (b - a) (s.data.toList.drop a)
    rw [List.drop_drop, show a + (b - a) = b by omega] at this
    exact this.symm
theorem no_sp (s : ByteArray) (a b : Nat) (h : ∀ j, a ≤ j → j < b → bN s j ≠ 32) : ∀ x ∈ (s.data.toList.drop a).take (b - a), x ≠ 32 := by
  rintro x hx rfl
  obtain ⟨j, hj, e⟩ := List.mem_iff_getElem.1 hx
  rw [List.length_take, List.length_drop] at hj
  rw [List.getElem_take, List.getElem_drop] at e
  refine h (a + j) (by omega) (by omega) ?_
  unfold bN
  rw [List.getD_eq_getElem?_getD, List.getElem?_eq_getElem (by omega), e]
  rfl
def finP (acc : List S25) (l : List ByteArray) : List S25 × Bool := if VOk (acc ++ dotsB l) then (acc ++ dotsB l, true) else ([], false)
theorem fin_bad {acc : List S25} {p : ByteArray} {l : List ByteArray} (h : (dotP p).2.2 ≠ 0) : finP acc (p :: l) = ([], false) := by
  unfold finP
  rw [if_neg]
  intro q
  exact bad_piece (List.mem_singleton.2 rfl : p ∈ [p]) h ⟨List.pairwise_singleton _ _, fun x hx => q.2 x (List.mem_append.2 (.inr (by
    unfold dotsB at hx ⊢
    rw [List.map_cons]
    rw [List.map_singleton, List.mem_singleton] at hx
    rw [hx]; exact List.mem_cons_self)))⟩
theorem fin_good (acc : List S25) (p : ByteArray) (l : List ByteArray) : finP (acc ++ [⟨(dotP p).1, (dotP p).2.1⟩]) l = finP acc (p :: l) := by
  have e : (acc ++ [⟨(dotP p).1, (dotP p).2.1⟩]) ++ dotsB l = acc ++ dotsB (p :: l) := by rw [List.append_assoc]; rfl
  unfold finP
  rw [e]
theorem bs_piece (s : ByteArray) (a b : Nat) (hab : a ≤ b) (hb : b ≤ s.size) : s.extract a b = bsOf ((s.data.toList.drop a).take (b - a)) := bytes_eq (by rw [(piece s a b hab hb).1]; rfl)
theorem rp_j1 (s : ByteArray) (hl : s.size ≤ 1000) (acc : List S25) (a i : Nat) (ha : a ≤ i) (hi : i ≤ s.size) (hc : acc.length ≤ 2000) (k : Nat) :
    redpencilref05_Parse.j1 (k + 1) s acc (a : Int) (i : Int) false = if (dotP (s.extract a i)).2.2 = 0 then redpencilref05_Parse.l0 k s (acc ++ [⟨(dotP (s.extract a i)).1, (dotP (s.extract a i)).2.1⟩]) ((i + 1 : Nat) : Int) ((i + 1 : Nat) : Int) else some ([], false) := by
  have hz : (s.extract a i).size ≤ 1000000 := by rw [ByteArray.size_extract]; omega
  have ep : redpencilref04_Parse.f (s.extract a i) = some (refP (s.extract a i)) := if_pos hz
  rw [redpencilref05_Parse.j1, if_neg (by decide), if_pos (by omega), if_pos (by omega), if_pos (by omega), Int.toNat_natCast, Int.toNat_natCast, ep, Option.bind_some, refP_eq]
  by_cases h : (dotP (s.extract a i)).2.2 = 0
  · rw [if_pos h, if_pos (decide_eq_true h), if_pos (by omega), show ((i : Int) + 1) = ((i + 1 : Nat) : Int) by omega, w64 (i := ((i + 1 : Nat) : Int)) (by omega) (by omega)]
  · rw [if_neg h, if_neg (by simpa using h)]
theorem rp_end (s : ByteArray) (acc : List S25) (hc : acc.length ≤ 2000) (a : Int) (k : Nat) (hk : 2002 ≤ k) : redpencilref05_Parse.l0 (k + 1) s acc a ((s.size + 1 : Nat) : Int) = some (finP acc []) := by
  have e : acc ++ dotsB [] = acc := List.append_nil _
  rw [redpencilref05_Parse.l0, if_neg (by omega), rvvalid_f acc (by omega) k (by omega), Option.bind_some]
  unfold finP
  rw [e]
  by_cases h : VOk acc
  · rw [if_pos (decide_eq_true h), if_pos h]
  · rw [if_neg (by simpa using h), if_neg h]
theorem rp_l0 (s : ByteArray) (hl : s.size ≤ 1000) : ∀ (n i a : Nat) (acc : List S25), i + n = s.size → a ≤ i → acc.length ≤ i → (∀ j, a ≤ j → j < i → bN s j ≠ 32) → ∀ k, 2 * n + 2010 ≤ k → redpencilref05_Parse.l0 k s acc (a : Int) (i : Int) = some (finP acc ((spl (s.data.toList.drop a)).map bsOf))
  | 0, i, a, acc, h, ha, hc, hn, k, hk => by
    obtain ⟨k, rfl⟩ : ∃ j, k = j + 3 := ⟨k - 3, by omega⟩
    obtain rfl : i = s.size := by omega
    obtain ⟨p1, p2⟩ := piece s a s.size ha (Nat.le_refl _)
    have e0 : s.data.toList.drop s.size = [] := List.drop_of_length_le (by rw [← Lib.size_eq]; omega)
    rw [e0, List.append_nil] at p2
    have hs := no_sp s a s.size hn
    have ew : (spl (s.data.toList.drop a)).map bsOf = [s.extract a s.size] := by
      rw [bs_piece s a s.size ha (Nat.le_refl _), p2, List.take_take, Nat.min_self, spl_none _ hs]
      rfl
    rw [ew, redpencilref05_Parse.l0, if_pos (by omega), if_neg (by omega), rp_j1 s hl acc a s.size ha (Nat.le_refl _) (by omega) (k + 1)]
    by_cases q : (dotP (s.extract a s.size)).2.2 = 0
    · rw [if_pos q, rp_end s _ (by rw [List.length_append, List.length_cons, List.length_nil]; omega) _ k (by omega), fin_good]
    · rw [if_neg q, fin_bad q]
  | n + 1, i, a, acc, h, ha, hc, hn, k, hk => by
    obtain ⟨k, rfl⟩ : ∃ j, k = j + 2 := ⟨k - 2, by omega⟩
    have hi : i < s.size := by omega
    have hlt : i < s.data.toList.length := by rw [← Lib.size_eq]; exact hi
    rw [redpencilref05_Parse.l0, if_pos (by omega), if_pos (by omega), if_pos (by omega), bt_nat hi]
    by_cases q : bN s i = 32
    · obtain ⟨p1, p2⟩ := piece s a i ha (by omega)
      have hd : s.data.toList.drop i = 32 :: s.data.toList.drop (i + 1) := by
        rw [List.drop_eq_getElem_cons hlt]
        congr 1
        unfold bN at q
        rw [List.getD_eq_getElem?_getD, List.getElem?_eq_getElem hlt] at q
        exact UInt8.toNat_inj.1 q
      have ew : (spl (s.data.toList.drop a)).map bsOf = s.extract a i :: (spl (s.data.toList.drop (i + 1))).map bsOf := by
        rw [bs_piece s a i ha (by omega), p2, hd, spl_at _ _ (no_sp s a i hn), List.take_append_of_le_length (by rw [List.length_take, List.length_drop]; omega), List.take_take, Nat.min_self]
        rfl
      have hb : (((bN s i : Nat) : Int) != 32) = false := by rw [q]; rfl
      rw [hb, rp_j1 s hl acc a i ha (by omega) (by omega) k, ew]
      by_cases z : (dotP (s.extract a i)).2.2 = 0
      · rw [if_pos z, rp_l0 s hl n (i + 1) (i + 1) _ (by omega) (Nat.le_refl _) (by rw [List.length_append, List.length_cons, List.length_nil]; omega) (fun j h1 h2 => by omega) k (by omega), fin_good]
      · rw [if_neg z, fin_bad z]
    · have hb : (((bN s i : Nat) : Int) != 32) = true := by simp; omega
      rw [hb, redpencilref05_Parse.j1, if_pos rfl, show ((i : Int) + 1) = ((i + 1 : Nat) : Int) by omega, w64 (i := ((i + 1 : Nat) : Int)) (by omega) (by omega)]
      exact rp_l0 s hl n (i + 1) a acc (by omega) (by omega) (by omega) (fun j h1 h2 => by
        by_cases c : j = i
        · rw [c]; exact q
        · exact hn j h1 (by omega)) k (by omega)
theorem rvparse_f (s : ByteArray) (hl : s.size ≤ 1000) (k : Nat) (hk : 5000 ≤ k) : ∃ x b, redpencilref05_Parse.f k s = some (x, b) ∧ vecP s = (x, if b = true then 0 else 6) := by
  unfold redpencilref05_Parse.f vecP
  by_cases h : s.data.toList = [45]
  · rw [if_pos (by rw [Lib.toList_data]; exact h), if_pos h]
    exact ⟨_, _, rfl, rfl⟩
  · have e := rp_l0 s hl s.size 0 0 [] (by omega) (Nat.le_refl _) (Nat.le_refl _) (fun j h1 h2 => by omega) k (by omega)
    rw [if_neg (by rw [Lib.toList_data]; exact h), if_neg h]
    have e2 : finP [] ((spl (s.data.toList.drop 0)).map bsOf) = if VOk (dotsB (splB s)) then (dotsB (splB s), true) else ([], false) := rfl
    rw [e2] at e
    by_cases q : VOk (dotsB (splB s))
    · rw [if_pos q] at e ⊢
      exact ⟨_, _, e, rfl⟩
    · rw [if_neg q] at e ⊢
      exact ⟨_, _, e, rfl⟩
theorem tx_j1 (s : ByteArray) (hs : s.size ≤ 300) (k : Nat) (hk : 5001 ≤ k) : redpencillaw05_VectorTexts.j1 k s = some true := by
  obtain ⟨k, rfl⟩ : ∃ j, k = j + 1 := ⟨k - 1, by omega⟩
  obtain ⟨x, b, e, hv⟩ := rvparse_f s (by omega) k (by omega)
  rw [redpencillaw05_VectorTexts.j1, e, Option.bind_some]
  cases b with
  | true =>
    rw [if_pos rfl, vparses_f k s x 0 (by omega) (by omega), decide_eq_true (by rw [hv]; rfl), Option.bind_some, if_pos rfl]
    exact then_known (by omega)
  | false =>
    have hx : vecP s = ([], 6) := by
      have := hv
      unfold vecP at this ⊢
      split
      · rename_i q; rw [if_pos q] at this; injection this with _ h2; cases h2
      · rename_i q
        rw [if_neg q] at this
        split
        · rename_i q2; rw [if_pos q2] at this; injection this with _ h2; cases h2
        · rfl
    rw [if_neg (show ¬ (false = true) by decide), vparses_f k s [] 6 (by omega) (by omega), decide_eq_true hx, Option.bind_some, if_pos rfl]
    exact then_known (by omega)
theorem tx_j0f (k : Nat) (hk : 5010 ≤ k) (l : List S25) (s : ByteArray) (hl : l.length ≤ 40) (hs : s.size ≤ 300) : redpencillaw05_VectorTexts.j0 k l s false = some true := by
  obtain ⟨k, rfl⟩ : ∃ j, k = j + 1 := ⟨k - 1, by omega⟩
  rw [redpencillaw05_VectorTexts.j0, if_neg (by decide), rvvalid_f l (by omega) k (by omega), Option.bind_some]
  by_cases h : VOk l
  · rw [decide_eq_true h, if_pos rfl, rvtext_f l (by omega) h k (by omega), Option.bind_some, vtexts_f l _ 0 (by omega), decide_eq_true (show vecT l = _ from if_pos h), Option.bind_some, if_pos rfl]
    exact tx_j1 s hs k (by omega)
  · rw [decide_eq_false h, if_neg (by decide), vtexts_f l _ 2 (by omega), decide_eq_true (show vecT l = _ from if_neg h), Option.bind_some, if_pos rfl]
    exact tx_j1 s hs k (by omega)
theorem tx_j0t (k : Nat) (hk : 100 ≤ k) (l : List S25) (s : ByteArray) : redpencillaw05_VectorTexts.j0 k l s true = some true := by
  obtain ⟨k, rfl⟩ : ∃ j, k = j + 1 := ⟨k - 1, by omega⟩
  rw [redpencillaw05_VectorTexts.j0, if_pos rfl]
  exact then_known (by omega)
theorem Texts_f (l : List S25) (s : ByteArray) : redpencillaw05_VectorTexts.f 6000 l s = some true := by
  unfold redpencillaw05_VectorTexts.f
  by_cases h : (l.length : Int) > 40
  · rw [if_pos h]; exact tx_j0t _ (by decide) l s
  · rw [if_neg h]
    by_cases h2 : (s.size : Int) > 300
    · rw [decide_eq_true h2]; exact tx_j0t _ (by decide) l s
    · rw [decide_eq_false h2]; exact tx_j0f _ (by decide) l s (by omega) (by omega)
end Go.Proofs.YtnbjkpfpcggopaaGreatDoor.Ev

namespace Go.Proofs.YtnbjkpfpcggopaaGreatDoor.Ev
open Go Go.RowKit Go.Proofs Go.Proofs.YtnbjkpfpcggopaaGreatDoor.Kit Go.Proofs.YtnbjkpfpcggopaaGreatDoor.PAll Go.Proofs.YtnbjkpfpcggopaaGreatDoorW.PrintWords Go.Proofs.YtnbjkpfpcggopaaGreatDoor.Dl
set_option linter.unusedSimpArgs false
set_option linter.unusedVariables false

theorem texts_walk (A0 : Option Addr) (c0 : Nat) (l0 : List S25) (a1 : ByteArray) (W : World) (hG : GOK W) (h0 : k25.C W A0 l0.length l0) (hc0 : l0.length ≤ c0) : Calls Tryz.prog 6 #[.slice A0 l0.length c0, .string a1] W (YesP W) := by
  exact redpencillaw05_VectorTexts.calls 6000 A0 c0 l0 a1 W hG h0 hc0 (Texts_f _ _)
end Go.Proofs.YtnbjkpfpcggopaaGreatDoor.Ev
