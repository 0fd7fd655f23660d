/- A loop over a function that keeps its state in a cell of its own; no program is named here. -/
/- Pieces between spaces, plain law; no program is named here. -/
/- Version vectors, walks: strings.SplitSeq's iterator at a separator of one space. -/
/- Version vectors, walks: Parse. -/
/- Version vectors: the contracts of vector's functions and of the reference's Raise, Merge, Of, as the printed texts call them. Printed by wip/tools/ges.py. -/
import Derived.RangeFuncFrom
import Derived.Lib.IndexLaws
import Derived.Lib.Bytealg
import Derived.Test.YtnbjkpfpcggopaaGreatDoorEb2
import Derived.RangeFuncNested
import Derived.RangeFuncBound
import Derived.RangeFuncCalls
import Derived.RangeFuncLeaves
import Derived.RangeFuncBox
import Derived.Shelf.Abstract
import Derived.Shelf.RegionOpen
import Derived.WalkKit
import Derived.OwnWalkIn
import Derived.TacticsInMore
import Derived.LoopNIn
import Derived.LoopIn
import Derived.Laws.ResultCell
import Derived.Test.YtnbjkpfpcggopaaGreatDoorEb1
namespace Go.Proofs.YtnbjkpfpcggopaaGreatDoor.Ev
open Go Go.RowKit

/-- What such an iterator's walk gives, for whatever the loop keeps: each round goes on, the blocks ks untouched, or stops; c is the cell that it writes. -/
def SeqC {α : Type} (F : Fence) (n : Nat) (P : Program) (g : Nat) (lb : Array Value) (encs : α → Array Value) (c : Addr) (ks : List Nat) (S Sp : List α → Prop) (N : Nat) (w : World) : Prop :=
  ∀ (l : Nat) (J Jx : List α → World → Prop) (W : World), Below w.heap.size w W → (∀ s A B, J s A → A.grownBy B none → J s B) → (∀ s A v, J s A → J s (A.setCell c v)) →
    (∀ pre x A, J pre A → pre.length < N → YieldAt F (n - 1) P l (encs x) A fun e B =>
      (e = .returned (.bool true) ∧ J (pre ++ [x]) B ∧ ∀ b ∈ ks, B.heap[b]? = A.heap[b]?) ∨ (e = .returned (.bool false) ∧ Jx (pre ++ [x]) B)) →
    J [] W →
    CallsIn F n P g (#[.func (.yield l) #[] #[]] ++ lb) W fun e W' => (∃ v, e = .returned v) ∧ ((∃ xs, S xs ∧ J xs W') ∨ (∃ pre, Sp pre ∧ Jx pre W'))

/-- How the body of a round may be left. -/
def roundC {α : Type} (ks : List Nat) (I : List α → World → Prop) (Ix : Code → List α → World → Prop) (xs : List α) (W : World) : Exit → Act → World → Prop
  | .normal, _, W' => KeepsOthers W W' ∧ (∀ b ∈ ks, W'.heap[b]? = W.heap[b]?) ∧ I xs W'
  | .ret, _, W' => KeepsOthers W W' ∧ Ix .ret xs W'
  | .exit id, _, W' => KeepsOthers W W' ∧ Ix (.exit id) xs W'
  | .goto t, _, W' => KeepsOthers W W' ∧ Ix (.goto t) xs W'
  | .panic _, _, _ => False
  | .outgrown, _, _ => False

variable {F : Fence} {n : Nat} {P : Program}
theorem range_cell {α : Type} {g : Operand} {ps : Array Tmp} {assign body : Code} {Q : Exit → Act → World → Prop} {a : Act} {w : World} {c : Addr} {ks : List Nat}
    (hro : F.round = none) (h1 : 1 ≤ n) {gf : Nat} {lb : Array Value} (hg : a.eval g = .func (.func gf) #[] lb) (hFg : F.fn gf) (eg : ∀ args w, (callFunc gf args).run P w = .ok (.enter gf args) w)
    {encs : α → Array Value} {S Sp : List α → Prop} {N : Nat} (hseq : SeqC F (n - 1) P gf lb encs c ks S Sp N w) (hks : ∀ b ∈ ks, b < w.heap.size) (hps : ∀ x, (encs x).size = ps.size)
    (I : List α → World → Prop) (Ix : Code → List α → World → Prop) (hI : OwnFrom w.heap.size I) (hIc : ∀ s A v, I s A → I s (A.setCell c v)) (hIx : ∀ c, OwnFrom w.heap.size (Ix c)) (h0 : I [] w) (a₁ : α → Act)
    (hassign : ∀ (l : Nat) (x : α) (W : World) (K : Act → World → Prop), K (a₁ x) W →
      assign.wpIn (F.inRound l) (n - 1 - 1) P (Exit.then K (fun _ _ _ => False)) { tmps := (ps.zip (encs x)).foldl (fun t (p, v) => t.setIfInBounds p v) a.tmps, defers := [] } W)
    (hbody : ∀ (l : Nat) (pre : List α) (x : α) (W : World), I pre W → pre.length < N → body.wpIn (F.inRound l) (n - 1 - 1) P (roundC ks I Ix (pre ++ [x]) W) (a₁ x) W)
    (hdone : ∀ (D : Nat) (xs : List α) (W : World), w.heap.size ≤ D → S xs → I xs W → W.heap[D]? = some (.deferred (some [])) → Q .normal { a with defers := { target := .collected D, args := #[] } :: a.defers } W)
    (hstop : ∀ (D : Nat) (c : Code) (pre : List α) (W : World), w.heap.size ≤ D → Sp pre → Ix c pre W → W.heap[D]? = some (.deferred (some [])) → c.wpIn F n P Q { a with defers := { target := .collected D, args := #[] } :: a.defers } W) :
    (Code.rangeFunc g ps assign body).wpIn F n P Q a w := by
  refine wpIn_rangeFunc ?_
  intro fn hfn
  rw [hro]
  obtain ⟨rec, hrec⟩ : ∃ rec : LoopState → Option Code → Loop, rec = fun st pe => { state := st, pending := pe, fn, tmps := a.tmps, params := ps, assign, body, defers := w.heap.size } := ⟨_, rfl⟩
  obtain ⟨V, hV⟩ : ∃ V, (w.alloc (.deferred (some []))).alloc (.loop (rec .ready none)) = V := ⟨_, rfl⟩
  have hl : V.heap[w.heap.size + 1]? = some (.loop (rec .ready none)) := by
    rw [← hV]; have := World.alloc_heap_new (w.alloc (.deferred (some []))) (.loop (rec .ready none)); rwa [World.size_alloc] at this
  have hk : V.heap[w.heap.size]? = some (.deferred (some [])) := by
    rw [← hV]; exact (Below.heap_alloc _ _ _ (by simp)).trans (World.alloc_heap_new w _)
  have hi : I [] V := by rw [← hV]; exact hI.alloc _ (hI.alloc _ h0)
  have hb : Below w.heap.size w V := by rw [← hV]; exact ((Below.refl _ w).alloc (Nat.le_refl _) _).alloc (by simp) _
  refine ⟨w.heap.size + 1, [{ target := .collected w.heap.size, args := #[] }], V, { target := .fn (.func gf) lb, args := #[.func (.yield (w.heap.size + 1)) #[] #[]] }, V, gf,
    #[.func (.yield (w.heap.size + 1)) #[] #[]] ++ lb, V, ?_, ?_, ?_, ?_, fun _ => h1, ?_⟩
  · rw [← hV, hrec]; exact run_enterLoop_outer _ _ _ _ _
  · simp only [resolve, hg]
    simp [go_sem]
  · intro f' hf'; simp [Target.leads] at hf'; subst hf'; exact hFg
  · simp [invoke, go_sem, eg]
  have keep : ∀ {A B : World} {k : Nat} {o : Obj}, A.grownBy B none → A.heap[k]? = some o → B.heap[k]? = some o := fun h q =>
    (h.block _ (Array.getElem?_eq_some_iff.1 q).1 (by simp)).trans q
  refine (hseq (w.heap.size + 1)
    (fun pre W => I pre W ∧ W.heap[w.heap.size + 1]? = some (.loop (rec .ready none)) ∧ W.heap[w.heap.size]? = some (.deferred (some [])))
    (fun pre W => ∃ c, Ix c pre W ∧ W.heap[w.heap.size + 1]? = some (.loop (rec .done (some c))) ∧ W.heap[w.heap.size]? = some (.deferred (some [])))
    V hb
    (fun s A B h q => ⟨hI s A B none h.1 q (fun r e => by cases e), keep q h.2.1, keep q h.2.2⟩)
    (fun s A v h => ⟨hIc s A v h.1, (KeepsOthers.setCell A c v).same _ _ h.2.1 rfl, (KeepsOthers.setCell A c v).same _ _ h.2.2 rfl⟩)
    ?_ ⟨hi, hl, hk⟩).mono ?_
  · rintro pre x W ⟨hi, hl, hk⟩ hlen
    have hlt : w.heap.size + 1 < W.heap.size := (Array.getElem?_eq_some_iff.1 hl).1
    have hy := run_yield (P := P) (args := encs x) hl (by rw [hrec]; exact hps x)
    rw [hrec] at hy
    refine ⟨fn, _, assign, body, hy, roundIn_of_wpIn hfn (hassign _ x W _ ⟨_, run_beginRound hl (by rw [hrec]), ?_⟩)⟩
    have hl2 : (W.putObj (w.heap.size + 1) (.loop { rec .ready none with state := .busy })).heap[w.heap.size + 1]? = some (.loop { rec .ready none with state := .busy }) := World.putObj_heap_same hlt
    have hk2 : (W.putObj (w.heap.size + 1) (.loop { rec .ready none with state := .busy })).heap[w.heap.size]? = some (.deferred (some [])) := (World.putObj_heap_other (by omega)).trans hk
    have hc2 : ∀ b ∈ ks, (W.putObj (w.heap.size + 1) (.loop { rec .ready none with state := .busy })).heap[b]? = W.heap[b]? := fun b hb => World.putObj_heap_other (by have := hks b hb; omega)
    refine wpIn_mono (hbody _ pre x _ (hI.putObj _ hi (by omega) hl rfl) hlen) ?_
    have fin : ∀ (jump : Option Code) (B : World), KeepsOthers (W.putObj (w.heap.size + 1) (.loop { rec .ready none with state := .busy })) B →
        (Instr.endRound (w.heap.size + 1) jump).run P B = .ok (.bool jump.isNone) (B.putObj (w.heap.size + 1) (.loop (rec (if jump.isNone then .ready else .done) jump))) ∧
        B.heap[w.heap.size + 1]? = some (.loop { rec .ready none with state := .busy }) ∧
        (B.putObj (w.heap.size + 1) (.loop (rec (if jump.isNone then .ready else .done) jump))).heap[w.heap.size + 1]? = some (.loop (rec (if jump.isNone then .ready else .done) jump)) ∧
        (B.putObj (w.heap.size + 1) (.loop (rec (if jump.isNone then .ready else .done) jump))).heap[w.heap.size]? = some (.deferred (some [])) := fun jump B q => by
      have h3 := q.same _ _ hl2 rfl
      have := run_endRound (P := P) jump h3
      rw [hrec] at this ⊢
      exact ⟨this, by rw [hrec] at h3; exact h3, World.putObj_heap_same (Array.getElem?_eq_some_iff.1 h3).1, (World.putObj_heap_other (by omega)).trans (q.same _ _ hk2 rfl)⟩
    have out : ∀ (j : Code) (B : World), KeepsOthers (W.putObj (w.heap.size + 1) (.loop { rec .ready none with state := .busy })) B → Ix j (pre ++ [x]) B →
        ∃ v B', (Instr.endRound (w.heap.size + 1) (some j)).run P B = .ok v B' ∧
          ((Ending.returned v = .returned (.bool true) ∧ (I (pre ++ [x]) B' ∧ B'.heap[w.heap.size + 1]? = some (.loop (rec .ready none)) ∧ B'.heap[w.heap.size]? = some (.deferred (some []))) ∧ ∀ b ∈ ks, B'.heap[b]? = W.heap[b]?) ∨
            (Ending.returned v = .returned (.bool false) ∧ ∃ c, Ix c (pre ++ [x]) B' ∧ B'.heap[w.heap.size + 1]? = some (.loop (rec .done (some c))) ∧ B'.heap[w.heap.size]? = some (.deferred (some [])))) := fun j B q hx => by
      obtain ⟨hr, h3, h4, h5⟩ := fin (some j) B q
      exact ⟨_, _, hr, .inr ⟨rfl, j, (hIx j).putObj _ hx (by omega) h3 rfl, h4, h5⟩⟩
    rintro e a3 B hp
    cases e with
    | normal =>
      obtain ⟨q, q1, hx⟩ := hp
      obtain ⟨hr, h3, h4, h5⟩ := fin none B q
      exact ⟨_, _, hr, .inl ⟨rfl, ⟨hI.putObj _ hx (by omega) h3 rfl, h4, h5⟩, fun b hb => (World.putObj_heap_other (by have := hks b hb; omega)).trans ((q1 b hb).trans (hc2 b hb))⟩⟩
    | ret => exact out _ _ hp.1 hp.2
    | exit id => exact out _ _ hp.1 hp.2
    | goto t => exact out _ _ hp.1 hp.2
    | panic ch => exact hp.elim
    | outgrown => exact hp.elim
  · rintro e B ⟨⟨v, rfl⟩, (⟨xs, hS, hi, hl, hk⟩ | ⟨pre, hSp, j, hi, hl, hk⟩)⟩
    · exact ⟨none, _, by have := run_endLoop (P := P) hl (by rw [hrec]; simp); rw [hrec] at this; exact this, hdone _ xs _ (Nat.le_refl _) hS (hI.putObj _ hi (by omega) hl rfl) ((World.putObj_heap_other (by omega)).trans hk)⟩
    · exact ⟨some j, _, by have := run_endLoop (P := P) hl (by rw [hrec]; simp); rw [hrec] at this; exact this, hstop _ j pre _ (Nat.le_refl _) hSp ((hIx j).putObj _ hi (by omega) hl rfl) ((World.putObj_heap_other (by omega)).trans hk)⟩
end Go.Proofs.YtnbjkpfpcggopaaGreatDoor.Ev

namespace Go.Proofs.YtnbjkpfpcggopaaGreatDoor.Ev
open Go Go.Lib Go.Proofs.YtnbjkpfpcggopaaGreatDoor.PAll Go.Proofs.YtnbjkpfpcggopaaGreatDoor.Dl Go.Proofs.YtnbjkpfpcggopaaGreatDoor.Dx

/-- The pieces between spaces. -/
def spl : List UInt8 → List (List UInt8)
  | [] => [[]]
  | c :: l => if c = 32 then [] :: spl l else match spl l with
    | [] => [[c]]
    | a :: r => (c :: a) :: r
theorem spl_none : ∀ (a : List UInt8), (∀ x ∈ a, x ≠ 32) → spl a = [a]
  | [], _ => rfl
  | c :: a, h => by
    rw [spl, if_neg (h c List.mem_cons_self), spl_none a (fun x hx => h x (List.mem_cons_of_mem _ hx))]
theorem spl_at : ∀ (a b : List UInt8), (∀ x ∈ a, x ≠ 32) → spl (a ++ 32 :: b) = a :: spl b
  | [], b, _ => by rw [List.nil_append, spl, if_pos rfl]
  | c :: a, b, h => by
    rw [List.cons_append, spl, if_neg (h c List.mem_cons_self), spl_at a b (fun x hx => h x (List.mem_cons_of_mem _ hx))]
theorem first_sp : ∀ (l : List UInt8), (∀ x ∈ l, x ≠ 32) ∨ ∃ a b, l = a ++ 32 :: b ∧ ∀ x ∈ a, x ≠ 32
  | [] => .inl (by simp)
  | c :: l => by
    by_cases h : c = 32
    · exact .inr ⟨[], l, by rw [h]; rfl, by simp⟩
    · rcases first_sp l with q | ⟨a, b, e, q⟩
      · exact .inl (fun x hx => (List.mem_cons.1 hx).elim (fun e => e ▸ h) (q x))
      · exact .inr ⟨c :: a, b, by rw [e]; rfl, fun x hx => (List.mem_cons.1 hx).elim (fun e => e ▸ h) (q x)⟩
theorem ib_no : ∀ (l : List UInt8), (∀ x ∈ l, x ≠ 32) → Lib.indexByte l 32 = -1
  | [], _ => rfl
  | c :: l, h => by
    have h1 := h c List.mem_cons_self
    have h2 := ib_no l (fun x hx => h x (List.mem_cons_of_mem _ hx))
    unfold Lib.indexByte
    rw [if_neg (by simpa using h1), h2]
    rfl
theorem ib_at : ∀ (a b : List UInt8), (∀ x ∈ a, x ≠ 32) → Lib.indexByte (a ++ 32 :: b) 32 = (a.length : Int)
  | [], b, _ => rfl
  | c :: a, b, h => by
    have h1 := h c List.mem_cons_self
    have h2 := ib_at a b (fun x hx => h x (List.mem_cons_of_mem _ hx))
    rw [List.cons_append]
    unfold Lib.indexByte
    rw [if_neg (by simpa using h1), h2, if_neg (by simp), List.length_cons]
    omega
def bsOf (l : List UInt8) : ByteArray := ⟨l.toArray⟩
/-- The pieces of a string. -/
def splB (s : ByteArray) : List ByteArray := (spl s.data.toList).map bsOf
theorem bs_data (s : ByteArray) : bsOf s.data.toList = s := by unfold bsOf; rw [Array.toArray_toList]
/-- Either there is no space, or the first one parts the string. -/
theorem splB_cases (s : ByteArray) : (Lib.indexByte s.data.toList 32 = -1 ∧ splB s = [s]) ∨
    (∃ i : Nat, Lib.indexByte s.data.toList 32 = (i : Int) ∧ i < s.size ∧ splB s = s.extract 0 i :: splB (s.extract (i + 1) s.size)) := by
  rcases first_sp s.data.toList with h | ⟨a, b, e, h⟩
  · refine .inl ⟨ib_no _ h, ?_⟩
    unfold splB
    rw [spl_none _ h]
    show [bsOf s.data.toList] = [s]
    rw [bs_data]
  · have hsz : s.size = a.length + 1 + b.length := by
      have : s.data.toList.length = s.size := by rw [Array.length_toList]; rfl
      rw [← this, e, List.length_append, List.length_cons]; omega
    refine .inr ⟨a.length, by rw [e]; exact ib_at a b h, by omega, ?_⟩
    have e1 : s.extract 0 a.length = bsOf a := by
      apply bytes_eq
      rw [Lib.extract_data, List.drop_zero, Nat.sub_zero, e]
      show (a ++ 32 :: b).take a.length = a
      rw [List.take_left]
    have e2 : (s.extract (a.length + 1) s.size).data.toList = b := by
      rw [Lib.extract_data, e, hsz]
      have : (a ++ 32 :: b).drop (a.length + 1) = b := by
        have h1 : (a ++ 32 :: b) = (a ++ [32]) ++ b := by simp
        have h2 : (a ++ [(32 : UInt8)]).length = a.length + 1 := by simp
        rw [h1, ← h2, List.drop_left]
      rw [this]
      rw [show a.length + 1 + b.length - (a.length + 1) = b.length by omega, List.take_length]
    unfold splB
    rw [e2, e1, e, spl_at a b h]
    rfl
def dotsB (l : List ByteArray) : List S25 := l.map fun p => ⟨(dotP p).1, (dotP p).2.1⟩
/-- What Parse returns. -/
def vecP (s : ByteArray) : List S25 × Int := if s.data.toList = [45] then ([], 0) else if VOk (dotsB (splB s)) then (dotsB (splB s), 0) else ([], 6)
theorem dotP_err (p : ByteArray) : (dotP p).2.2 = 0 ∨ ((dotP p).2.2 = 6 ∧ (dotP p).1 = 0 ∧ (dotP p).2.1 = 0) := by
  unfold dotP
  split
  · exact .inl rfl
  · split
    · exact .inl rfl
    · exact .inr ⟨rfl, rfl, rfl⟩
theorem bad_piece {l : List ByteArray} {p : ByteArray} (hp : p ∈ l) (h : (dotP p).2.2 ≠ 0) : ¬ VOk (dotsB l) := by
  intro q
  have hm : (⟨(dotP p).1, (dotP p).2.1⟩ : S25) ∈ dotsB l := List.mem_map.2 ⟨p, hp, rfl⟩
  have := q.2 _ hm
  rcases dotP_err p with e | ⟨_, e1, e2⟩
  · exact h e
  · unfold okS okDot at this
    dsimp only at this
    omega
end Go.Proofs.YtnbjkpfpcggopaaGreatDoor.Ev

namespace Go.Proofs.YtnbjkpfpcggopaaGreatDoor.Ev
open Go Go.RowKit Go.Shelf Go.Proofs
attribute [local go_sem] Oper.semAt_some
set_option linter.unusedSimpArgs false
set_option linter.unusedVariables false

/-- A piece: what the loop's body may know of it. -/
abbrev Pc := { x : ByteArray // x.size ≤ 1000000 }
def szAt (W : World) (b : Nat) : Nat := match W.cell? ⟨b, 0, none⟩ with
  | some (.string s) => s.size
  | _ => 0
theorem sz_box {W : World} {b : Nat} {s : ByteArray} (h : W.cell? ⟨b, 0, none⟩ = some (.string s)) : szAt W b = s.size := by unfold szAt; rw [h]
set_option maxRecDepth 100000 in
set_option maxHeartbeats 4000000 in
theorem it_any (n : Nat) (hn : 1 ≤ n) (bs bp bv : Nat) (hsp : bs ≠ bp) (hsv : bs ≠ bv) (s : ByteArray) (hl : s.size ≤ 1000000) (w : World) (h1 : Boxed w bs 9 (.string s)) (h2 : Boxed w bp 9 (.string ⟨#[32]⟩)) (h3 : Boxed w bv 3 (.int .i64 0)) :
    SeqC Fence.wide n Tryz.prog 84 #[.pointer (some ⟨bp, 0, none⟩), .pointer (some ⟨bs, 0, none⟩), .pointer (some ⟨bv, 0, none⟩)] (fun x : Pc => #[.string x.1]) ⟨bs, 0, none⟩ [bs, bp, bv] (fun xs => xs.map (·.1) = splB s) (fun pre => pre.map (·.1) <+: splB s) (splB s).length w := by
  intro l J Jx W hW hJ1 hJ2 hY h0
  have b1 : Boxed W bs 9 (.string s) := (hW.block bs h1.lt).trans h1
  have b2 : Boxed W bp 9 (.string ⟨#[32]⟩) := (hW.block bp h2.lt).trans h2
  have b3 : Boxed W bv 3 (.int .i64 0) := (hW.block bv h3.lt).trans h3
  have c2 := b2.cell
  show CallsIn Fence.wide n Tryz.prog 84 #[.func (.yield l) #[] #[], .pointer (some ⟨bp, 0, none⟩), .pointer (some ⟨bs, 0, none⟩), .pointer (some ⟨bv, 0, none⟩)] W _
  refine callsIn_of_wp Tryz.func84 rfl trivial ?_ rfl
  simp only [Tryz.ntmps84, List.size_toArray, List.length_cons, List.length_nil, Nat.reduceAdd, Nat.reduceSub, Array.replicate_succ, Array.replicate_zero, List.push_toArray, List.append_toArray, List.nil_append, List.cons_append]
  gi_wp2
  gi_loopw [7] (fun u wr => ∃ (pre : List Pc) (rest : ByteArray), splB s = pre.map (·.1) ++ splB rest ∧ rest.size ≤ 1000000 ∧ Boxed wr bs 9 (.string rest) ∧ Boxed wr bp 9 (.string ⟨#[32]⟩) ∧ Boxed wr bv 3 (.int .i64 0) ∧ J pre wr) (fun _ wr => szAt wr bs)
  case atStart => exact ⟨[], s, rfl, hl, b1, b2, b3, h0⟩
  case round =>
    obtain ⟨pre, rest, hx, hr, q1, q2, q3, hj⟩ := hrel
    have d1 := q1.cell
    have d2 := q2.cell
    have d3 := q3.cell
    have f1 := q1.frozen
    have IX := Tryz.strings_Index_one rest 32 wr
    rcases splB_cases rest with ⟨e1, e2⟩ | ⟨i, e1, hi, e2⟩
    · rw [e1] at IX
      obtain ⟨fn, tmps, assign, body, hy, hR⟩ := hY pre ⟨rest, hr⟩ wr hj (by rw [hx, e2]; simp)
      gi_wp2_with (refine ⟨trivial, ?_⟩; gi_at_call 86; refine (callsIn_wide.2 IX).mono ?_; rintro e w' ⟨rfl, rfl⟩)
      refine hR.mono ?_
      rintro e W3 (⟨rfl, hJ3, hk3⟩ | ⟨rfl, hJx3⟩)
      · gi_wp2
        go_end0
        exact ⟨⟨_, rfl⟩, .inl ⟨pre ++ [⟨rest, hr⟩], by rw [hx, e2]; simp, hJ3⟩⟩
      · gi_wp2
        go_end0
        exact ⟨⟨_, rfl⟩, .inr ⟨pre ++ [⟨rest, hr⟩], by rw [hx, e2]; simp, hJx3⟩⟩
    · have hri2 : (rest.extract 0 i).size ≤ 1000000 := by rw [ByteArray.size_extract]; omega
      rw [e1] at IX
      obtain ⟨fn, tmps, assign, body, hy, hR⟩ := hY pre ⟨rest.extract 0 i, hri2⟩ wr hj (by rw [hx, e2]; simp)
      gi_wp2_with (refine ⟨trivial, ?_⟩; gi_at_call 86; refine (callsIn_wide.2 IX).mono ?_; rintro e w' ⟨rfl, rfl⟩)
      have hii : (i : Int) < (rest.size : Int) := by omega
      have hri : (rest.size : Int) ≤ 1000000 := by omega
      refine hR.mono ?_
      rintro e W3 (⟨rfl, hJ3, hk3⟩ | ⟨rfl, hJx3⟩)
      · have q1' : Boxed W3 bs 9 (.string rest) := (hk3 bs (by simp)).trans q1
        have q2' : Boxed W3 bp 9 (.string ⟨#[32]⟩) := (hk3 bp (by simp)).trans q2
        have q3' : Boxed W3 bv 3 (.int .i64 0) := (hk3 bv (by simp)).trans q3
        have d1' := q1'.cell
        have d2' := q2'.cell
        have d3' := q3'.cell
        have f1' := q1'.frozen
        have hmz := sz_box d1
        clear d1 d2 d3 f1 q1 q2 q3 IX hk3 hR hy hj
        gi_wp2
        have hsz : (rest.extract (i + 1) rest.size).size = rest.size - (i + 1) := by rw [ByteArray.size_extract, Nat.min_self]
        have q4 := q1'.set (.string (rest.extract (i + 1) rest.size))
        go_roundw
        case rel => exact ⟨pre ++ [⟨rest.extract 0 i, hri2⟩], _, by rw [hx, e2]; simp, by omega, q4, q2'.kept (grownBy_setCell' _ _ _) (fun e => hsp (by injection e with e; exact e.symm)), q3'.kept (grownBy_setCell' _ _ _) (fun e => hsv (by injection e with e; exact e.symm)), hJ2 _ _ _ hJ3⟩
        case measure => rw [sz_box q4.cell, hsz, hmz]; omega
      · gi_wp2
        refine bodyPost_ret (results_none rfl _ _ _) rfl ?_
        exact ⟨⟨_, rfl⟩, .inr ⟨pre ++ [⟨rest.extract 0 i, hri2⟩], ⟨splB (rest.extract (i + 1) rest.size), by rw [hx, e2]; simp⟩, hJx3⟩⟩
end Go.Proofs.YtnbjkpfpcggopaaGreatDoor.Ev

namespace Go.Proofs.YtnbjkpfpcggopaaGreatDoor.Ev
open Go Go.RowKit Go.Shelf Go.Proofs Go.Proofs.YtnbjkpfpcggopaaGreatDoorW.PrintWords Go.Proofs.YtnbjkpfpcggopaaGreatDoor.Kit Go.Proofs.YtnbjkpfpcggopaaGreatDoor.PAll Go.Proofs.YtnbjkpfpcggopaaGreatDoor.Dl Go.Proofs.YtnbjkpfpcggopaaGreatDoor.Dx
attribute [local go_sem] Oper.semAt_some
set_option linter.unusedSimpArgs false
set_option linter.unusedVariables false

theorem results_cc {fn : Func} {p q : Tmp} {ty tz : TypeId} (h : fn.results = #[.cell p ty, .cell q tz]) (tmps : Array Value) (P : Program) (w : World) :
    (results fn tmps).run P w =
      ((asAddr (tmps.getD p undef)).run P w).andThen fun a w₁ => ((loadVar ty a).run P w₁).andThen fun v w₂ => ((asAddr (tmps.getD q undef)).run P w₂).andThen fun b w₃ => ((loadVar tz b).run P w₃).andThen fun u w₄ => .ok (.tuple #[v, u]) w₄ := by
  simp only [results, h]
  simp [Sem.run_bind, Result.andThen]
theorem res_cc {P : Program} {fn : Func} {p q : Tmp} {ty tz : TypeId} (h : fn.results = #[.cell p ty, .cell q tz]) (tmps : Array Value) (w : World) (a b : Addr) (u v : Value)
    (hp : tmps.getD p undef = .pointer (some a)) (hq : tmps.getD q undef = .pointer (some b)) (ha : (loadVar ty a).run P w = .ok u w) (hb : (loadVar tz b).run P w = .ok v w) :
    (results fn tmps).run P w = .ok (.tuple #[u, v]) w := by
  rw [results_cc h, hp, hq]
  simp only [asAddr, Sem.run_pure, Result.andThen]
  rw [ha]
  simp only [Result.andThen]
  rw [hb]
theorem load_vec (w : World) (a : Addr) (v : Value) (h : w.cell? a = some v) : (loadVar 23 a).run Tryz.prog w = .ok v w := by
  simp [loadVar, go_sem, Tryz.underlying23, h]
theorem load_err (w : World) (a : Addr) (v : Value) (h : w.cell? a = some v) : (loadVar 34 a).run Tryz.prog w = .ok v w := by
  simp [loadVar, go_sem, Tryz.underlying34, h]
theorem splitSeq_any (s : ByteArray) (w : World) : Calls Tryz.prog 68 #[.string s, .string ⟨#[32]⟩, .int .i64 0] w fun e w' => e = .returned (.func (.func 84) #[] #[.pointer (some ⟨w.heap.size + 1, 0, none⟩), .pointer (some ⟨w.heap.size, 0, none⟩), .pointer (some ⟨w.heap.size + 2, 0, none⟩)]) ∧ w' = ((w.alloc (.cells #[.string s] 9)).alloc (.cells #[.string ⟨#[32]⟩] 9)).alloc (.cells #[.int .i64 0] 3) := by
  have hmf : ∀ (fn : Fn) (first cap : Array Value) (w : World), (Instr.makeFunc fn first cap).run Tryz.prog w = .ok (.func fn first cap) w := fun _ _ _ _ => rfl
  go_enter Tryz.func68, Tryz.ntmps68
  go_wp2
  go_ret
  exact ⟨rfl, rfl⟩
theorem seq_any (s : ByteArray) (w : World) : Calls Tryz.prog 57 #[.string s, .string ⟨#[32]⟩] w fun e w' => e = .returned (.func (.func 84) #[] #[.pointer (some ⟨w.heap.size + 1, 0, none⟩), .pointer (some ⟨w.heap.size, 0, none⟩), .pointer (some ⟨w.heap.size + 2, 0, none⟩)]) ∧ w' = ((w.alloc (.cells #[.string s] 9)).alloc (.cells #[.string ⟨#[32]⟩] 9)).alloc (.cells #[.int .i64 0] 3) := by
  have S := Lib.hid (splitSeq_any s)
  go_enter Tryz.func57, Tryz.ntmps57
  go_wp2_with (go_at_call 68; refine (S.out _).mono ?_; rintro en w1 ⟨rfl, rfl⟩)
  go_ret
  exact ⟨rfl, rfl⟩
def flatD (l : List S25) : List Value := l.flatMap fun x => [.int .i64 x.f0, .int .i64 x.f1]
theorem cell_two_new (w : World) (x y : Value) (t : TypeId) : ∀ j u, [x, y][j]? = some u → (w.alloc (.cells #[x, y] t)).cell? ((⟨w.heap.size, 0, none⟩ : Addr).add j) = some u := by
  intro j u hj
  rw [add0, blk_cell (blk_new w _) j]
  match j, hj with
  | 0, hj => exact hj
  | 1, hj => exact hj
theorem flat_get2 (l : List S25) : ∀ (j : Nat) (p : S25), l[j]? = some p → ((flatD l).drop (j * 2)).take 2 = [.int .i64 p.f0, .int .i64 p.f1] := by
  induction l with
  | nil => intro j p h; simp at h
  | cons x l ih =>
    intro j p h
    have e : flatD (x :: l) = .int .i64 x.f0 :: .int .i64 x.f1 :: flatD l := rfl
    cases j with
    | zero =>
      obtain rfl : x = p := by simpa using h
      rw [e]; rfl
    | succ j =>
      rw [e, show (j + 1) * 2 = j * 2 + 1 + 1 by omega, List.drop_succ_cons, List.drop_succ_cons]
      exact ih j p (by simpa using h)
theorem flat_len (l : List S25) : (flatD l).length = l.length * 2 := by
  induction l with
  | nil => rfl
  | cons x l ih =>
    have e : flatD (x :: l) = .int .i64 x.f0 :: .int .i64 x.f1 :: flatD l := rfl
    rw [e, List.length_cons, List.length_cons, ih, List.length_cons]
    omega
theorem R_own_flat {w : World} {base : Nat} {ok : Nat → Prop} {v : Value} {l : List S25} {n : Nat} (hn : n = l.length) (h : w.ownsRow base 25 2 v n (flatD l)) (hok : ∀ k, v.ownBlock = some k → ok k) : k25.R 25 w base ok v l := by
  subst hn
  exact ⟨hok, flatD l, h, flat_len l, fun j p hj => by
    have e : k25.sz = 2 := rfl
    rw [e, flat_get2 l j p hj]
    exact k25_mkM _ _ _ p⟩
theorem spl_len : ∀ l : List UInt8, (spl l).length ≤ l.length + 1
  | [] => Nat.le_refl _
  | c :: l => by
    have ih := spl_len l
    unfold spl
    split
    · simp only [List.length_cons]; omega
    · split
      · simp
      · rename_i a r e
        rw [e] at ih
        simp only [List.length_cons] at ih ⊢
        omega
theorem splB_len (s : ByteArray) : (splB s).length ≤ s.size + 1 := by
  unfold splB
  rw [List.length_map]
  have := spl_len s.data.toList
  have e : s.data.toList.length = s.size := by rw [Array.length_toList]; rfl
  omega
/-- What the loop's body keeps: the vector that was read so far in its box, the two results' boxes. -/
def ParI (w : World) (pre : List Pc) (W : World) : Prop :=
  (∃ v, Boxed W (w.heap.size + 1 + 1) 23 v ∧ W.ownsRow (w.heap.size + 1 + 1 + 1 + 3) 25 2 v pre.length (flatD (dotsB (pre.map (·.1))))) ∧ w.heap.size + 1 + 1 + 1 + 3 ≤ W.heap.size ∧
  Boxed W w.heap.size 23 (.slice none 0 0) ∧ Boxed W (w.heap.size + 1) 34 (.int .i64 0) ∧ Below w.heap.size w W
/-- A round has left by the return. -/
def ParX (w : World) (pre : List Pc) (W : World) : Prop :=
  Boxed W w.heap.size 23 (.slice none 0 0) ∧ Boxed W (w.heap.size + 1) 34 (.int .i64 6) ∧ (∃ p ∈ pre.map (·.1), (dotP p).2.2 ≠ 0) ∧ Below w.heap.size w W
theorem own_ne {v : Value} {row : Option Nat} (hr : ∀ g, v.ownBlock = some g → row ≠ some g) : v.ownBlock = none ∨ v.ownBlock ≠ row := by
  cases h : v.ownBlock with
  | none => exact .inl rfl
  | some g => exact .inr (fun e => hr g h e.symm)
theorem own_cells {W : World} {base : Nat} {e : TypeId} {size : Nat} {v : Value} {k : Nat} {xs : List Value} (h : W.ownsRow base e size v k xs) {g : Nat} (hg : v.ownBlock = some g) : ∃ o : Obj, W.heap[g]? = some o ∧ o.isCells = true := by
  rcases h.2 with ⟨rfl, _⟩ | ⟨g', cap, cur, rfl, _, hgb, _⟩
  · simp [Value.ownBlock] at hg
  · obtain rfl : g' = g := by simpa [Value.ownBlock] using hg
    exact ⟨_, hgb, rfl⟩
theorem own_ge {W : World} {base : Nat} {e : TypeId} {size : Nat} {v : Value} {k : Nat} {xs : List Value} (h : W.ownsRow base e size v k xs) {g : Nat} (hg : v.ownBlock = some g) : base ≤ g := by
  rcases h.2 with ⟨rfl, _⟩ | ⟨g', cap, cur, rfl, hb, _⟩
  · simp [Value.ownBlock] at hg
  · obtain rfl : g' = g := by simpa [Value.ownBlock] using hg
    exact hb
theorem own_lower {W : World} {base base' : Nat} {e : TypeId} {size : Nat} {v : Value} {k : Nat} {xs : List Value} (h : W.ownsRow base e size v k xs) (hb : base' ≤ base) : W.ownsRow base' e size v k xs := by
  refine ⟨h.1, ?_⟩
  rcases h.2 with q | ⟨g, cap, cur, e1, e2, e3⟩
  · exact .inl q
  · exact .inr ⟨g, cap, cur, e1, Nat.le_trans hb e2, e3⟩
theorem parI_grown {w X Y : World} {pre : List Pc} {row : Option Nat} (hI : ParI w pre X) (hg : X.grownBy Y row) (h1 : ∀ k, k < w.heap.size + 1 + 1 + 1 → row ≠ some k) (h2 : ∀ g, w.heap.size + 1 + 1 + 1 + 3 ≤ g → (∃ o : Obj, X.heap[g]? = some o ∧ o.isCells = true) → row ≠ some g) : ParI w pre Y := by
  obtain ⟨⟨v, hv, hr⟩, hz, b0, b1, hB⟩ := hI
  exact ⟨⟨v, hv.kept hg (fun e => h1 _ (by omega) e.symm), hr.kept hg (own_ne (fun g hv => h2 g (own_ge hr hv) (own_cells hr hv)))⟩, Nat.le_trans hz hg.size, b0.kept hg (fun e => h1 _ (by omega) e.symm), b1.kept hg (fun e => h1 _ (by omega) e.symm), hB.grown hg hB.size (fun k e => Nat.le_of_not_lt fun q => h1 k (by omega) e)⟩
theorem flatD_app (a b : List S25) : flatD (a ++ b) = flatD a ++ flatD b := by unfold flatD; rw [List.flatMap_append]
set_option maxRecDepth 100000 in
set_option maxHeartbeats 4000000 in
theorem vparse_any (s : ByteArray) (hl : s.size ≤ 1000000) (w : World) (hG : DOK w) : Calls Tryz.prog 46 #[.string s] w (MadeT (vecP s).1 (vecP s).2 w) := by
  by_cases h0 : s.data.toList = [45]
  · have E := Lib.hid (show vecP s = ([], 0) from if_pos h0)
    obtain rfl : s = ⟨#[45]⟩ := bytes_eq h0
    clear hl h0 hG
    go_enter Tryz.func46, Tryz.ntmps46
    go_wp2
    have d0 := ((Boxed.new w 23 (.slice none 0 0)).alloc (.cells #[.int .i64 0] 34)).cell
    have d1 := (Boxed.new (w.alloc (.cells #[.slice none 0 0] 23)) 34 (.int .i64 0)).cell
    rw [World.size_alloc] at d1
    refine bodyPost_ret (res_cc rfl _ _ ⟨w.heap.size, 0, none⟩ ⟨w.heap.size + 1, 0, none⟩ (.slice none 0 0) (.int .i64 0) rfl rfl (load_vec _ _ _ d0) (load_err _ _ _ d1)) rfl ?_
    rw [E.out]
    exact ⟨_, rfl, Kd.R_nil _ _ _ _ _, below_alloc (below_alloc (Below.refl _ _) _) _⟩
  · have hs : (s.toList == [45]) = false := by rw [Lib.toList_data]; exact beq_eq_false_iff_ne.2 h0
    refine (callsIn_wide (n := 5)).1 ?_
    refine callsIn_of_wp_marks Tryz.func46 rfl trivial ?_ rfl
    simp only [Tryz.ntmps46, List.size_toArray, List.length_cons, List.length_nil, Nat.reduceAdd, Nat.reduceSub, Array.replicate_succ, Array.replicate_zero, List.push_toArray, List.append_toArray, List.nil_append, List.cons_append]
    gi_wp2_with (refine ⟨trivial, ?_⟩; gi_at_call 57; refine (callsIn_wide.2 (seq_any s _)).mono ?_; rintro e w' ⟨rfl, rfl⟩)
    obtain ⟨V, hV⟩ : ∃ V, ((w.alloc (.cells #[.slice none 0 0] 23)).alloc (.cells #[.int .i64 0] 34)).alloc (.cells #[.slice none 0 0] 23) = V := ⟨_, rfl⟩
    have hVs : V.heap.size = w.heap.size + 1 + 1 + 1 := by rw [← hV]; simp
    have x0 : Boxed V w.heap.size 23 (.slice none 0 0) := by rw [← hV]; exact ((Boxed.new w _ _).alloc _).alloc _
    have x1 : Boxed V (w.heap.size + 1) 34 (.int .i64 0) := by
      have := (Boxed.new (w.alloc (.cells #[.slice none 0 0] 23)) 34 (.int .i64 0)).alloc (.cells #[.slice none 0 0] 23)
      rw [World.size_alloc] at this
      rw [← hV]; exact this
    have x2 : Boxed V (w.heap.size + 1 + 1) 23 (.slice none 0 0) := by
      have := Boxed.new ((w.alloc (.cells #[.slice none 0 0] 23)).alloc (.cells #[.int .i64 0] 34)) 23 (.slice none 0 0)
      rw [World.size_alloc, World.size_alloc] at this
      rw [← hV]; exact this
    have xB : Below w.heap.size w V := by rw [← hV]; exact below_alloc (below_alloc (below_alloc (Below.refl _ _) _) _) _
    rw [hV]
    have y0 : Boxed (((V.alloc (.cells #[.string s] 9)).alloc (.cells #[.string ⟨#[32]⟩] 9)).alloc (.cells #[.int .i64 0] 3)) (w.heap.size + 1 + 1 + 1) 9 (.string s) := by
      have := ((Boxed.new V 9 (.string s)).alloc (.cells #[.string ⟨#[32]⟩] 9)).alloc (.cells #[.int .i64 0] 3)
      rwa [hVs] at this
    have y1 : Boxed (((V.alloc (.cells #[.string s] 9)).alloc (.cells #[.string ⟨#[32]⟩] 9)).alloc (.cells #[.int .i64 0] 3)) (w.heap.size + 1 + 1 + 1 + 1) 9 (.string ⟨#[32]⟩) := by
      have := (Boxed.new (V.alloc (.cells #[.string s] 9)) 9 (.string ⟨#[32]⟩)).alloc (.cells #[.int .i64 0] 3)
      rwa [World.size_alloc, hVs] at this
    have y2 : Boxed (((V.alloc (.cells #[.string s] 9)).alloc (.cells #[.string ⟨#[32]⟩] 9)).alloc (.cells #[.int .i64 0] 3)) (w.heap.size + 1 + 1 + 1 + 2) 3 (.int .i64 0) := by
      have := Boxed.new ((V.alloc (.cells #[.string s] 9)).alloc (.cells #[.string ⟨#[32]⟩] 9)) 3 (.int .i64 0)
      rwa [World.size_alloc, World.size_alloc, hVs] at this
    have z0 := (x0.alloc (.cells #[.string s] 9)).alloc (.cells #[.string ⟨#[32]⟩] 9) |>.alloc (.cells #[.int .i64 0] 3)
    have z1 := (x1.alloc (.cells #[.string s] 9)).alloc (.cells #[.string ⟨#[32]⟩] 9) |>.alloc (.cells #[.int .i64 0] 3)
    have z2 := (x2.alloc (.cells #[.string s] 9)).alloc (.cells #[.string ⟨#[32]⟩] 9) |>.alloc (.cells #[.int .i64 0] 3)
    have zB : Below w.heap.size w (((V.alloc (.cells #[.string s] 9)).alloc (.cells #[.string ⟨#[32]⟩] 9)).alloc (.cells #[.int .i64 0] 3)) := below_step xB (below_alloc (below_alloc (below_alloc (Below.refl _ _) _) _) _)
    have hUs : (((V.alloc (.cells #[.string s] 9)).alloc (.cells #[.string ⟨#[32]⟩] 9)).alloc (.cells #[.int .i64 0] 3)).heap.size = w.heap.size + 1 + 1 + 1 + 3 := by simp [hVs]
    generalize ((V.alloc (.cells #[.string s] 9)).alloc (.cells #[.string ⟨#[32]⟩] 9)).alloc (.cells #[.int .i64 0] 3) = U at y0 y1 y2 z0 z1 z2 zB hUs ⊢
    clear hV hVs x0 x1 x2 xB
    obtain ⟨i0, hi, hz0, hz1, hz2⟩ := info_parts info25
    have hSL := splB_len s
    refine range_cell (c := ⟨w.heap.size + 1 + 1 + 1, 0, none⟩) (ks := [w.heap.size + 1 + 1 + 1, w.heap.size + 1 + 1 + 1 + 1, w.heap.size + 1 + 1 + 1 + 2]) rfl (by omega) (gf := 84) rfl trivial (enters_of Tryz.func84 (by kernel_rfl) rfl)
      (it_any 4 (by omega) _ _ _ (by omega) (by omega) s hl U y0 y1 y2) (by simp [hUs]) (fun _ => rfl)
      (ParI w) (fun c pre W => c = .ret ∧ ParX w pre W) ?hI ?hIc ?hIx ?h0 (fun x => { tmps := #[.string s, undef, .pointer (some ⟨w.heap.size, 0, none⟩), .pointer (some ⟨w.heap.size + 1, 0, none⟩), .pointer (some ⟨w.heap.size + 1 + 1, 0, none⟩), .string x.1, undef, undef, .string s, .bool false, .string s, .func (.func 84) #[] #[.pointer (some ⟨w.heap.size + 1 + 1 + 1 + 1, 0, none⟩), .pointer (some ⟨w.heap.size + 1 + 1 + 1, 0, none⟩), .pointer (some ⟨w.heap.size + 1 + 1 + 1 + 2, 0, none⟩)], .string x.1, undef, undef, undef, undef, undef, undef, undef, undef, undef, undef, undef, undef, undef, undef, undef, undef], defers := [] }) ?assign ?body ?done ?stop
    case hI =>
      intro pre X Y row hI hg hr
      refine parI_grown hI hg (fun k hk e => by have := (hr k e).1; omega) (fun g hv ho e => ?_)
      obtain ⟨o, h1, h2⟩ := ho
      obtain ⟨_, o', h3, h4⟩ := hr g e
      rw [h1] at h3
      cases h3
      rw [h2] at h4
      cases h4
    case hIc =>
      intro pre X v hI
      exact parI_grown hI (grownBy_setCell' _ _ _) (fun k hk e => by injection e with e; omega) (fun g hg _ e => by injection e with e; omega)
    case hIx =>
      intro c pre X Y row ⟨rfl, b0, b1, hp, hB⟩ hg hr
      exact ⟨rfl, b0.kept hg (fun e => by have := (hr _ e.symm).1; omega), b1.kept hg (fun e => by have := (hr _ e.symm).1; omega), hp, hB.grown hg hB.size (fun k e => by have := (hr k e).1; omega)⟩
    case h0 => exact ⟨⟨_, z2, World.ownsRow_nil _ _ _ _⟩, Nat.le_of_eq hUs.symm, z0, z1, zB⟩
    case assign =>
      intro l x W K hK
      gi_wp2
      exact hK
    case body =>
      rintro l pre x W ⟨⟨v, hv, hrow⟩, hz, b0, b1, hB⟩ hlt
      have hc := hv.cell
      have PA := Lib.hid (parse_any x.1 x.2 W (hG.below hB))
      rcases dotP_err x.1 with e0 | ⟨e0, e1, e2⟩
      · rw [e0] at PA
        obtain ⟨d0, hd0⟩ : ∃ d, (dotP x.1).1 = d := ⟨_, rfl⟩
        obtain ⟨d1, hd1⟩ : ∃ d, (dotP x.1).2.1 = d := ⟨_, rfl⟩
        rw [hd0, hd1] at PA
        have hmx : pre.length ≤ 1000001 := by omega
        gi_wp2_with (first
          | (refine ⟨trivial, ?_⟩; gi_at_call 58; refine (CallsIn.inRound l (callsIn_wide.2 PA.out)).mono ?_; rintro e w1 ⟨rfl, hq⟩; have hv1 := (show Boxed w1 (w.heap.size + 1 + 1) 23 v from (hq.block _ hv.lt).trans hv).alloc (.cells #[.int .i64 d0, .int .i64 d1] 25); have hc1 := hv1.cell; have row1 := (hrow.kept (below_grown hq none) (own_ne (fun g _ e => by cases e))).alloc (.cells #[.int .i64 d0, .int .i64 d1] 25); have CT := cell_two_new (w1.alloc (.cells #[.int .i64 d0, .int .i64 d1] 25)) (.int .i64 d0) (.int .i64 d1) 25; rw [World.size_alloc] at CT; have KW := (below_step (show Below W.heap.size W W from Below.refl _ _) hq))
          | (gi_at_builtin; refine wpListIn_append_own _ rfl _ _ 23 rfl (w.heap.size + 1 + 1 + 1 + 3) 25 i0 (.agg #[.int .i64 0, .int .i64 0]) 2 16 Tryz.underlying23 hi hz0 hz1 hz2 rfl (by decide) v _ _ rfl (row1.alloc _) ⟨w1.heap.size + 1, 0, none⟩ 1 1 [.int .i64 d0, .int .i64 d1] rfl rfl CT (by simp [Value.oneCell']) (by unfold maxLen; omega) (by omega) (by have := hq.size; simp; omega) ?_; intro v' w2 hown' hgrow _; obtain ⟨g', cap', rfl⟩ := ownsRow_succ hown'; obtain ⟨hv2, hv3, hr3, hk3, hb3⟩ := hv1.appended (by decide) (own_lower row1 (by omega : w.heap.size ≤ _)) (by have := hB.size; have := hq.size; simp; omega) (by omega) (own_lower hown' (by omega)) hgrow; have hc3 := hv2.cell; have hf3 := hv2.frozen)
          | go_in)
        have hlt5 : ∀ b, b < w.heap.size + 1 + 1 + 1 + 3 → b ≠ w.heap.size + 1 + 1 → (w2.setCell ⟨w.heap.size + 1 + 1, 0, none⟩ (.slice (some ⟨g', 0, none⟩) (pre.length + 1) cap')).heap[b]? = W.heap[b]? := fun b hb1 hb2 =>
          (Below.heap_setCell _ _ _ b hb2).trans ((hgrow.block b (by have := hq.size; simp; omega) (fun e => by have := own_ge row1 e.symm; omega)).trans ((Below.heap_alloc _ _ b (by have := hq.size; simp; omega)).trans ((Below.heap_alloc _ _ b (by have := hq.size; omega)).trans (hq.block b (by omega)))))
        refine ⟨((KeepsOthers.of_grownBy (below_grown hq none) (fun j o e => by cases e)).trans (KeepsOthers.alloc _ _)).trans hk3, fun b hb => hlt5 b (by simp at hb; omega) (by simp at hb; omega), ⟨_, hv3, ?_⟩, ?_, ?_, ?_, ?_⟩
        · have r9 := hown'.kept (grownBy_setCell' w2 (w.heap.size + 1 + 1) (.slice (some ⟨g', 0, none⟩) (pre.length + 1) cap')) (own_ne (fun g hg e => by injection e with e; have := own_ge hown' hg; omega))
          have e9 : flatD (dotsB ((pre ++ [x]).map (·.1))) = flatD (dotsB (pre.map (·.1))) ++ [.int .i64 d0, .int .i64 d1] := by
            rw [List.map_append]
            unfold dotsB
            rw [List.map_append, flatD_app]
            simp [flatD, hd0, hd1]
          rw [e9, List.length_append]
          exact r9
        · have h8 := hb3.size
          have h9 := hq.size
          rw [World.size_alloc] at h8
          omega
        · exact (hlt5 _ (by omega) (by omega)).trans b0
        · exact (hlt5 _ (by omega) (by omega)).trans b1
        · exact hB.trans (((hq.mono hB.size).alloc (by have := hB.size; have := hq.size; omega) _).trans hb3)
      · rw [e0, e1, e2] at PA
        gi_wp2_with (first
          | (refine ⟨trivial, ?_⟩; gi_at_call 58; refine (CallsIn.inRound l (callsIn_wide.2 PA.out)).mono ?_; rintro e w1 ⟨rfl, hq⟩; have c0 := (show Boxed w1 w.heap.size 23 _ from (hq.block _ b0.lt).trans b0).alloc (.cells #[.int .i64 0, .int .i64 0] 25); have c1 := (show Boxed w1 (w.heap.size + 1) 34 _ from (hq.block _ b1.lt).trans b1).alloc (.cells #[.int .i64 0, .int .i64 0] 25); have k0 := c0.cell; have k1 := c1.cell; have g0 := c0.frozen; have g1 := c1.frozen)
          | go_in)
        have kB : Below w.heap.size w (w1.alloc (.cells #[.int .i64 0, .int .i64 0] 25)) := hB.trans ((hq.mono hB.size).alloc (by have := hB.size; have := hq.size; omega) _)
        exact ⟨((((KeepsOthers.of_grownBy (below_grown hq none) (fun j o e => by cases e)).trans (KeepsOthers.alloc _ _)).trans (KeepsOthers.setCell _ _ _)).trans (KeepsOthers.setCell _ _ _)), rfl,
          (c0.set _).kept (grownBy_setCell' _ _ _) (fun e => by injection e with e; omega), (c1.kept (grownBy_setCell' _ _ _) (fun e => by injection e with e; omega)).set _, ⟨x.1, by simp, by rw [e0]; decide⟩,
          (kB.setCell (p := ⟨w.heap.size, 0, none⟩) (Nat.le_refl _) _).setCell (p := ⟨w.heap.size + 1, 0, none⟩) (Nat.le_succ _) _⟩
    case done =>
      rintro D ys W hD hys ⟨⟨v, hv, hrow⟩, hz, b0, b1, hB⟩ hK
      rw [hys] at hrow
      have hn : ys.length = (dotsB (splB s)).length := by rw [← hys]; simp [dotsB]
      have R := R_own_flat (ok := fun j => w.heap.size + 1 + 1 + 1 + 3 ≤ j ∧ j ≠ D) hn (own_lower hrow (by omega : w.heap.size ≤ _)) (fun g hg => ⟨own_ge hrow hg, fun e => by
        obtain ⟨o, h1, h2⟩ := own_cells hrow hg
        rw [e, hK] at h1
        cases h1
        cases h2⟩)
      obtain ⟨A2, c2, rfl, hcap, hC⟩ := Kd.R_reads R
      have hml : (dotsB (splB s)).length ≤ 10000000 := by unfold dotsB; rw [List.length_map]; omega
      have hDs : w.heap.size + 1 + 1 + 1 + 3 ≤ D := by omega
      have hDW : D < W.heap.size := (Array.getElem?_eq_some_iff.1 hK).1
      have hc2 := hv.cell
      by_cases hok : VOk (dotsB (splB s))
      · have E := Lib.hid (show vecP s = (dotsB (splB s), 0) by unfold vecP; rw [if_neg h0, if_pos hok])
        have VV := Lib.hid (vvalid_any A2 c2 (dotsB (splB s)) true W hC hml ⟨fun _ => (vecok_iff _).2 hok, fun _ => rfl⟩)
        have RR := Lib.hid R
        clear R hC hrow
        generalize dotsB (splB s) = ds at *
        gi_wp2_with (first
          | (refine ⟨trivial, ?_⟩; gi_at_call 9; refine (callsIn_wide.2 VV.out).mono ?_; rintro e w9 ⟨rfl, hq⟩; have c0 := (show Boxed w9 w.heap.size 23 _ from (hq.block _ b0.lt).trans b0); have c1 := (show Boxed w9 (w.heap.size + 1) 34 _ from (hq.block _ b1.lt).trans b1); have cc2 := (show Boxed w9 (w.heap.size + 1 + 1) 23 _ from (hq.block _ hv.lt).trans hv); have k0 := c0.cell; have k1 := c1.cell; have k2 := cc2.cell; have g0 := c0.frozen; have g1 := c1.frozen)
          | go_in)
        have hK9 : w9.heap[D]? = some (.deferred (some [])) := (hq.block D hDW).trans hK
        have kB := hB.trans (hq.mono hB.size)
        refine ⟨by simp, .inl ⟨_, _, rfl, run_takeDeferred (((KeepsOthers.setCell _ _ _).trans (KeepsOthers.setCell _ _ _)).same D _ hK9 rfl), ?_⟩⟩
        have d0 := ((c0.set (.slice A2 ds.length c2)).kept (grownBy_setCell' _ (w.heap.size + 1) (.int .i64 0)) (fun e => by injection e with e; omega)).kept (grownBy_putObj' _ D (.deferred none)) (fun e => by injection e with e; omega)
        have d1 := ((c1.kept (grownBy_setCell' _ w.heap.size (.slice A2 ds.length c2)) (fun e => by injection e with e; omega)).set (.int .i64 0)).kept (grownBy_putObj' _ D (.deferred none)) (fun e => by injection e with e; omega)
        refine ⟨_, res_cc rfl _ _ ⟨w.heap.size, 0, none⟩ ⟨w.heap.size + 1, 0, none⟩ _ _ rfl rfl (load_vec _ _ _ d0.cell) (load_err _ _ _ d1.cell), ?_⟩
        rw [E.out]
        refine ⟨_, rfl, ?_, ((kB.setCell (p := ⟨w.heap.size, 0, none⟩) (Nat.le_refl _) _).setCell (p := ⟨w.heap.size + 1, 0, none⟩) (Nat.le_succ _) _).grown (grownBy_putObj' _ D _) (Nat.le_trans kB.size (by simp)) (fun k e => by injection e with e; omega)⟩
        have r1 := Kd.R_far (Kd.R_below RR.out hq) (p := ⟨w.heap.size, 0, none⟩) (fun k hk => by have := hk.1; show k ≠ w.heap.size; omega) (.slice A2 ds.length c2)
        have r2 := Kd.R_far r1 (p := ⟨w.heap.size + 1, 0, none⟩) (fun k hk => by have := hk.1; show k ≠ w.heap.size + 1; omega) (.int .i64 0)
        exact Kd.R_mono (Kd.R_grown r2 (grownBy_putObj' _ D _) (fun k hk e => by injection e with e; exact hk.2 e)) (fun j hj => by have := hj.1; omega)
      · have E := Lib.hid (show vecP s = ([], 6) by unfold vecP; rw [if_neg h0, if_neg hok])
        have VV := Lib.hid (vvalid_any A2 c2 (dotsB (splB s)) false W hC hml ⟨fun q => Bool.noConfusion q, fun q => absurd ((vecok_iff _).1 q) hok⟩)
        clear R hC hrow
        generalize dotsB (splB s) = ds at *
        gi_wp2_with (first
          | (refine ⟨trivial, ?_⟩; gi_at_call 9; refine (callsIn_wide.2 VV.out).mono ?_; rintro e w9 ⟨rfl, hq⟩; have c0 := (show Boxed w9 w.heap.size 23 _ from (hq.block _ b0.lt).trans b0); have c1 := (show Boxed w9 (w.heap.size + 1) 34 _ from (hq.block _ b1.lt).trans b1); have cc2 := (show Boxed w9 (w.heap.size + 1 + 1) 23 _ from (hq.block _ hv.lt).trans hv); have k0 := c0.cell; have k1 := c1.cell; have k2 := cc2.cell; have g0 := c0.frozen; have g1 := c1.frozen)
          | go_in)
        have hK9 : w9.heap[D]? = some (.deferred (some [])) := (hq.block D hDW).trans hK
        have kB := hB.trans (hq.mono hB.size)
        refine ⟨by simp, .inl ⟨_, _, rfl, run_takeDeferred (((KeepsOthers.setCell _ _ _).trans (KeepsOthers.setCell _ _ _)).same D _ hK9 rfl), ?_⟩⟩
        have d0 := ((c0.set (.slice none 0 0)).kept (grownBy_setCell' _ (w.heap.size + 1) (.int .i64 6)) (fun e => by injection e with e; omega)).kept (grownBy_putObj' _ D (.deferred none)) (fun e => by injection e with e; omega)
        have d1 := ((c1.kept (grownBy_setCell' _ w.heap.size (.slice none 0 0)) (fun e => by injection e with e; omega)).set (.int .i64 6)).kept (grownBy_putObj' _ D (.deferred none)) (fun e => by injection e with e; omega)
        refine ⟨_, res_cc rfl _ _ ⟨w.heap.size, 0, none⟩ ⟨w.heap.size + 1, 0, none⟩ _ _ rfl rfl (load_vec _ _ _ d0.cell) (load_err _ _ _ d1.cell), ?_⟩
        rw [E.out]
        refine ⟨_, rfl, ?_, ((kB.setCell (p := ⟨w.heap.size, 0, none⟩) (Nat.le_refl _) _).setCell (p := ⟨w.heap.size + 1, 0, none⟩) (Nat.le_succ _) _).grown (grownBy_putObj' _ D _) (Nat.le_trans kB.size (by simp)) (fun k e => by injection e with e; omega)⟩
        exact Kd.R_nil _ _ _ _ _
    case stop =>
      rintro D c pre W hD hpre ⟨rfl, b0, b1, hp, hB⟩ hK
      have hDW : D < W.heap.size := (Array.getElem?_eq_some_iff.1 hK).1
      have E : vecP s = ([], 6) := by
        obtain ⟨p, h1, h2⟩ := hp
        unfold vecP
        rw [if_neg h0, if_neg (bad_piece (hpre.subset h1) h2)]
      gi_wp2
      refine ⟨by simp, .inl ⟨_, _, rfl, run_takeDeferred hK, ?_⟩⟩
      have c0 := b0.kept (grownBy_putObj' W D (.deferred none)) (fun e => by injection e with e; omega)
      have c1 := b1.kept (grownBy_putObj' W D (.deferred none)) (fun e => by injection e with e; omega)
      refine ⟨_, res_cc rfl _ _ ⟨w.heap.size, 0, none⟩ ⟨w.heap.size + 1, 0, none⟩ _ _ rfl rfl (load_vec _ _ _ c0.cell) (load_err _ _ _ c1.cell), ?_⟩
      rw [E]
      exact ⟨_, rfl, Kd.R_nil _ _ _ _ _, hB.grown (grownBy_putObj' W D _) hB.size (fun k e => by injection e with e; omega)⟩
end Go.Proofs.YtnbjkpfpcggopaaGreatDoor.Ev

namespace Go.Proofs.YtnbjkpfpcggopaaGreatDoor.PAll
open Go Go.RowKit Go.Proofs Go.Proofs.YtnbjkpfpcggopaaGreatDoorW.PrintWords Go.Proofs.YtnbjkpfpcggopaaGreatDoor.Dl Go.Proofs.YtnbjkpfpcggopaaGreatDoor.Dx Go.Proofs.YtnbjkpfpcggopaaGreatDoor.Ev

abbrev GOK (w : World) : Prop := DOK w
theorem GOK_below {w w' : World} (h : GOK w) (hb : Below w.heap.size w w') : GOK w' := h.below hb
/-- A value that reads as a row. -/
def Rd (w : World) (v : Value) (xs : List S25) : Prop := ∃ A c, v = .slice A xs.length c ∧ xs.length ≤ c ∧ k25.C w A xs.length xs
theorem Rd_below {w w1 : World} {v : Value} {xs : List S25} (h : Rd w v xs) (hb : Below w.heap.size w w1) : Rd w1 v xs := by
  obtain ⟨A, c, e, h1, h2⟩ := h
  exact ⟨A, c, e, h1, Kd.C_below h2 hb⟩
theorem Rd_alloc {w : World} {v : Value} {xs : List S25} (h : Rd w v xs) (o : Obj) : Rd (w.alloc o) v xs := Rd_below h (below_alloc (Below.refl _ _) _)
theorem Rd_drew {w : World} {v : Value} {xs : List S25} (h : Rd w v xs) : Rd w.drew v xs := Rd_below h (below_drew (Below.refl _ _))
theorem Rd_drewN {w : World} {v : Value} {xs : List S25} (h : Rd w v xs) (m : Nat) : Rd (w.drewN m) v xs := Rd_below h (pw_below_drewN (Below.refl _ _) m)
theorem R_elderD {w w1 : World} {base : Nat} {ok : Nat → Prop} {v : Value} {xs : List S25} (h : k25.R 25 w base ok v xs) (hb : Below w.heap.size w w1) : k25.R 25 w1 base (fun k => ok k ∧ True) v xs := Kd.R_mono (Kd.R_below h hb) (fun _ hk => ⟨hk, trivial⟩)
theorem Rd_slice {w : World} {v : Value} {xs : List S25} (h : Rd w v xs) : ∃ A c, v = .slice A xs.length c := by
  obtain ⟨A, c, e, _⟩ := h
  exact ⟨A, c, e⟩
theorem Rd_reads' {w : World} {A : Option Addr} {c : Nat} {xs : List S25} (h : Rd w (.slice A xs.length c) xs) : True ∧ xs.length ≤ c ∧ k25.C w A xs.length xs := by
  obtain ⟨A2, c2, e, h1, h2⟩ := h
  injection e with e1 e2 e3
  subst e1 e3
  exact ⟨trivial, h1, h2⟩
def vector_Valid.f (l0 : List S25) : Option (Bool) := if l0.length ≤ 100000 then some (decide (VOk l0)) else none
theorem vector_Valid.calls (A0 : Option Addr) (c0 : Nat) (l0 : List S25) (r : Bool) (w : World) (hr0 : Kd.C k25 w A0 l0.length l0) (hc0 : l0.length ≤ c0) (h : vector_Valid.f l0 = some r) :
    Calls Tryz.prog 9 #[.slice A0 l0.length c0] w fun e w' => e = .returned (.bool r) ∧ Below w.heap.size w w' := by
  unfold vector_Valid.f at h
  split at h
  · rename_i hq
    have h := Option.some.inj h
    subst h
    exact vvalid_any A0 c0 l0 _ w hr0 (by omega) (by rw [decide_eq_true_eq]; exact (vecok_iff l0).symm)
  · cases h
def vector_Get.f (l0 : List S25) (a1 : Int) : Option (Int) := if l0.length ≤ 100000 then some (getV l0 a1) else none
theorem vector_Get.calls (A0 : Option Addr) (c0 : Nat) (l0 : List S25) (a1 : Int) (r : Int) (w : World) (hr0 : Kd.C k25 w A0 l0.length l0) (hc0 : l0.length ≤ c0) (h : vector_Get.f l0 a1 = some r) :
    Calls Tryz.prog 11 #[.slice A0 l0.length c0, .int .i64 a1] w fun e w' => e = .returned (.int .i64 r) ∧ Below w.heap.size w w' := by
  unfold vector_Get.f at h
  split at h
  · rename_i hq
    have h := Option.some.inj h
    subst h
    exact get_any A0 c0 l0 a1 w hr0
  · cases h
def vector_Of.f (l0 : List S25) : Option (List S25 × Int) := if l0.length ≤ 100000 then some (ofV l0) else none
theorem vector_Of.calls (A0 : Option Addr) (c0 : Nat) (l0 : List S25) (r1 : List S25) (r2 : Int) (w : World) (hr0 : Kd.C k25 w A0 l0.length l0) (hc0 : l0.length ≤ c0) (h : vector_Of.f l0 = some (r1, r2)) :
    Calls Tryz.prog 39 #[.slice A0 l0.length c0] w fun e w' => ∃ v0_ : Value, e = .returned (.tuple #[v0_, .int .i64 r2]) ∧ Kd.R k25 25 w' w.heap.size (fun _ => True) v0_ r1 ∧ Below w.heap.size w w' := by
  unfold vector_Of.f at h
  split at h
  · rename_i hq
    have h := Option.some.inj h
    have h1 : (ofV l0).1 = r1 := by rw [h]
    have h2 : (ofV l0).2 = r2 := by rw [h]
    subst h1 h2
    refine (of_any A0 c0 l0 w hr0 (by omega)).mono ?_
    rintro e w' ⟨v, rfl, hr, hb⟩
    exact ⟨v, rfl, Kd.R_mono hr (fun _ _ => trivial), hb⟩
  · cases h
def vector_Raise.f (l0 : List S25) (a1_0 : Int) (a1_1 : Int) : Option (List S25 × Int) := if l0.length ≤ 100000 then some (mrgV l0 [⟨a1_0, a1_1⟩]) else none
theorem vector_Raise.calls (A0 : Option Addr) (c0 : Nat) (l0 : List S25) (a1_0 : Int) (a1_1 : Int) (r1 : List S25) (r2 : Int) (w : World) (hr0 : Kd.C k25 w A0 l0.length l0) (hc0 : l0.length ≤ c0) (h : vector_Raise.f l0 a1_0 a1_1 = some (r1, r2)) :
    Calls Tryz.prog 40 #[.slice A0 l0.length c0, .agg #[.int .i64 a1_0, .int .i64 a1_1]] w fun e w' => ∃ v0_ : Value, e = .returned (.tuple #[v0_, .int .i64 r2]) ∧ Kd.R k25 25 w' w.heap.size (fun _ => True) v0_ r1 ∧ Below w.heap.size w w' := by
  unfold vector_Raise.f at h
  split at h
  · rename_i hq
    have h := Option.some.inj h
    have h1 : (mrgV l0 [⟨a1_0, a1_1⟩]).1 = r1 := by rw [h]
    have h2 : (mrgV l0 [⟨a1_0, a1_1⟩]).2 = r2 := by rw [h]
    subst h1 h2
    refine (raise_any A0 c0 l0 ⟨a1_0, a1_1⟩ w hr0 hq).mono ?_
    rintro e w' ⟨v, rfl, hr, hb⟩
    exact ⟨v, rfl, Kd.R_mono hr (fun _ _ => trivial), hb⟩
  · cases h
def vector_Merge.f (l0 : List S25) (l1 : List S25) : Option (List S25 × Int) := if l0.length + l1.length ≤ 100000 then some (mrgV l0 l1) else none
theorem vector_Merge.calls (A0 : Option Addr) (c0 : Nat) (l0 : List S25) (A1 : Option Addr) (c1 : Nat) (l1 : List S25) (r1 : List S25) (r2 : Int) (w : World) (hr0 : Kd.C k25 w A0 l0.length l0) (hc0 : l0.length ≤ c0) (hr1 : Kd.C k25 w A1 l1.length l1) (hc1 : l1.length ≤ c1) (h : vector_Merge.f l0 l1 = some (r1, r2)) :
    Calls Tryz.prog 23 #[.slice A0 l0.length c0, .slice A1 l1.length c1] w fun e w' => ∃ v0_ : Value, e = .returned (.tuple #[v0_, .int .i64 r2]) ∧ Kd.R k25 25 w' w.heap.size (fun _ => True) v0_ r1 ∧ Below w.heap.size w w' := by
  unfold vector_Merge.f at h
  split at h
  · rename_i hq
    have h := Option.some.inj h
    have h1 : (mrgV l0 l1).1 = r1 := by rw [h]
    have h2 : (mrgV l0 l1).2 = r2 := by rw [h]
    subst h1 h2
    refine (merge_any A0 c0 l0 A1 c1 l1 w hr0 hr1 (by omega)).mono ?_
    rintro e w' ⟨v, rfl, hr, hb⟩
    exact ⟨v, rfl, Kd.R_mono hr (fun _ _ => trivial), hb⟩
  · cases h
def vector_Order.f (l0 : List S25) (l1 : List S25) : Option (Int × Int) := if l0.length + l1.length ≤ 100000 then some (ordT l0 l1) else none
theorem vector_Order.calls (A0 : Option Addr) (c0 : Nat) (l0 : List S25) (A1 : Option Addr) (c1 : Nat) (l1 : List S25) (r1 : Int) (r2 : Int) (w : World) (hr0 : Kd.C k25 w A0 l0.length l0) (hc0 : l0.length ≤ c0) (hr1 : Kd.C k25 w A1 l1.length l1) (hc1 : l1.length ≤ c1) (h : vector_Order.f l0 l1 = some (r1, r2)) :
    Calls Tryz.prog 31 #[.slice A0 l0.length c0, .slice A1 l1.length c1] w fun e w' => e = .returned (.tuple #[.int .i64 r1, .int .i64 r2]) ∧ Below w.heap.size w w' := by
  unfold vector_Order.f at h
  split at h
  · rename_i hq
    have h := Option.some.inj h
    have h1 : (ordT l0 l1).1 = r1 := by rw [h]
    have h2 : (ordT l0 l1).2 = r2 := by rw [h]
    subst h1 h2
    exact order_any A0 c0 l0 A1 c1 l1 w hr0 hr1 hq
  · cases h
def vector_Text.f (l0 : List S25) : Option (ByteArray × Int) := if l0.length ≤ 100000 then some (vecT l0) else none
theorem vector_Text.calls (A0 : Option Addr) (c0 : Nat) (l0 : List S25) (r1 : ByteArray) (r2 : Int) (w : World) (hG : GOK w) (hr0 : Kd.C k25 w A0 l0.length l0) (hc0 : l0.length ≤ c0) (h : vector_Text.f l0 = some (r1, r2)) :
    Calls Tryz.prog 32 #[.slice A0 l0.length c0] w fun e w' => e = .returned (.tuple #[.string r1, .int .i64 r2]) ∧ Below w.heap.size w w' := by
  unfold vector_Text.f at h
  split at h
  · rename_i hq
    have h := Option.some.inj h
    have h1 : (vecT l0).1 = r1 := by rw [h]
    have h2 : (vecT l0).2 = r2 := by rw [h]
    subst h1 h2
    exact vtext_any A0 c0 l0 w hr0 hq hG
  · cases h
def vector_Parse.f (a0 : ByteArray) : Option (List S25 × Int) := if a0.size ≤ 1000000 then some (vecP a0) else none
theorem vector_Parse.calls (a0 : ByteArray) (r1 : List S25) (r2 : Int) (w : World) (hG : GOK w)  (h : vector_Parse.f a0 = some (r1, r2)) :
    Calls Tryz.prog 46 #[.string a0] w fun e w' => ∃ v0_ : Value, e = .returned (.tuple #[v0_, .int .i64 r2]) ∧ Kd.R k25 25 w' w.heap.size (fun _ => True) v0_ r1 ∧ Below w.heap.size w w' := by
  unfold vector_Parse.f at h
  split at h
  · rename_i hq
    have h := Option.some.inj h
    have h1 : (vecP a0).1 = r1 := by rw [h]
    have h2 : (vecP a0).2 = r2 := by rw [h]
    subst h1 h2
    refine (vparse_any a0 hq w hG).mono ?_
    rintro e w' ⟨v, rfl, hr, hb⟩
    exact ⟨v, rfl, Kd.R_mono hr (fun _ _ => trivial), hb⟩
  · cases h
def redpencilref05_Raise.f (l0 : List S25) (a1_0 : Int) (a1_1 : Int) : Option (List S25) := if l0.length ≤ 100000 ∧ VOk l0 ∧ okDot a1_0 a1_1 then some (raiseP l0 ⟨a1_0, a1_1⟩) else none
theorem redpencilref05_Raise.calls (A0 : Option Addr) (c0 : Nat) (l0 : List S25) (a1_0 : Int) (a1_1 : Int) (r : List S25) (w : World) (hr0 : Kd.C k25 w A0 l0.length l0) (hc0 : l0.length ≤ c0) (h : redpencilref05_Raise.f l0 a1_0 a1_1 = some r) :
    Calls Tryz.prog 20 #[.slice A0 l0.length c0, .agg #[.int .i64 a1_0, .int .i64 a1_1]] w fun e w' => ∃ v0_ : Value, e = .returned v0_ ∧ Rd w' v0_ r ∧ Below w.heap.size w w' := by
  unfold redpencilref05_Raise.f at h
  split at h
  · rename_i hq
    have h := Option.some.inj h
    subst h
    refine (rraise_rd A0 c0 l0 ⟨a1_0, a1_1⟩ w hr0 hc0 hq.1 hq.2.1 hq.2.2).mono ?_
    rintro e w' ⟨A, c, rfl, h1, h2, hb⟩
    exact ⟨_, rfl, ⟨A, c, rfl, h1, h2⟩, hb⟩
  · cases h
def redpencilref05_Merge.f (l0 : List S25) (l1 : List S25) : Option (List S25) := if l0.length + l1.length ≤ 100000 ∧ VOk l0 ∧ VOk l1 then some (mergeV l0 l1) else none
theorem redpencilref05_Merge.calls (A0 : Option Addr) (c0 : Nat) (l0 : List S25) (A1 : Option Addr) (c1 : Nat) (l1 : List S25) (r : List S25) (w : World) (hr0 : Kd.C k25 w A0 l0.length l0) (hc0 : l0.length ≤ c0) (hr1 : Kd.C k25 w A1 l1.length l1) (hc1 : l1.length ≤ c1) (h : redpencilref05_Merge.f l0 l1 = some r) :
    Calls Tryz.prog 25 #[.slice A0 l0.length c0, .slice A1 l1.length c1] w fun e w' => ∃ v0_ : Value, e = .returned v0_ ∧ Rd w' v0_ r ∧ Below w.heap.size w w' := by
  unfold redpencilref05_Merge.f at h
  split at h
  · rename_i hq
    have h := Option.some.inj h
    subst h
    refine (rmerge_any A0 c0 l0 A1 c1 l1 w hr0 hc0 hr1 hq.1 hq.2.1 hq.2.2.2).mono ?_
    rintro e w' ⟨A, c, rfl, h1, h2, hb⟩
    exact ⟨_, rfl, ⟨A, c, rfl, h1, h2⟩, hb⟩
  · cases h
def redpencilref05_Of.f (l0 : List S25) : Option (List S25 × Int) := if l0.length ≤ 100000 then some (ofV l0) else none
theorem redpencilref05_Of.calls (A0 : Option Addr) (c0 : Nat) (l0 : List S25) (r1 : List S25) (r2 : Int) (w : World) (hr0 : Kd.C k25 w A0 l0.length l0) (hc0 : l0.length ≤ c0) (h : redpencilref05_Of.f l0 = some (r1, r2)) :
    Calls Tryz.prog 15 #[.slice A0 l0.length c0] w fun e w' => ∃ v0_ : Value, e = .returned (.tuple #[v0_, .int .i64 r2]) ∧ Kd.R k25 25 w' w.heap.size (fun _ => True) v0_ r1 ∧ Below w.heap.size w w' := by
  unfold redpencilref05_Of.f at h
  split at h
  · rename_i hq
    have h := Option.some.inj h
    have h1 : (ofV l0).1 = r1 := by rw [h]
    have h2 : (ofV l0).2 = r2 := by rw [h]
    subst h1 h2
    refine (rof_any A0 c0 l0 w hr0 hq).mono ?_
    rintro e w' ⟨v, rfl, hr, hb⟩
    exact ⟨v, rfl, Kd.R_mono hr (fun _ _ => trivial), hb⟩
  · cases h
def redpencilref04_Parse.f (s : ByteArray) : Option (Int × Int × Bool) := if s.size ≤ 1000000 then some (refP s) else none
theorem redpencilref04_Parse.calls (a0 : ByteArray) (r1 r2 : Int) (r3 : Bool) (w : World) (h : redpencilref04_Parse.f a0 = some (r1, r2, r3)) :
    Calls Tryz.prog 45 #[.string a0] w fun e w' => e = .returned (.tuple #[.agg #[.int .i64 r1, .int .i64 r2], .bool r3]) ∧ Below w.heap.size w w' := by
  unfold redpencilref04_Parse.f at h
  split at h
  · injection h with h
    have h1 : (refP a0).1 = r1 := by rw [h]
    have h2 : (refP a0).2.1 = r2 := by rw [h]
    have h3 : (refP a0).2.2 = r3 := by rw [h]
    subst h1 h2 h3
    exact rparse_any a0 ‹_› w
  · cases h
end Go.Proofs.YtnbjkpfpcggopaaGreatDoor.PAll
