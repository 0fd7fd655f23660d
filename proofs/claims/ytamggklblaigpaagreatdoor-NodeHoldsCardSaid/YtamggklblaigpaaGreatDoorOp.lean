/- Arguments as data: what the reading of an argument of a row says of its cells, kind by kind; no program is named here. -/
import Derived.Test.YtamggklblaigpaaGreatDoorNma
import Derived.ProofKit
import Derived.Deep.Slices
import Derived.ChangeArms
namespace Go.Proofs.YtamggklblaigpaaGreatDoor.Kit
open Go.RowKit Go.Proofs.YtamggklblaigpaaGreatDoorW.PrintWords Go.Deep

/-- What reads as data of type t is of the kind d, and ok. -/
structure Opens (P : Program) (t : TypeId) {α : Type} (d : Kd α) (ok : α → Prop) : Prop where
  out : ∀ {H : Type} (enc : TypeId × Value → H) (w : World) (fuel : Nat) (cs : List Value) (x : DataW H × List MemPlace), DataW.trod enc P w 0 (fun _ => true) true fuel t cs = some x → ∃ y, d.K w y cs ∧ ok y

section
variable {P : Program} {t : TypeId}
theorem opens_int {k : IntKind} (ht : P.underlying t = some (.int k)) : Opens P t (Kd.int k) (fun n => (Lit.int k n).wf = true) := by
  refine ⟨fun enc w fuel cs x h => ?_⟩
  obtain ⟨n, rfl, _, hw⟩ := DataW.trod_int ht h
  exact ⟨n, rfl, hw⟩
theorem opens_mono {α : Type} {d : Kd α} {ok ok' : α → Prop} (h : Opens P t d ok) (hk : ∀ x, ok x → ok' x) : Opens P t d ok' := by
  refine ⟨fun enc w fuel cs x hx => ?_⟩
  obtain ⟨y, h1, h2⟩ := h.out enc w fuel cs x hx
  exact ⟨y, h1, hk y h2⟩
/-- The fields from one on. -/
structure OpensF (P : Program) (fs : List Field) (off : Nat) {α : Type} (d : Kd α) (ok : α → Prop) : Prop where
  out : ∀ {H : Type} (enc : TypeId × Value → H) (w : World) (n : Nat) (cs : List Value), cs.length = off + d.sz →
    (∀ (i : Nat) (f : Field), fs[i]? = some f → ∃ x, DataW.trod enc P w 0 (fun _ => true) true n f.type ((cs.drop f.offset).take (P.cellsOf f.type)) = some x) → ∃ y, d.K w y (cs.drop off) ∧ ok y
theorem opens_last {f : Field} {off : Nat} {α : Type} {d : Kd α} {ok : α → Prop} (ho : f.offset = off) (hc : P.cellsOf f.type = d.sz) (h : Opens P f.type d ok) : OpensF P [f] off d ok := by
  refine ⟨fun enc w n cs hl hx => ?_⟩
  obtain ⟨x, hx⟩ := hx 0 f rfl
  obtain ⟨y, hK, hok⟩ := h.out enc w n _ x hx
  refine ⟨y, ?_, hok⟩
  rw [hc, ho, List.take_of_length_le (by rw [List.length_drop]; omega)] at hK
  exact hK
theorem opens_cons {f : Field} {fs : List Field} {off : Nat} {α β : Type} {d : Kd α} {d2 : Kd β} {ok : α → Prop} {ok2 : β → Prop} (ho : f.offset = off) (hc : P.cellsOf f.type = d.sz) (h : Opens P f.type d ok) (hr : OpensF P fs (off + d.sz) d2 ok2) :
    OpensF P (f :: fs) off (Kd.pair d d2) (fun y => ok y.1 ∧ ok2 y.2) := by
  refine ⟨fun enc w n cs hl hx => ?_⟩
  have hl' : cs.length = off + d.sz + d2.sz := by rw [hl]; show off + (d.sz + d2.sz) = _; omega
  obtain ⟨x, hx0⟩ := hx 0 f rfl
  obtain ⟨y, hK, hok⟩ := h.out enc w n _ x hx0
  obtain ⟨y2, hK2, hok2⟩ := hr.out enc w n cs hl' (fun i g hg => hx (i + 1) g hg)
  refine ⟨(y, y2), ⟨_, _, ?_, hK, hK2⟩, hok, hok2⟩
  rw [hc, ho]
  rw [← List.drop_drop]
  exact (List.take_append_drop _ _).symm
theorem opens_struct {fs : Array Field} {α : Type} {d : Kd α} {ok : α → Prop} (ht : P.underlying t = some (.struct fs)) (hc : P.cellsOf t = d.sz) (h : OpensF P fs.toList 0 d ok) : Opens P t d ok := by
  refine ⟨fun enc w fuel cs x hx => ?_⟩
  obtain ⟨xs, n, _, _, hl, hs, hf⟩ := DataW.trod_struct ht hx
  obtain ⟨y, hK, hok⟩ := h.out enc w n cs (by omega) (fun i f hfi => by
    have hfi' : fs[i]? = some f := by simpa using hfi
    have hi : i < xs.length := by rw [hs]; exact (Array.getElem?_eq_some_iff.1 hfi').1
    exact ⟨xs[i], by rw [hf i f hfi', List.getElem?_eq_getElem hi]⟩)
  exact ⟨y, by simpa using hK, hok⟩
end
end Go.Proofs.YtamggklblaigpaaGreatDoor.Kit
