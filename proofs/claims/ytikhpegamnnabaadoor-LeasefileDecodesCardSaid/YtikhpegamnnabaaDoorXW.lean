/- Small lemmas of ours that the printed walks use beside the kit's words (no condition). -/
import Derived.WalkKit
namespace Go.Proofs.YtikhpegamnnabaaDoor.XW
open Go.RowKit

theorem cell_setCell_lit (w : World) (b i j : Nat) (v : Value) : (w.setCell ⟨b, i, none⟩ v).cell? ⟨b, j, none⟩ = if i = j then (w.cell? ⟨b, j, none⟩).map (fun _ => v) else w.cell? ⟨b, j, none⟩ := by
  by_cases h : i = j
  · subst h
    rw [if_pos rfl]
    cases hc : w.cell? ⟨b, i, none⟩ with
    | some u => rw [World.cell?_setCell_same w _ v hc]; rfl
    | none =>
      simp only [World.cell?, World.setCell, Array.getElem?_modify] at hc ⊢
      cases hh : w.heap[b]? with
      | none => simp
      | some x =>
        cases x <;> simp [hh] at hc ⊢
        simpa using hc
  · rw [if_neg h]
    exact World.cell?_setCell_other w _ _ v (by intro e; injection e with _ e; exact h e)

end Go.Proofs.YtikhpegamnnabaaDoor.XW
