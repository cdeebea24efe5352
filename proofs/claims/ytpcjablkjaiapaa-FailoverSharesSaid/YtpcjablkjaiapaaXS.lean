/- Rows of elements of several cells that are cut, moved and filled in place: what slices.Clone, slices.Delete and slices.Insert do, cell by cell and element by element; no program in sight. -/
import Derived.Test.YtpcjablkjaiapaaWMore
import Derived.Laws.CopyOwn
import Derived.Lib.SliceRun
import Derived.ArgAppend
import Derived.Lib.Overlaps
import Derived.Lib.AppendZerosOnto
import Derived.Deep.RegionLaw
import Derived.Shelf.Spec.SlicesInsert
import Derived.Laws.Externs
namespace Go.Proofs.Ytpcjablkjaiapaa.XS
open Go Go.RowKit Go.Proofs.YtpcjablkjaiapaaW.PrintWords
section
variable {P : Program}
theorem run_eql_nil (w : World) (t e : TypeId) (a : Option Addr) (n c n' c' : Nat) (h : P.underlying t = some (.slice e)) :
    (binOp .eql t (.slice a n c) (.slice none n' c')).run P w = .ok (.bool a.isNone) w := Lib.run_eql_slice_nil w t e a n c n' c' h
end
section
variable {α : Type} {R : α → List Value → Prop} {sz : Nat} {xs ys : List α} {cs ds : List Value}
theorem reps_append (h : Reps R sz xs cs) (k : Reps R sz ys ds) : Reps R sz (xs ++ ys) (cs ++ ds) := by
  refine ⟨by rw [List.length_append, h.1, k.1, List.length_append, Nat.add_mul], fun j p hj => ?_⟩
  rcases Nat.lt_or_ge j xs.length with hl | hl
  · rw [List.getElem?_append_left hl] at hj
    have h1 : j * sz + sz ≤ cs.length := by rw [h.1, ← Nat.succ_mul]; exact Nat.mul_le_mul_right _ hl
    rw [List.drop_append_of_le_length (by omega), List.take_append_of_le_length (by rw [List.length_drop]; omega)]
    exact h.2 j p hj
  · rw [List.getElem?_append_right hl] at hj
    have h1 : j * sz = cs.length + (j - xs.length) * sz := by rw [h.1, ← Nat.add_mul]; congr 1; omega
    rw [h1, ← List.drop_drop, List.drop_left]
    exact k.2 _ p hj
end
section
variable {α : Type} {d : Kd α} {e : Nat} {W W' : World} {base : Nat} {ok : Nat → Prop} {xs ys : List α}
end
end Go.Proofs.Ytpcjablkjaiapaa.XS
