/- Rows of elements of several cells that are cut, moved and filled in place: what slices.Clone, slices.Delete and slices.Insert do, cell by cell and element by element; no program in sight. -/
import Derived.Test.YtjifdgicamlikaaWMore
import Derived.Laws.CopyOwn
import Derived.Lib.SliceRun
import Derived.ArgAppend
import Derived.Lib.Overlaps
import Derived.Lib.AppendZerosOnto
import Derived.Deep.RegionLaw
import Derived.Shelf.Spec.SlicesInsert
import Derived.Laws.Externs
namespace Go.Proofs.Ytjifdgicamlikaa.XS
open Go Go.RowKit Go.Proofs.YtjifdgicamlikaaW.PrintWords
section
variable {P : Program}
theorem run_eql_nil (w : World) (t e : TypeId) (a : Option Addr) (n c n' c' : Nat) (h : P.underlying t = some (.slice e)) :
    (binOp .eql t (.slice a n c) (.slice none n' c')).run P w = .ok (.bool a.isNone) w := Lib.run_eql_slice_nil w t e a n c n' c' h
theorem setCells_row (P : Program) (w : World) (g o : Nat) (vs : List Value) (cur : Array Value) (t : TypeId) (hg : w.heap[g]? = some (.cells cur t (0, 0))) (hl : o + vs.length ≤ cur.size) (h1 : ∀ v ∈ vs, v.oneCell' = true) :
    w.setCells g o vs = w.setRow g (cur.toList.take o ++ vs ++ cur.toList.drop (o + vs.length)).toArray := by
  have hc : ∀ j, j < vs.length → (w.cell? ⟨g, o + 0 + j, none⟩).isSome = true := fun j hj => by
    have : o + j < cur.size := by omega
    simp [World.cell?, hg, this]
  have hf : ∀ j, j < vs.length → w.frozen? ⟨g, o + 0 + j, none⟩ = false := fun j hj => by simp [World.frozen?, hg]
  have e1 := run_storeCells_cells (P := P) g o vs 0 w hc hf h1
  have e2 := run_storeCells_at P g o t vs 0 cur w hg (by simpa using hl) h1
  rw [e1] at e2
  simp only [Nat.add_zero] at e2
  injection e2
theorem run_clear_cells (w : World) (t e ty : TypeId) (z : Value) (ht : P.underlying t = some (.slice e)) (hv : ∀ w, (zeroValue e).run P w = .ok z w) (b o n c : Nat) (hn : 0 < n)
    (h1 : ∀ v ∈ (Builtin.zeroCells z.cells n).toList, v.oneCell' = true)
    (hc : ∀ j, j < (Builtin.zeroCells z.cells n).toList.length → (w.cell? ⟨b, o + j, none⟩).isSome = true) (hf : ∀ j, j < (Builtin.zeroCells z.cells n).toList.length → w.frozen? ⟨b, o + j, none⟩ = false) :
    (Builtin.clear_ #[t] ty #[.slice (some ⟨b, o, none⟩) n c]).run P w = .ok (.tuple #[]) (w.setCells b o (Builtin.zeroCells z.cells n).toList) := by
  have hst := run_storeCells_cells (P := P) b o (Builtin.zeroCells z.cells n).toList 0 w (by simpa using hc) (by simpa using hf) h1
  simp only [Nat.add_zero] at hst
  obtain ⟨m, rfl⟩ : ∃ m, n = m + 1 := ⟨n - 1, by omega⟩
  simp [Builtin.clear_, run_underlying ht, hv, hst]
end
section
variable {α : Type} {R : α → List Value → Prop} {sz : Nat} {xs ys : List α} {cs ds : List Value}
theorem reps_take (h : Reps R sz xs cs) (i : Nat) (hi : i ≤ xs.length) : Reps R sz (xs.take i) (cs.take (i * sz)) := by
  refine ⟨?_, fun j p hj => ?_⟩
  · rw [List.length_take, List.length_take, h.1, Nat.min_eq_left hi, Nat.min_eq_left (Nat.mul_le_mul_right _ hi)]
  · rw [List.getElem?_take] at hj
    split at hj
    · rename_i hji
      have h2 : j * sz + sz ≤ i * sz := by rw [← Nat.succ_mul]; exact Nat.mul_le_mul_right _ hji
      rw [List.drop_take, List.take_take, Nat.min_eq_left (by omega)]
      exact h.2 j p hj
    · cases hj
theorem reps_append (h : Reps R sz xs cs) (k : Reps R sz ys ds) : Reps R sz (xs ++ ys) (cs ++ ds) := by
  refine ⟨by rw [List.length_append, h.1, k.1, List.length_append, Nat.add_mul], fun j p hj => ?_⟩
  rcases Nat.lt_or_ge j xs.length with hl | hl
  · rw [List.getElem?_append_left hl] at hj
    have h1 : j * sz + sz ≤ cs.length := by rw [h.1, ← Nat.succ_mul]; exact Nat.mul_le_mul_right _ hl
    rw [List.drop_append_of_le_length (by omega), List.take_append_of_le_length (by rw [List.length_drop]; omega)]
    exact h.2 j p hj
  · rw [List.getElem?_append_right hl] at hj
    have h1 : j * sz = cs.length + (j - xs.length) * sz := by rw [h.1, ← Nat.add_mul]; congr 1; omega
    rw [h1, ← List.drop_drop, List.drop_left]
    exact k.2 _ p hj
end
section
variable {α : Type} {d : Kd α} {e : Nat} {W W' : World} {base : Nat} {ok : Nat → Prop} {xs ys : List α}
theorem reps_one {cs : List Value} (hr : Reps (d.M W base ok) d.sz xs cs) : ∀ v ∈ cs, v.oneCell' = true := by
  intro v hv
  obtain ⟨j, hj, rfl⟩ := List.getElem_of_mem hv
  rcases Nat.eq_zero_or_pos d.sz with hz | hz
  · rw [hr.1, hz] at hj; omega
  · have hlen := hr.1
    have hjd : j / d.sz < xs.length := by rw [Nat.div_lt_iff_lt_mul hz]; omega
    have hp := hr.2 (j / d.sz) _ (List.getElem?_eq_getElem hjd)
    refine d.K_one (d.K_of_M hp) _ ?_
    have hm := Nat.mod_lt j hz
    have hdm : j / d.sz * d.sz + j % d.sz = j := by rw [Nat.mul_comm]; exact Nat.div_add_mod j d.sz
    rw [List.mem_iff_getElem?]
    refine ⟨j % d.sz, ?_⟩
    rw [List.getElem?_take, if_pos hm, List.getElem?_drop, hdm, List.getElem?_eq_getElem hj]
end
end Go.Proofs.Ytjifdgicamlikaa.XS
