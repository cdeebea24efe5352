/- Words for rows of one's own whose elements share: what is taken out, put in, copied (no condition). -/
import Derived.Test.YtioopjondjfchaaXS
namespace Go.Proofs.Ytioopjondjfchaa.XN
open Go.RowKit Go.Proofs.YtioopjondjfchaaW.PrintWords Go.Proofs.YtioopjondjfchaaW.PrintWords.Kd
section
variable {α : Type} {d : Kd α} {e base : Nat} {ok ok' okp okr S : Nat → Prop} {w w' : World} {v0 : Value} {rows rows' : List (List Value)} {xs ys : List α}
def Al (d : Kd α) (w : World) (ok : Nat → Prop) (rows : List (List Value)) (xs : List α) : Prop := rows.length = xs.length ∧ ∀ (j : Nat) (x : α) (c : List Value), xs[j]? = some x → rows[j]? = some c → FK d w ok x c
theorem Al_take (h : Al d w ok rows xs) (n : Nat) : Al d w ok (rows.take n) (xs.take n) := by
  refine ⟨by rw [List.length_take, List.length_take, h.1], fun j x c hx hc => ?_⟩
  rw [List.getElem?_take] at hx hc
  by_cases hj : j < n
  · rw [if_pos hj] at hx hc
    exact h.2 j x c hx hc
  · rw [if_neg hj] at hx
    cases hx
theorem Al_drop (h : Al d w ok rows xs) (n : Nat) : Al d w ok (rows.drop n) (xs.drop n) := by
  refine ⟨by rw [List.length_drop, List.length_drop, h.1], fun j x c hx hc => ?_⟩
  rw [List.getElem?_drop] at hx hc
  exact h.2 _ x c hx hc
theorem Al_append (h : Al d w ok rows xs) (h2 : Al d w ok rows' ys) : Al d w ok (rows ++ rows') (xs ++ ys) := by
  refine ⟨by rw [List.length_append, List.length_append, h.1, h2.1], fun j x c hx hc => ?_⟩
  rcases Nat.lt_or_ge j xs.length with hlt | hge
  · rw [List.getElem?_append_left hlt] at hx
    rw [List.getElem?_append_left (by have := h.1; omega)] at hc
    exact h.2 j x c hx hc
  · rw [List.getElem?_append_right hge] at hx
    rw [List.getElem?_append_right (by have := h.1; omega), h.1] at hc
    exact h2.2 _ x c hx hc
theorem moved (hR : (Kd.raw d.sz).R e w' base okr v0 rows) (h : Al d w okp rows xs) (hk : Kept w w' S) (hne : ∀ k, okp k → ¬ S k) (hv : ∀ k, v0.ownBlock = some k → S k ∨ w.heap.size ≤ k) (hS : ∀ k, v0.ownBlock = some k → ok' k) (hok : ∀ k, okp k → ok' k) : Kd.N d e w' base ok' v0 xs :=
  ⟨hS, rows, h.1, raw_tight hR, fun j x c hx hc => FK_mono (FK_step (FK_bound (h.2 j x c hx hc)) (fun k hk' hlt => hk.2 k hlt (hne k hk'.1))) (fun k hk' => ⟨hok k hk'.1, fun he => by
    rcases hv k he.symm with h1 | h1
    · exact hne k hk'.1 h1
    · have := hk'.2
      omega⟩)⟩
end
end Go.Proofs.Ytioopjondjfchaa.XN
