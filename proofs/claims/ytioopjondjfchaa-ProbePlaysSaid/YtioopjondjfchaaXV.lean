/- Words for rows that are shared (no condition). -/
import Derived.Test.YtioopjondjfchaaWMore
namespace Go.Proofs.Ytioopjondjfchaa.XV
open Go.RowKit Go.Proofs.YtioopjondjfchaaW.PrintWords
theorem vb {α : Type} {d : Kd α} {e base n c : Nat} {ok : Nat → Prop} {ad : Addr} {xs : List α} {w : World} {i : Int} (h : Kd.V d e w base ok (.slice (some ad) n c) xs) (h0 : 0 ≤ i) (h1 : i < n) (hs : 0 < d.sz) : ok ad.block := by
  obtain ⟨A, c', he, _, hF⟩ := h
  injection he with e1 e2 e3
  subst e1
  subst e2
  cases xs with
  | nil => simp at h1; omega
  | cons y r =>
    obtain ⟨ad', _, hA, _, _, _, hok⟩ := Kd.F_get hF y i h0 h1
    cases hA
    exact hok hs
end Go.Proofs.Ytioopjondjfchaa.XV
