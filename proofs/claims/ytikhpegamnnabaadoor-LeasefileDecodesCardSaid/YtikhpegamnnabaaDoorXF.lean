/- Words for rows that lie elsewhere than what is stored (no condition). -/
import Derived.Test.YtikhpegamnnabaaDoorWMore
namespace Go.Proofs.YtikhpegamnnabaaDoor.XF
open Go.RowKit Go.Proofs.YtikhpegamnnabaaDoorW.PrintWords
theorem far {α : Type} {d : Kd α} {e base : Nat} {ok ok' : Nat → Prop} {v : Value} {xs : List α} {w w' : World} (h : d.R e w base ok v xs) (f : d.R e w base ok v xs → d.R e w' base ok v xs) (hi : ∀ k, ok k → ok' k) : d.R e w' base ok' v xs := Kd.R_mono (f h) hi
theorem far1 {α : Type} {d : Kd α} {e base : Nat} {ok : Nat → Prop} {v : Value} {xs : List α} {w : World} {g o : Nat} {t : Option Nat} (h : d.R e w base ok v xs) (hne : ∀ k, ok k → k ≠ g) (u : Value) : d.R e (w.setCell ⟨g, o, t⟩ u) base ok v xs := Kd.R_far h hne u
section
variable {α : Type} {d : Kd α} {e base : Nat} {ok c1 c2 c3 : Nat → Prop} {v : Value} {xs : List α} {w : World} {g o : Nat} {t : Option Nat}
theorem fa (h : d.R e w base (fun k => ok k ∧ k ≠ g) v xs) (u : Value) : d.R e (w.setCell ⟨g, o, t⟩ u) base (fun k => ok k ∧ k ≠ g) v xs := Kd.R_far h (fun _ hk => hk.2) u
theorem fb (h : d.R e w base (fun k => (ok k ∧ k ≠ g) ∧ c1 k) v xs) (u : Value) : d.R e (w.setCell ⟨g, o, t⟩ u) base (fun k => (ok k ∧ k ≠ g) ∧ c1 k) v xs := Kd.R_far h (fun _ hk => hk.1.2) u
theorem fc (h : d.R e w base (fun k => ((ok k ∧ k ≠ g) ∧ c1 k) ∧ c2 k) v xs) (u : Value) : d.R e (w.setCell ⟨g, o, t⟩ u) base (fun k => ((ok k ∧ k ≠ g) ∧ c1 k) ∧ c2 k) v xs := Kd.R_far h (fun _ hk => hk.1.1.2) u
theorem fd (h : d.R e w base (fun k => (((ok k ∧ k ≠ g) ∧ c1 k) ∧ c2 k) ∧ c3 k) v xs) (u : Value) : d.R e (w.setCell ⟨g, o, t⟩ u) base (fun k => (((ok k ∧ k ≠ g) ∧ c1 k) ∧ c2 k) ∧ c3 k) v xs := Kd.R_far h (fun _ hk => hk.1.1.1.2) u
end
end Go.Proofs.YtikhpegamnnabaaDoor.XF
