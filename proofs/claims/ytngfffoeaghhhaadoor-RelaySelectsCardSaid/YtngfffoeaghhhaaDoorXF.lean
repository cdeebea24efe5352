/- Words for rows that lie elsewhere than what is stored (no condition). -/
import Derived.Test.YtngfffoeaghhhaaDoorWMore
namespace Go.Proofs.YtngfffoeaghhhaaDoor.XF
open Go.RowKit Go.Proofs.YtngfffoeaghhhaaDoorW.PrintWords
theorem far {α : Type} {d : Kd α} {e base : Nat} {ok ok' : Nat → Prop} {v : Value} {xs : List α} {w w' : World} (h : d.R e w base ok v xs) (f : d.R e w base ok v xs → d.R e w' base ok v xs) (hi : ∀ k, ok k → ok' k) : d.R e w' base ok' v xs := Kd.R_mono (f h) hi
theorem far1 {α : Type} {d : Kd α} {e base : Nat} {ok : Nat → Prop} {v : Value} {xs : List α} {w : World} {g o : Nat} {t : Option Nat} (h : d.R e w base ok v xs) (hne : ∀ k, ok k → k ≠ g) (u : Value) : d.R e (w.setCell ⟨g, o, t⟩ u) base ok v xs := Kd.R_far h hne u
end Go.Proofs.YtngfffoeaghhhaaDoor.XF
