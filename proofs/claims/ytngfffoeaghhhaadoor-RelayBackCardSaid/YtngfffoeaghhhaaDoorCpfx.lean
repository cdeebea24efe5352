/- Prefixes: the program's and the reference's Valid, Of, Contains, Within, Overlap and Bounds are one (no condition but the sizes). -/
import Derived.Test.YtngfffoeaghhhaaDoorQAd1
import Derived.Test.YtngfffoeaghhhaaDoorXP
import Derived.Laws.Bits64
namespace Go.Proofs.YtngfffoeaghhhaaDoor.Cm
open Go.RowKit Go.Proofs.YtngfffoeaghhhaaDoorW.PrintWords Go.Proofs.YtngfffoeaghhhaaDoorW.PrintLast Go.Proofs.YtngfffoeaghhhaaDoorW.PrintMore Go.Proofs.YtngfffoeaghhhaaDoor.XP Go.Proofs.YtngfffoeaghhhaaDoor.QA
set_option linter.unusedVariables false
set_option linter.unusedSimpArgs false
def adB (x : S24) : Bool := x.f0 || (decide (x.f1 = 0) && decide (x.f2 ≤ 4294967295))
theorem ad_v (x : S24) : addr_Valid.f x.f0 x.f1 x.f2 = some (adB x) := by
  unfold addr_Valid.f adB
  cases h : x.f0 with
  | true => rfl
  | false =>
    simp only [Bool.false_eq_true, if_false, Bool.false_or]
    by_cases h1 : x.f1 = 0
    · simp [h1]
    · simp [h1]
end Go.Proofs.YtngfffoeaghhhaaDoor.Cm
