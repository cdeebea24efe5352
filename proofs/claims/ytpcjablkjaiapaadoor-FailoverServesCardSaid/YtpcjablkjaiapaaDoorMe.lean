/- Tables: entries, insertion, order, the check again (as in chapter 38). -/
import Derived.Test.YtpcjablkjaiapaaDoorQAd1
import Derived.Test.YtpcjablkjaiapaaDoorQAd2
import Derived.Test.YtpcjablkjaiapaaDoorMa
namespace Go.Proofs.YtpcjablkjaiapaaDoor.Ma
open Go.RowKit Go.Proofs.YtpcjablkjaiapaaDoorW.PrintWords Go.Proofs.YtpcjablkjaiapaaDoorW.PrintLast Go.Proofs.YtpcjablkjaiapaaDoorW.PrintMore Go.Proofs.YtpcjablkjaiapaaDoor.XP Go.Proofs.YtpcjablkjaiapaaDoor.QA Go.Proofs.YtpcjablkjaiapaaDoor.Cm
set_option linter.unusedVariables false
set_option linter.unusedSimpArgs false
theorem one_of {x : S27} (ha : adB x.f0 = true) (h2 : 1 ≤ x.f2) (h2' : x.f2 ≤ 5) (hc : cliB x.f1 = true) (h6 : timeB x.f6 = true) (h3 : timeB x.f3 = true) (h4 : timeB x.f4 = true) (h34 : x.f3 ≤ x.f4) (h5 : hostB x.f5 = true) : one x = 0 := by
  unfold one argB
  rw [if_pos ha, hc, h6, h3, h4, decide_eq_true h2, decide_eq_true h2', decide_eq_true h34, h5]
  rfl
end Go.Proofs.YtpcjablkjaiapaaDoor.Ma
