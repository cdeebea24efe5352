/- A subnet's check: the program's and the reference's are one (no condition but the sizes). -/
import Derived.Test.YtngfffoeaghhhaaDoorQAd1
import Derived.Test.YtngfffoeaghhhaaDoorXP
import Derived.Test.YtngfffoeaghhhaaDoorXB
import Derived.Test.YtngfffoeaghhhaaDoorCdn
import Derived.Test.YtngfffoeaghhhaaDoorCopt
import Derived.Test.YtngfffoeaghhhaaDoorCpfx
namespace Go.Proofs.YtngfffoeaghhhaaDoor.Cm
open Go.RowKit Go.Proofs.YtngfffoeaghhhaaDoorW.PrintWords Go.Proofs.YtngfffoeaghhhaaDoorW.PrintLast Go.Proofs.YtngfffoeaghhhaaDoorW.PrintMore Go.Proofs.YtngfffoeaghhhaaDoor.XP Go.Proofs.YtngfffoeaghhhaaDoor.QA
set_option linter.unusedVariables false
set_option linter.unusedSimpArgs false
def visB (c : UInt8) : Bool := decide (33 ≤ c.toNat) && decide (c.toNat ≤ 126)
def clB (s : ByteArray) : Bool := (decide (1 ≤ s.size) && decide (s.size ≤ 32)) && s.data.toList.all visB
end Go.Proofs.YtngfffoeaghhhaaDoor.Cm
