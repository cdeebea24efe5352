import Derived.Test.YtjifdgicamlikaaQAd1
namespace Go.Proofs.Ytjifdgicamlikaa.QA
open Go.RowKit Go.Proofs.YtjifdgicamlikaaW.PrintWords Go.Proofs.YtjifdgicamlikaaW.PrintLast Go.Proofs.YtjifdgicamlikaaW.PrintMore
set_option linter.unusedVariables false
def ddilaw48_prefixes.l0 : Nat → List (S31) → List (S31) → Int → Option (Bool)
 | 0,_,_,_ => none
 | k + 1,x0,x1,x5 => if x5 < (x0.length : Int) then (if 0 ≤ x5 then (if x5 < (x1.length : Int) then (if ((!(((rd_T31 x0 x5).f0.f0) == ((rd_T31 x1 x5).f0.f0)) || (!(((rd_T31 x0 x5).f0.f1) == ((rd_T31 x1 x5).f0.f1)) || (!(((rd_T31 x0 x5).f0.f2) == ((rd_T31 x1 x5).f0.f2))))) || (!(((rd_T31 x0 x5).f1) == ((rd_T31 x1 x5).f1)))) = true then (some false) else (ddilaw48_prefixes.l0 k x0 x1 (wrap64 (x5 + 1)))) else (none)) else (none)) else (some true)
def ddilaw48_prefixes.f (k : Nat) (l0 : List (S31)) (l1 : List (S31)) : Option (Bool) := if (l0.length : Int) = (l1.length : Int) then (ddilaw48_prefixes.l0 k l0 l1 0) else (some false)
end Go.Proofs.Ytjifdgicamlikaa.QA
