import Derived.Test.YtonpcojdpfmbkaaDoorQAd4
namespace Go.Proofs.YtonpcojdpfmbkaaDoor.QA
open Go.RowKit Go.Proofs.YtonpcojdpfmbkaaDoorW.PrintWords Go.Proofs.YtonpcojdpfmbkaaDoorW.PrintLast Go.Proofs.YtonpcojdpfmbkaaDoorW.PrintMore
set_option linter.unusedVariables false
def ddilaw38_play.j0 : Nat → List (S41) → List (S41) → Int → Option ((List (S41)))
 | 0,_,_,_ => none
 | k + 1,x0,x5,x6 => if x6 = 0 then (some x5) else (some x0)
def ddilaw38_play.f (k : Nat) (l0 : List (S41)) (a1_0 : Int) (a1_1 : Bool) (a1_2 : Int) (a1_3 : Int) (a1_4 : ByteArray) (a1_5 : ByteArray) (a1_6 : Int) (a1_7 : Int) (a1_8 : Int) : Option ((List (S41))) := if (Int.tmod a1_0 5) = 0 then ((lease_Offer.f k l0 a1_1 a1_2 a1_3 a1_4 a1_7 a1_8).bind fun bt735 => (ddilaw38_play.j0 k l0 bt735.1 bt735.2)) else (if (Int.tmod a1_0 5) = 1 then ((lease_Bind.f k l0 a1_1 a1_2 a1_3 a1_4 a1_5 a1_6 a1_7 a1_8).bind fun bt739 => (ddilaw38_play.j0 k l0 bt739.1 bt739.2)) else (if (Int.tmod a1_0 5) = 2 then ((lease_Release.f k l0 a1_1 a1_2 a1_3 a1_4 a1_6 a1_7).bind fun bt743 => (ddilaw38_play.j0 k l0 bt743.1 bt743.2)) else (if (Int.tmod a1_0 5) = 3 then ((lease_Decline.f k l0 a1_1 a1_2 a1_3 a1_4 a1_6 a1_7 a1_8).bind fun bt747 => (ddilaw38_play.j0 k l0 bt747.1 bt747.2)) else (if (Int.tmod a1_0 5) = 4 then ((lease_Expire.f k l0 a1_7).bind fun t751 => (ddilaw38_play.j0 k l0 t751 0)) else (ddilaw38_play.j0 k l0 l0 0)))))
end Go.Proofs.YtonpcojdpfmbkaaDoor.QA
