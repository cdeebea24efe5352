import Derived.Test.YtonpcojdpfmbkaaDoorQAd1
namespace Go.Proofs.YtonpcojdpfmbkaaDoor.QA
open Go.RowKit Go.Proofs.YtonpcojdpfmbkaaDoorW.PrintWords Go.Proofs.YtonpcojdpfmbkaaDoorW.PrintLast Go.Proofs.YtonpcojdpfmbkaaDoorW.PrintMore
set_option linter.unusedVariables false
def ddiref38_Same.l0 : Nat → List (S41) → List (S41) → Int → Option (Bool)
 | 0,_,_,_ => none
 | k + 1,x0,x1,x5 => if x5 < (x0.length : Int) then (if 0 ≤ x5 then (if x5 < (x1.length : Int) then (if ((!(((rd_T41 x0 x5).f0.f0) == ((rd_T41 x1 x5).f0.f0)) || (!(((rd_T41 x0 x5).f0.f1) == ((rd_T41 x1 x5).f0.f1)) || (!(((rd_T41 x0 x5).f0.f2) == ((rd_T41 x1 x5).f0.f2))))) || (!((((rd_T41 x0 x5).f1).toList) == (((rd_T41 x1 x5).f1).toList)) || (!(((rd_T41 x0 x5).f2) == ((rd_T41 x1 x5).f2)) || (!(((rd_T41 x0 x5).f3) == ((rd_T41 x1 x5).f3)) || (!(((rd_T41 x0 x5).f4) == ((rd_T41 x1 x5).f4)) || (!((((rd_T41 x0 x5).f5).toList) == (((rd_T41 x1 x5).f5).toList)) || (!(((rd_T41 x0 x5).f6) == ((rd_T41 x1 x5).f6))))))))) = true then (some false) else (ddiref38_Same.l0 k x0 x1 (wrap64 (x5 + 1)))) else (none)) else (none)) else (some true)
def ddiref38_Same.f (k : Nat) (l0 : List (S41)) (l1 : List (S41)) : Option (Bool) := if (l0.length : Int) = (l1.length : Int) then (ddiref38_Same.l0 k l0 l1 0) else (some false)
def ddiref38_Find.l0 : Nat → List (S41) → Int → Bool → Int → Int → Option (Bool × Int × Int × ByteArray × Int × Int × Int × ByteArray × Int × Bool)
 | 0,_,_,_,_,_ => none
 | k + 1,x0,x6,x428000,x428001,x428002 => if x6 < (x0.length : Int) then (if 0 ≤ x6 then (if (((rd_T41 x0 x6).f0.f0) == x428000 && (((rd_T41 x0 x6).f0.f1) == x428001 && (((rd_T41 x0 x6).f0.f2) == x428002))) = true then (some ((rd_T41 x0 x6).f0.f0,(rd_T41 x0 x6).f0.f1,(rd_T41 x0 x6).f0.f2,(rd_T41 x0 x6).f1,(rd_T41 x0 x6).f2,(rd_T41 x0 x6).f3,(rd_T41 x0 x6).f4,(rd_T41 x0 x6).f5,(rd_T41 x0 x6).f6,true)) else (ddiref38_Find.l0 k x0 (wrap64 (x6 + 1)) x428000 x428001 x428002)) else (none)) else (some (false,0,0,(⟨#[]⟩ : ByteArray),0,0,0,(⟨#[]⟩ : ByteArray),0,false))
def ddiref38_Find.f (k : Nat) (l0 : List (S41)) (a1_0 : Bool) (a1_1 : Int) (a1_2 : Int) : Option (Bool × Int × Int × ByteArray × Int × Int × Int × ByteArray × Int × Bool) := ddiref38_Find.l0 k l0 0 a1_0 a1_1 a1_2
def ddiref38_Force.f (a0_0 : Bool) (a0_1 : Int) (a0_2 : Int) (a0_3 : ByteArray) (a0_4 : Int) (a0_5 : Int) (a0_6 : Int) (a0_7 : ByteArray) (a0_8 : Int) (a1 : Int) : Option (Bool) := if a0_4 = 1 then (some (decide (a1 < a0_6))) else (if a0_4 = 2 then (some (decide (a1 < a0_6))) else (if a0_4 = 5 then (some (decide (a1 < a0_6))) else (some false)))
end Go.Proofs.YtonpcojdpfmbkaaDoor.QA
