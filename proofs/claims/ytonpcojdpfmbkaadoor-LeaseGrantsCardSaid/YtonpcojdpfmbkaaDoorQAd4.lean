import Derived.Test.YtonpcojdpfmbkaaDoorQAd3
namespace Go.Proofs.YtonpcojdpfmbkaaDoor.QA
open Go.RowKit Go.Proofs.YtonpcojdpfmbkaaDoorW.PrintWords Go.Proofs.YtonpcojdpfmbkaaDoorW.PrintLast Go.Proofs.YtonpcojdpfmbkaaDoorW.PrintMore
set_option linter.unusedVariables false
def ddiref38_lowest.l0 : Nat → List (S41) → Int → Int → Option (Int)
 | 0,_,_,_ => none
 | k + 1,x0,x1,x5 => if x5 < (x0.length : Int) then (if 0 ≤ x5 then ((ddiref38_Force.f ((rd_T41 x0 x5).f0.f0) ((rd_T41 x0 x5).f0.f1) ((rd_T41 x0 x5).f0.f2) ((rd_T41 x0 x5).f1) ((rd_T41 x0 x5).f2) ((rd_T41 x0 x5).f3) ((rd_T41 x0 x5).f4) ((rd_T41 x0 x5).f5) ((rd_T41 x0 x5).f6) x1).bind fun t533 => (if t533 = true then (ddiref38_lowest.l0 k x0 x1 (wrap64 (x5 + 1))) else (some x5))) else (none)) else (some (-1))
def ddiref38_lowest.f (k : Nat) (l0 : List (S41)) (a1 : Int) : Option (Int) := ddiref38_lowest.l0 k l0 a1 0
mutual
def ddiref38_Set.j0 : Nat → List (S41) → Int → Int → Bool → Bool → Int → Int → ByteArray → Int → Int → Int → ByteArray → Int → Option ((List (S41)) × Int)
 | 0,_,_,_,_,_,_,_,_,_,_,_,_,_ => none
 | k + 1,x0,x2,x10,x28,x535000,x535001,x535002,x535003,x535004,x535005,x535006,x535007,x535008 => if x28 = true then ((ddiref38_lowest.f k x0 x2).bind fun t546 => (if t546 < 0 then (some (([] : List (S41)),9)) else (ddiref38_Set.j1 k x0 t546 x535000 x535001 x535002 x535003 x535004 x535005 x535006 x535007 x535008))) else (ddiref38_Set.j1 k x0 x10 x535000 x535001 x535002 x535003 x535004 x535005 x535006 x535007 x535008)
def ddiref38_Set.j1 : Nat → List (S41) → Int → Bool → Int → Int → ByteArray → Int → Int → Int → ByteArray → Int → Option ((List (S41)) × Int)
 | 0,_,_,_,_,_,_,_,_,_,_,_ => none
 | k + 1,x0,x10,x535000,x535001,x535002,x535003,x535004,x535005,x535006,x535007,x535008 => ddiref38_Set.l0 k x0 x10 ([] : List (S41)) false 0 x535000 x535001 x535002 x535003 x535004 x535005 x535006 x535007 x535008
def ddiref38_Set.l0 : Nat → List (S41) → Int → List (S41) → Bool → Int → Bool → Int → Int → ByteArray → Int → Int → Int → ByteArray → Int → Option ((List (S41)) × Int)
 | 0,_,_,_,_,_,_,_,_,_,_,_,_,_,_ => none
 | k + 1,x0,x10,x11,x12,x13,x535000,x535001,x535002,x535003,x535004,x535005,x535006,x535007,x535008 => if x13 < (x0.length : Int) then (if 0 ≤ x13 then ((ddiref02_Compare.f ((rd_T41 x0 x13).f0.f0) ((rd_T41 x0 x13).f0.f1) ((rd_T41 x0 x13).f0.f2) x535000 x535001 x535002).bind fun t548 => (if t548 ≥ 0 then (ddiref38_Set.j3 k x0 x10 x11 x12 x13 t548 (!x12) x535000 x535001 x535002 x535003 x535004 x535005 x535006 x535007 x535008) else (ddiref38_Set.j3 k x0 x10 x11 x12 x13 t548 false x535000 x535001 x535002 x535003 x535004 x535005 x535006 x535007 x535008))) else (none)) else (if x12 = true then (some (x11,0)) else (if x11.length < 1599289640401 then (some ((x11 ++ [(⟨(⟨x535000,x535001,x535002⟩ : S29),x535003,x535004,x535005,x535006,x535007,x535008⟩ : S41)]),0)) else (none)))
def ddiref38_Set.j3 : Nat → List (S41) → Int → List (S41) → Bool → Int → Int → Bool → Bool → Int → Int → ByteArray → Int → Int → Int → ByteArray → Int → Option ((List (S41)) × Int)
 | 0,_,_,_,_,_,_,_,_,_,_,_,_,_,_,_,_ => none
 | k + 1,x0,x10,x11,x12,x13,x14,x53,x535000,x535001,x535002,x535003,x535004,x535005,x535006,x535007,x535008 => if x53 = true then (if x11.length < 1599289640401 then (ddiref38_Set.j4 k x0 x10 (x11 ++ [(⟨(⟨x535000,x535001,x535002⟩ : S29),x535003,x535004,x535005,x535006,x535007,x535008⟩ : S41)]) true x13 x14 x535000 x535001 x535002 x535003 x535004 x535005 x535006 x535007 x535008) else (none)) else (ddiref38_Set.j4 k x0 x10 x11 x12 x13 x14 x535000 x535001 x535002 x535003 x535004 x535005 x535006 x535007 x535008)
def ddiref38_Set.j4 : Nat → List (S41) → Int → List (S41) → Bool → Int → Int → Bool → Int → Int → ByteArray → Int → Int → Int → ByteArray → Int → Option ((List (S41)) × Int)
 | 0,_,_,_,_,_,_,_,_,_,_,_,_,_,_,_ => none
 | k + 1,x0,x10,x11,x12,x13,x14,x535000,x535001,x535002,x535003,x535004,x535005,x535006,x535007,x535008 => if x14 = 0 then (ddiref38_Set.j5 k x0 x10 x11 x12 x13 false x535000 x535001 x535002 x535003 x535004 x535005 x535006 x535007 x535008) else (ddiref38_Set.j5 k x0 x10 x11 x12 x13 (x13 != x10) x535000 x535001 x535002 x535003 x535004 x535005 x535006 x535007 x535008)
def ddiref38_Set.j5 : Nat → List (S41) → Int → List (S41) → Bool → Int → Bool → Bool → Int → Int → ByteArray → Int → Int → Int → ByteArray → Int → Option ((List (S41)) × Int)
 | 0,_,_,_,_,_,_,_,_,_,_,_,_,_,_,_ => none
 | k + 1,x0,x10,x11,x12,x13,x64,x535000,x535001,x535002,x535003,x535004,x535005,x535006,x535007,x535008 => if x64 = true then (if 0 ≤ x13 then (if x13 < (x0.length : Int) then (if x11.length < 1599289640401 then (ddiref38_Set.l0 k x0 x10 (x11 ++ [(⟨(⟨(rd_T41 x0 x13).f0.f0,(rd_T41 x0 x13).f0.f1,(rd_T41 x0 x13).f0.f2⟩ : S29),(rd_T41 x0 x13).f1,(rd_T41 x0 x13).f2,(rd_T41 x0 x13).f3,(rd_T41 x0 x13).f4,(rd_T41 x0 x13).f5,(rd_T41 x0 x13).f6⟩ : S41)]) x12 (wrap64 (x13 + 1)) x535000 x535001 x535002 x535003 x535004 x535005 x535006 x535007 x535008) else (none)) else (none)) else (none)) else (ddiref38_Set.l0 k x0 x10 x11 x12 (wrap64 (x13 + 1)) x535000 x535001 x535002 x535003 x535004 x535005 x535006 x535007 x535008)
end
def ddiref38_Set.f (k : Nat) (l0 : List (S41)) (a1_0 : Bool) (a1_1 : Int) (a1_2 : Int) (a1_3 : ByteArray) (a1_4 : Int) (a1_5 : Int) (a1_6 : Int) (a1_7 : ByteArray) (a1_8 : Int) (a2 : Int) : Option ((List (S41)) × Int) := (ddiref38_Find.f k l0 a1_0 a1_1 a1_2).bind fun bt535 => (if bt535.2.2.2.2.2.2.2.2.2 = true then (ddiref38_Set.j0 k l0 a2 (-1) false a1_0 a1_1 a1_2 a1_3 a1_4 a1_5 a1_6 a1_7 a1_8) else (ddiref38_Set.j0 k l0 a2 (-1) (decide ((l0.length : Int) ≥ 512)) a1_0 a1_1 a1_2 a1_3 a1_4 a1_5 a1_6 a1_7 a1_8))
def ddiref38_Later.f (a0 : Int) (a1 : Int) : Option (Int) := if a1 > (wrap64 (4294967295 - a0)) then (some 4294967295) else (some (wrap64 (a0 + a1)))
end Go.Proofs.YtonpcojdpfmbkaaDoor.QA
