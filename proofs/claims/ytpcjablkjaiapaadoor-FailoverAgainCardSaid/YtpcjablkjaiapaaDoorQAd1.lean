import Derived.Test.YtpcjablkjaiapaaDoorXB
import Derived.Test.YtpcjablkjaiapaaDoorXC
import Derived.Test.YtpcjablkjaiapaaDoorXR
import Derived.Test.YtpcjablkjaiapaaDoorWMore
import Derived.Below
import Derived.Deep.Draws
import Derived.Deep.AppendLies
import Derived.Maps.AppendAt
import Derived.OwnWalk
import Derived.Laws.BytesArg
import Derived.Laws.MakeOwn
import Derived.Laws.OwnMore
import Derived.Deep.OwnRows
import Derived.Tactics
import Derived.Lib.ConvBytes
import Derived.Laws.Slices
import Derived.WalkKit
import Derived.KernelRfl
import Derived.RowKit3
import Derived.Deep.LoopGhost
import Derived.Deep.QuietTactic
import Derived.BigQuiet
import Derived.WideLaws
import Derived.Deep.DeepCutAuto
import Derived.Deep.CutBlock
import Derived.Deep.RegionHeld3
import Derived.Laws.Rows
import Derived.Lib.AppendStr
import Derived.ArgAppend
import Derived.Laws.IdiomCopy
import Derived.OrdersHeld
import Derived.Laws.BitsLemmas
import Derived.RowKit
namespace Go.Proofs.YtpcjablkjaiapaaDoor.QA
open Go.RowKit Go.Proofs.YtpcjablkjaiapaaDoorW.PrintWords Go.Proofs.YtpcjablkjaiapaaDoorW.PrintLast Go.Proofs.YtpcjablkjaiapaaDoorW.PrintMore
set_option linter.unusedVariables false
structure S25 where
 f0 : Bool
 f1 : Int
 f2 : Int
def z25 : S25 := ⟨false,(0 : Int),(0 : Int)⟩
structure S27 where
 f0 : S25
 f1 : ByteArray
 f2 : Int
 f3 : Int
 f4 : Int
 f5 : ByteArray
 f6 : Int
def z27 : S27 := ⟨z25,(⟨#[]⟩ : ByteArray),(0 : Int),(0 : Int),(0 : Int),(⟨#[]⟩ : ByteArray),(0 : Int)⟩
def rd_T27 (xs : List S27) (i : Int) : S27 := xs.getD i.toNat z27
def okS25 (x : S25) : Prop := True ∧ ((Lit.int .u64 x.f1).wf = true ∧ (Lit.int .u64 x.f2).wf = true)
def okS27 (x : S27) : Prop := okS25 x.f0 ∧ (x.f1.size ≤ 140737488351232 ∧ ((Lit.int .i64 x.f2).wf = true ∧ ((Lit.int .i64 x.f3).wf = true ∧ ((Lit.int .i64 x.f4).wf = true ∧ (x.f5.size ≤ 140737488351232 ∧ (Lit.int .i64 x.f6).wf = true)))))
def addr_number.f (a0 : Int) (a1 : Int) : Option (Int) := if a0 < a1 then (some (-1)) else (if a0 > a1 then (some 1) else (some 0))
def addr_Compare.j0 : Nat → Bool → Bool → Int → Int → Bool → Int → Int → Option (Int)
 | 0,_,_,_,_,_,_,_ => none
 | k + 1,x5,x102000,x102001,x102002,x103000,x103001,x103002 => if x5 = true then (some (-1)) else (if (x102000 != x103000) = true then (some 1) else (if x102001 = x103001 then ((addr_number.f x102002 x103002).bind fun t104 => (some t104)) else ((addr_number.f x102001 x103001).bind fun t103 => (some t103))))
def addr_Compare.f (k : Nat) (a0_0 : Bool) (a0_1 : Int) (a0_2 : Int) (a1_0 : Bool) (a1_1 : Int) (a1_2 : Int) : Option (Int) := if (a0_0 != a1_0) = true then (addr_Compare.j0 k a1_0 a0_0 a0_1 a0_2 a1_0 a1_1 a1_2) else (addr_Compare.j0 k false a0_0 a0_1 a0_2 a1_0 a1_1 a1_2)
def addr_Valid.f (a0_0 : Bool) (a0_1 : Int) (a0_2 : Int) : Option (Bool) := if a0_0 = true then (some true) else (if a0_1 = 0 then (some (decide (a0_2 ≤ 4294967295))) else (some false))
mutual
def lease_isClient.l0 : Nat → ByteArray → Int → Option (Bool)
 | 0,_,_ => none
 | k + 1,x0,x3 => if x3 < (x0.size : Int) then (if 0 ≤ x3 then (if (bt x0 x3) < 33 then (lease_isClient.j1 k x0 x3 true) else (lease_isClient.j1 k x0 x3 (decide ((bt x0 x3) > 126)))) else (none)) else (if (x0.size : Int) ≥ 1 then (some (decide ((x0.size : Int) ≤ 32))) else (some false))
def lease_isClient.j1 : Nat → ByteArray → Int → Bool → Option (Bool)
 | 0,_,_,_ => none
 | k + 1,x0,x3,x19 => if x19 = true then (some false) else (lease_isClient.l0 k x0 (wrap64 (x3 + 1)))
end
def lease_isClient.f (k : Nat) (a0 : ByteArray) : Option (Bool) := lease_isClient.l0 k a0 0
def lease_isXID.f (a0 : Int) : Option (Bool) := if a0 ≥ 0 then (some (decide (a0 < 4294967296))) else (some false)
def lease_isTime.f (a0 : Int) : Option (Bool) := if a0 ≥ 0 then (some (decide (a0 ≤ 4294967295))) else (some false)
def stringslite_HasSuffix.f (a0 : ByteArray) (a1 : ByteArray) : Option (Bool) := if (a0.size : Int) ≥ (a1.size : Int) then (if 0 ≤ (wrap64 ((a0.size : Int) - (a1.size : Int))) then (if (wrap64 ((a0.size : Int) - (a1.size : Int))) ≤ (a0.size : Int) then (some ((a0.extract ((wrap64 ((a0.size : Int) - (a1.size : Int))) : Int).toNat a0.size).toList == a1.toList)) else (none)) else (none)) else (some false)
def strings_HasSuffix.f (a0 : ByteArray) (a1 : ByteArray) : Option (Bool) := (stringslite_HasSuffix.f a0 a1).bind fun t106 => (some t106)
def strings_explode.f (a0 : ByteArray) (a1 : Int) : Option (List ByteArray) := none
def stringslite_Index.f (a0 : ByteArray) (a1 : ByteArray) : Option (Int) := if a1.size = 1 then some (XB.index a0 a1) else none
def strings_Index.f (a0 : ByteArray) (a1 : ByteArray) : Option (Int) := (stringslite_Index.f a0 a1).bind fun t109 => (some t109)
def strings_Count.f (a0 : ByteArray) (a1 : ByteArray) : Option (Int) := if a1.size = 1 then some (XB.count a0 a1) else none
mutual
def strings_genSplit.j0 : Nat → ByteArray → ByteArray → Int → Int → Option (List ByteArray)
 | 0,_,_,_,_ => none
 | k + 1,x0,x1,x2,x3 => if 0 ≤ (mn x3 (wrap64 ((x0.size : Int) + 1))) then (if (mn x3 (wrap64 ((x0.size : Int) + 1)) : Int).toNat ≤ 17592186044416 then (strings_genSplit.l0 k x0 x1 x2 (wrap64 ((mn x3 (wrap64 ((x0.size : Int) + 1))) - 1)) (List.replicate (mn x3 (wrap64 ((x0.size : Int) + 1)) : Int).toNat (⟨#[]⟩ : ByteArray)) 0) else (none)) else (none)
def strings_genSplit.l0 : Nat → ByteArray → ByteArray → Int → Int → List ByteArray → Int → Option (List ByteArray)
 | 0,_,_,_,_,_,_ => none
 | k + 1,x0,x1,x2,x3,x9,x10 => if x10 < x3 then ((strings_Index.f x0 x1).bind fun t121 => (if t121 < 0 then (if 0 ≤ x10 then (if x10 < (x9.length : Int) then (if 0 ≤ (wrap64 (x10 + 1)) then (if (wrap64 (x10 + 1)) ≤ (x9.length : Int) then (some ((x9.set (x10 : Int).toNat x0).take ((wrap64 (x10 + 1)) : Int).toNat)) else (none)) else (none)) else (none)) else (none)) else (if 0 ≤ (wrap64 (t121 + x2)) then (if (wrap64 (t121 + x2)) ≤ (x0.size : Int) then (if 0 ≤ x10 then (if x10 < (x9.length : Int) then (if 0 ≤ (wrap64 (t121 + (x1.size : Int))) then (if (wrap64 (t121 + (x1.size : Int))) ≤ (x0.size : Int) then (strings_genSplit.l0 k (x0.extract ((wrap64 (t121 + (x1.size : Int))) : Int).toNat x0.size) x1 x2 x3 (x9.set (x10 : Int).toNat (x0.extract 0 ((wrap64 (t121 + x2)) : Int).toNat)) (wrap64 (x10 + 1))) else (none)) else (none)) else (none)) else (none)) else (none)) else (none)))) else (if 0 ≤ x10 then (if x10 < (x9.length : Int) then (if 0 ≤ (wrap64 (x10 + 1)) then (if (wrap64 (x10 + 1)) ≤ (x9.length : Int) then (some ((x9.set (x10 : Int).toNat x0).take ((wrap64 (x10 + 1)) : Int).toNat)) else (none)) else (none)) else (none)) else (none))
end
def strings_genSplit.f (k : Nat) (a0 : ByteArray) (a1 : ByteArray) (a2 : Int) (a3 : Int) : Option (List ByteArray) := if a3 = 0 then (some ([] : List ByteArray)) else (if a1.toList = ([] : List UInt8) then ((strings_explode.f a0 a3).bind fun t110 => (some t110)) else (if a3 < 0 then ((strings_Count.f a0 a1).bind fun t113 => (strings_genSplit.j0 k a0 a1 a2 (wrap64 (t113 + 1)))) else (strings_genSplit.j0 k a0 a1 a2 a3)))
def strings_Split.f (k : Nat) (a0 : ByteArray) (a1 : ByteArray) : Option (List ByteArray) := (strings_genSplit.f k a0 a1 0 (-1)).bind fun t127 => (some t127)
mutual
def dname_ordinary.j0 : Nat → ByteArray → Bool → Option (Bool)
 | 0,_,_ => none
 | k + 1,x0,x11 => if x11 = true then (some false) else (dname_ordinary.l0 k x0 (x0.size : Int) 0)
def dname_ordinary.l0 : Nat → ByteArray → Int → Int → Option (Bool)
 | 0,_,_,_ => none
 | k + 1,x0,x13,x14 => if x14 < x13 then (if 0 ≤ x14 then (if x14 < (x0.size : Int) then (if (bt x0 x14) < 97 then (if (bt x0 x14) < 48 then (if (bt x0 x14) = 45 then (dname_ordinary.j2 k x0 x13 x14 false) else (dname_ordinary.j2 k x0 x13 x14 ((bt x0 x14) != 95))) else (if (bt x0 x14) > 57 then (if (bt x0 x14) = 45 then (dname_ordinary.j2 k x0 x13 x14 false) else (dname_ordinary.j2 k x0 x13 x14 ((bt x0 x14) != 95))) else (dname_ordinary.j2 k x0 x13 x14 false))) else (if (bt x0 x14) > 122 then (if (bt x0 x14) < 48 then (if (bt x0 x14) = 45 then (dname_ordinary.j2 k x0 x13 x14 false) else (dname_ordinary.j2 k x0 x13 x14 ((bt x0 x14) != 95))) else (if (bt x0 x14) > 57 then (if (bt x0 x14) = 45 then (dname_ordinary.j2 k x0 x13 x14 false) else (dname_ordinary.j2 k x0 x13 x14 ((bt x0 x14) != 95))) else (dname_ordinary.j2 k x0 x13 x14 false))) else (dname_ordinary.j2 k x0 x13 x14 false))) else (none)) else (none)) else (some true)
def dname_ordinary.j2 : Nat → ByteArray → Int → Int → Bool → Option (Bool)
 | 0,_,_,_,_ => none
 | k + 1,x0,x13,x14,x41 => if x41 = true then (some false) else (dname_ordinary.l0 k x0 x13 (wrap64 (x14 + 1)))
end
def dname_ordinary.f (k : Nat) (a0 : ByteArray) : Option (Bool) := if a0.toList = ([] : List UInt8) then (dname_ordinary.j0 k a0 true) else (dname_ordinary.j0 k a0 (decide ((a0.size : Int) > 63)))
mutual
def dname_Valid.j0 : Nat → ByteArray → Bool → Option (Bool)
 | 0,_,_ => none
 | k + 1,x0,x14 => if x14 = true then (some false) else (if 0 ≤ (wrap64 ((x0.size : Int) - 1)) then (if (wrap64 ((x0.size : Int) - 1)) ≤ (x0.size : Int) then ((strings_Split.f k (x0.extract 0 ((wrap64 ((x0.size : Int) - 1)) : Int).toNat) (⟨#[46]⟩ : ByteArray)).bind fun t131 => (dname_Valid.l0 k t131 (t131.length : Int) 0)) else (none)) else (none))
def dname_Valid.l0 : Nat → List ByteArray → Int → Int → Option (Bool)
 | 0,_,_,_ => none
 | k + 1,x20,x21,x22 => if x22 < x21 then (if 0 ≤ x22 then (if x22 < (x20.length : Int) then ((dname_ordinary.f k (rdOf ByteArray.empty x20 x22)).bind fun t135 => (if t135 = true then (dname_Valid.j2 k x20 x21 x22 false) else (if x22 > 0 then (dname_Valid.j2 k x20 x21 x22 true) else (dname_Valid.j2 k x20 x21 x22 ((rdOf ByteArray.empty x20 x22).toList != ([42] : List UInt8)))))) else (none)) else (none)) else (some true)
def dname_Valid.j2 : Nat → List ByteArray → Int → Int → Bool → Option (Bool)
 | 0,_,_,_,_ => none
 | k + 1,x20,x21,x22,x37 => if x37 = true then (some false) else (dname_Valid.l0 k x20 x21 (wrap64 (x22 + 1)))
end
def dname_Valid.f (k : Nat) (a0 : ByteArray) : Option (Bool) := if a0.toList = ([46] : List UInt8) then (some true) else (if (a0.size : Int) ≥ 255 then (dname_Valid.j0 k a0 true) else ((strings_HasSuffix.f a0 (⟨#[46]⟩ : ByteArray)).bind fun t130 => (dname_Valid.j0 k a0 (!t130))))
def lease_isHost.f (k : Nat) (a0 : ByteArray) : Option (Bool) := if a0.toList = ([] : List UInt8) then (some true) else ((dname_Valid.f k a0).bind fun t136 => (some t136))
mutual
def lease_Check.l0 : Nat → List (S27) → List (S27) → Int → Int → Option (Int)
 | 0,_,_,_,_ => none
 | k + 1,x0,x8,x9,x10 => if x10 < x9 then (if 0 ≤ x10 then (if x10 < (x8.length : Int) then ((addr_Valid.f ((rd_T27 x8 x10).f0.f0) ((rd_T27 x8 x10).f0.f1) ((rd_T27 x8 x10).f0.f2)).bind fun t139 => (if t139 = true then (if x10 > 0 then (if 0 ≤ (wrap64 (x10 - 1)) then (if (wrap64 (x10 - 1)) < (x0.length : Int) then ((addr_Compare.f k ((rd_T27 x0 (wrap64 (x10 - 1))).f0.f0) ((rd_T27 x0 (wrap64 (x10 - 1))).f0.f1) ((rd_T27 x0 (wrap64 (x10 - 1))).f0.f2) ((rd_T27 x8 x10).f0.f0) ((rd_T27 x8 x10).f0.f1) ((rd_T27 x8 x10).f0.f2)).bind fun t141 => (lease_Check.j1 k x0 x8 x9 x10 (decide (t141 ≥ 0)) ((rd_T27 x8 x10).f0.f0) ((rd_T27 x8 x10).f0.f1) ((rd_T27 x8 x10).f0.f2) ((rd_T27 x8 x10).f1) ((rd_T27 x8 x10).f2) ((rd_T27 x8 x10).f3) ((rd_T27 x8 x10).f4) ((rd_T27 x8 x10).f5) ((rd_T27 x8 x10).f6))) else (none)) else (none)) else (lease_Check.j1 k x0 x8 x9 x10 false ((rd_T27 x8 x10).f0.f0) ((rd_T27 x8 x10).f0.f1) ((rd_T27 x8 x10).f0.f2) ((rd_T27 x8 x10).f1) ((rd_T27 x8 x10).f2) ((rd_T27 x8 x10).f3) ((rd_T27 x8 x10).f4) ((rd_T27 x8 x10).f5) ((rd_T27 x8 x10).f6))) else (some 3))) else (none)) else (none)) else (some 0)
def lease_Check.j1 : Nat → List (S27) → List (S27) → Int → Int → Bool → Bool → Int → Int → ByteArray → Int → Int → Int → ByteArray → Int → Option (Int)
 | 0,_,_,_,_,_,_,_,_,_,_,_,_,_,_ => none
 | k + 1,x0,x8,x9,x10,x20,x139000,x139001,x139002,x139003,x139004,x139005,x139006,x139007,x139008 => if x20 = true then (some 7) else (if x139004 < 1 then (lease_Check.j2 k x0 x8 x9 x10 true x139000 x139001 x139002 x139003 x139004 x139005 x139006 x139007 x139008) else (if x139004 > 5 then (lease_Check.j2 k x0 x8 x9 x10 true x139000 x139001 x139002 x139003 x139004 x139005 x139006 x139007 x139008) else ((lease_isClient.f k x139003).bind fun t142 => (if t142 = true then ((lease_isXID.f x139008).bind fun t143 => (lease_Check.j2 k x0 x8 x9 x10 (!t143) x139000 x139001 x139002 x139003 x139004 x139005 x139006 x139007 x139008)) else (lease_Check.j2 k x0 x8 x9 x10 true x139000 x139001 x139002 x139003 x139004 x139005 x139006 x139007 x139008)))))
def lease_Check.j2 : Nat → List (S27) → List (S27) → Int → Int → Bool → Bool → Int → Int → ByteArray → Int → Int → Int → ByteArray → Int → Option (Int)
 | 0,_,_,_,_,_,_,_,_,_,_,_,_,_,_ => none
 | k + 1,x0,x8,x9,x10,x35,x139000,x139001,x139002,x139003,x139004,x139005,x139006,x139007,x139008 => if x35 = true then (some 1) else ((lease_isTime.f x139005).bind fun t144 => (if t144 = true then ((lease_isTime.f x139006).bind fun t145 => (if t145 = true then (lease_Check.j3 k x0 x8 x9 x10 (decide (x139005 > x139006)) x139000 x139001 x139002 x139003 x139004 x139005 x139006 x139007 x139008) else (lease_Check.j3 k x0 x8 x9 x10 true x139000 x139001 x139002 x139003 x139004 x139005 x139006 x139007 x139008))) else (lease_Check.j3 k x0 x8 x9 x10 true x139000 x139001 x139002 x139003 x139004 x139005 x139006 x139007 x139008)))
def lease_Check.j3 : Nat → List (S27) → List (S27) → Int → Int → Bool → Bool → Int → Int → ByteArray → Int → Int → Int → ByteArray → Int → Option (Int)
 | 0,_,_,_,_,_,_,_,_,_,_,_,_,_,_ => none
 | k + 1,x0,x8,x9,x10,x56,x139000,x139001,x139002,x139003,x139004,x139005,x139006,x139007,x139008 => if x56 = true then (some 1) else ((lease_isHost.f k x139007).bind fun t146 => (if t146 = true then (lease_Check.l0 k x0 x8 x9 (wrap64 (x10 + 1))) else (some 2)))
end
def lease_Check.f (k : Nat) (l0 : List (S27)) : Option (Int) := if (l0.length : Int) > 512 then (some 9) else (lease_Check.l0 k l0 l0 (l0.length : Int) 0)
def slices_Clone_21.f (l0 : List (S27)) : Option (List (S27)) := if l0.length * 88 ≤ 140737488355328 then some l0 else none
def failover_Merge_1.f (k : Nat) (a0_0 : Bool) (a0_1 : Int) (a0_2 : Int) (a0_3 : ByteArray) (a0_4 : Int) (a0_5 : Int) (a0_6 : Int) (a0_7 : ByteArray) (a0_8 : Int) (a1_0 : Bool) (a1_1 : Int) (a1_2 : Int) : Option (Int) := (addr_Compare.f k a0_0 a0_1 a0_2 a1_0 a1_1 a1_2).bind fun t149 => (some t149)
def slices_Insert.f (l0 : List (S27)) (a1 : Int) (l2 : List (S27)) : Option (List (S27)) :=
 if 0 ≤ a1 then (if a1 ≤ (l0.length : Int) then (if (l0.length + l2.length) * 88 ≤ 140737488355328 then some (l0.take a1.toNat ++ l2 ++ l0.drop a1.toNat) else none) else none) else none
def failover_newer.f (a0_0 : Bool) (a0_1 : Int) (a0_2 : Int) (a0_3 : ByteArray) (a0_4 : Int) (a0_5 : Int) (a0_6 : Int) (a0_7 : ByteArray) (a0_8 : Int) (a1_0 : Bool) (a1_1 : Int) (a1_2 : Int) (a1_3 : ByteArray) (a1_4 : Int) (a1_5 : Int) (a1_6 : Int) (a1_7 : ByteArray) (a1_8 : Int) : Option (Bool) := if a0_5 = a1_5 then (if a0_3.toList = a1_3.toList then (if a0_6 = a1_6 then (some (decide (a0_4 > a1_4))) else (some (decide (a0_6 > a1_6)))) else (some false)) else (some (decide (a0_5 > a1_5)))
def slices_BinarySearchFunc_23.l0 : Nat → List (S27) → Int → Int → Int → Bool → Int → Int → Option (Int × Bool)
 | 0,_,_,_,_,_,_,_ => none
 | k + 1,x0,x8,x9,x10,x161000,x161001,x161002 => if x9 < x10 then (if 0 ≤ (wrap64 ((IntKind.u64.wrap (wrap64 (x9 + x10))) / 2)) then (if (wrap64 ((IntKind.u64.wrap (wrap64 (x9 + x10))) / 2)) < (x0.length : Int) then ((failover_Merge_1.f k ((rd_T27 x0 (wrap64 ((IntKind.u64.wrap (wrap64 (x9 + x10))) / 2))).f0.f0) ((rd_T27 x0 (wrap64 ((IntKind.u64.wrap (wrap64 (x9 + x10))) / 2))).f0.f1) ((rd_T27 x0 (wrap64 ((IntKind.u64.wrap (wrap64 (x9 + x10))) / 2))).f0.f2) ((rd_T27 x0 (wrap64 ((IntKind.u64.wrap (wrap64 (x9 + x10))) / 2))).f1) ((rd_T27 x0 (wrap64 ((IntKind.u64.wrap (wrap64 (x9 + x10))) / 2))).f2) ((rd_T27 x0 (wrap64 ((IntKind.u64.wrap (wrap64 (x9 + x10))) / 2))).f3) ((rd_T27 x0 (wrap64 ((IntKind.u64.wrap (wrap64 (x9 + x10))) / 2))).f4) ((rd_T27 x0 (wrap64 ((IntKind.u64.wrap (wrap64 (x9 + x10))) / 2))).f5) ((rd_T27 x0 (wrap64 ((IntKind.u64.wrap (wrap64 (x9 + x10))) / 2))).f6) x161000 x161001 x161002).bind fun t162 => (if t162 < 0 then (slices_BinarySearchFunc_23.l0 k x0 x8 (wrap64 ((wrap64 ((IntKind.u64.wrap (wrap64 (x9 + x10))) / 2)) + 1)) x10 x161000 x161001 x161002) else (slices_BinarySearchFunc_23.l0 k x0 x8 x9 (wrap64 ((IntKind.u64.wrap (wrap64 (x9 + x10))) / 2)) x161000 x161001 x161002))) else (none)) else (none)) else (if x9 < x8 then (if 0 ≤ x9 then (if x9 < (x0.length : Int) then ((failover_Merge_1.f k ((rd_T27 x0 x9).f0.f0) ((rd_T27 x0 x9).f0.f1) ((rd_T27 x0 x9).f0.f2) ((rd_T27 x0 x9).f1) ((rd_T27 x0 x9).f2) ((rd_T27 x0 x9).f3) ((rd_T27 x0 x9).f4) ((rd_T27 x0 x9).f5) ((rd_T27 x0 x9).f6) x161000 x161001 x161002).bind fun t164 => (some (x9,(t164 == 0)))) else (none)) else (none)) else (some (x9,false)))
def slices_BinarySearchFunc_23.f (k : Nat) (l0 : List (S27)) (a1_0 : Bool) (a1_1 : Int) (a1_2 : Int)  : Option (Int × Bool) := slices_BinarySearchFunc_23.l0 k l0 (l0.length : Int) 0 (l0.length : Int) a1_0 a1_1 a1_2
def failover_Merge.j0 : Nat → List (S27) → Int → Bool → Bool → Bool → Int → Int → ByteArray → Int → Int → Int → ByteArray → Int → Option ((List (S27)) × Bool)
 | 0,_,_,_,_,_,_,_,_,_,_,_,_,_ => none
 | k + 1,x6,x7,x8,x24,x166000,x166001,x166002,x166003,x166004,x166005,x166006,x166007,x166008 => if x24 = true then (some (x6,false)) else (if x8 = true then (if 0 ≤ x7 then (if x7 < (x6.length : Int) then ((failover_newer.f x166000 x166001 x166002 x166003 x166004 x166005 x166006 x166007 x166008 ((rd_T27 x6 x7).f0.f0) ((rd_T27 x6 x7).f0.f1) ((rd_T27 x6 x7).f0.f2) ((rd_T27 x6 x7).f1) ((rd_T27 x6 x7).f2) ((rd_T27 x6 x7).f3) ((rd_T27 x6 x7).f4) ((rd_T27 x6 x7).f5) ((rd_T27 x6 x7).f6)).bind fun t176 => (if t176 = true then (if x166003.toList = ((rd_T27 x6 x7).f1).toList then (some ((x6.set (x7 : Int).toNat (⟨(⟨x166000,x166001,x166002⟩ : S25),x166003,x166004,x166005,x166006,x166007,mx x166008 ((rd_T27 x6 x7).f6)⟩ : S27)),true)) else (some ((x6.set (x7 : Int).toNat (⟨(⟨x166000,x166001,x166002⟩ : S25),x166003,x166004,x166005,x166006,x166007,x166008⟩ : S27)),true))) else (some (x6,false)))) else (none)) else (none)) else ((slices_Insert.f x6 x7 (([(⟨(⟨x166000,x166001,x166002⟩ : S25),x166003,x166004,x166005,x166006,x166007,x166008⟩ : S27)] : List (S27)))).bind fun t184 => (some (t184,true))))
def failover_Merge.f (k : Nat) (l0 : List (S27)) (a1_0 : Bool) (a1_1 : Int) (a1_2 : Int) (a1_3 : ByteArray) (a1_4 : Int) (a1_5 : Int) (a1_6 : Int) (a1_7 : ByteArray) (a1_8 : Int) : Option ((List (S27)) × Bool) := (slices_Clone_21.f l0).bind fun t166 => ((slices_BinarySearchFunc_23.f k t166 a1_0 a1_1 a1_2).bind fun bt169 => ((lease_Check.f k (([(⟨(⟨a1_0,a1_1,a1_2⟩ : S25),a1_3,a1_4,a1_5,a1_6,a1_7,a1_8⟩ : S27)] : List (S27)))).bind fun t174 => (if t174 = 0 then (if bt169.2 = true then (failover_Merge.j0 k t166 bt169.1 bt169.2 false a1_0 a1_1 a1_2 a1_3 a1_4 a1_5 a1_6 a1_7 a1_8) else (failover_Merge.j0 k t166 bt169.1 bt169.2 (decide ((t166.length : Int) ≥ 512)) a1_0 a1_1 a1_2 a1_3 a1_4 a1_5 a1_6 a1_7 a1_8)) else (some (t166,false)))))
def ddilaw44_tables.l0 : Nat → List (S27) → List (S27) → Int → Option (Bool)
 | 0,_,_,_ => none
 | k + 1,x0,x1,x5 => if x5 < (x0.length : Int) then (if 0 ≤ x5 then (if x5 < (x1.length : Int) then (if ((!(((rd_T27 x0 x5).f0.f0) == ((rd_T27 x1 x5).f0.f0)) || (!(((rd_T27 x0 x5).f0.f1) == ((rd_T27 x1 x5).f0.f1)) || (!(((rd_T27 x0 x5).f0.f2) == ((rd_T27 x1 x5).f0.f2))))) || (!((((rd_T27 x0 x5).f1).toList) == (((rd_T27 x1 x5).f1).toList)) || (!(((rd_T27 x0 x5).f2) == ((rd_T27 x1 x5).f2)) || (!(((rd_T27 x0 x5).f3) == ((rd_T27 x1 x5).f3)) || (!(((rd_T27 x0 x5).f4) == ((rd_T27 x1 x5).f4)) || (!((((rd_T27 x0 x5).f5).toList) == (((rd_T27 x1 x5).f5).toList)) || (!(((rd_T27 x0 x5).f6) == ((rd_T27 x1 x5).f6))))))))) = true then (some false) else (ddilaw44_tables.l0 k x0 x1 (wrap64 (x5 + 1)))) else (none)) else (none)) else (some true)
def ddilaw44_tables.f (k : Nat) (l0 : List (S27)) (l1 : List (S27)) : Option (Bool) := if (l0.length : Int) = (l1.length : Int) then (ddilaw44_tables.l0 k l0 l1 0) else (some false)
def lease_place_1.f (k : Nat) (a0_0 : Bool) (a0_1 : Int) (a0_2 : Int) (a0_3 : ByteArray) (a0_4 : Int) (a0_5 : Int) (a0_6 : Int) (a0_7 : ByteArray) (a0_8 : Int) (a1_0 : Bool) (a1_1 : Int) (a1_2 : Int) : Option (Int) := (addr_Compare.f k a0_0 a0_1 a0_2 a1_0 a1_1 a1_2).bind fun t191 => (some t191)
def slices_BinarySearchFunc_57.l0 : Nat → List (S27) → Int → Int → Int → Bool → Int → Int → Option (Int × Bool)
 | 0,_,_,_,_,_,_,_ => none
 | k + 1,x0,x8,x9,x10,x193000,x193001,x193002 => if x9 < x10 then (if 0 ≤ (wrap64 ((IntKind.u64.wrap (wrap64 (x9 + x10))) / 2)) then (if (wrap64 ((IntKind.u64.wrap (wrap64 (x9 + x10))) / 2)) < (x0.length : Int) then ((lease_place_1.f k ((rd_T27 x0 (wrap64 ((IntKind.u64.wrap (wrap64 (x9 + x10))) / 2))).f0.f0) ((rd_T27 x0 (wrap64 ((IntKind.u64.wrap (wrap64 (x9 + x10))) / 2))).f0.f1) ((rd_T27 x0 (wrap64 ((IntKind.u64.wrap (wrap64 (x9 + x10))) / 2))).f0.f2) ((rd_T27 x0 (wrap64 ((IntKind.u64.wrap (wrap64 (x9 + x10))) / 2))).f1) ((rd_T27 x0 (wrap64 ((IntKind.u64.wrap (wrap64 (x9 + x10))) / 2))).f2) ((rd_T27 x0 (wrap64 ((IntKind.u64.wrap (wrap64 (x9 + x10))) / 2))).f3) ((rd_T27 x0 (wrap64 ((IntKind.u64.wrap (wrap64 (x9 + x10))) / 2))).f4) ((rd_T27 x0 (wrap64 ((IntKind.u64.wrap (wrap64 (x9 + x10))) / 2))).f5) ((rd_T27 x0 (wrap64 ((IntKind.u64.wrap (wrap64 (x9 + x10))) / 2))).f6) x193000 x193001 x193002).bind fun t194 => (if t194 < 0 then (slices_BinarySearchFunc_57.l0 k x0 x8 (wrap64 ((wrap64 ((IntKind.u64.wrap (wrap64 (x9 + x10))) / 2)) + 1)) x10 x193000 x193001 x193002) else (slices_BinarySearchFunc_57.l0 k x0 x8 x9 (wrap64 ((IntKind.u64.wrap (wrap64 (x9 + x10))) / 2)) x193000 x193001 x193002))) else (none)) else (none)) else (if x9 < x8 then (if 0 ≤ x9 then (if x9 < (x0.length : Int) then ((lease_place_1.f k ((rd_T27 x0 x9).f0.f0) ((rd_T27 x0 x9).f0.f1) ((rd_T27 x0 x9).f0.f2) ((rd_T27 x0 x9).f1) ((rd_T27 x0 x9).f2) ((rd_T27 x0 x9).f3) ((rd_T27 x0 x9).f4) ((rd_T27 x0 x9).f5) ((rd_T27 x0 x9).f6) x193000 x193001 x193002).bind fun t196 => (some (x9,(t196 == 0)))) else (none)) else (none)) else (some (x9,false)))
def slices_BinarySearchFunc_57.f (k : Nat) (l0 : List (S27)) (a1_0 : Bool) (a1_1 : Int) (a1_2 : Int)  : Option (Int × Bool) := slices_BinarySearchFunc_57.l0 k l0 (l0.length : Int) 0 (l0.length : Int) a1_0 a1_1 a1_2
def lease_place.f (k : Nat) (l0 : List (S27)) (a1_0 : Bool) (a1_1 : Int) (a1_2 : Int) : Option (Int × Bool) := (slices_BinarySearchFunc_57.f k l0 a1_0 a1_1 a1_2).bind fun bt198 => (some (bt198.1,bt198.2))
def lease_Find.f (k : Nat) (l0 : List (S27)) (a1_0 : Bool) (a1_1 : Int) (a1_2 : Int) : Option (Bool × Int × Int × ByteArray × Int × Int × Int × ByteArray × Int × Bool) := (lease_place.f k l0 a1_0 a1_1 a1_2).bind fun bt202 => (if bt202.2 = true then (if 0 ≤ bt202.1 then (if bt202.1 < (l0.length : Int) then (some ((rd_T27 l0 bt202.1).f0.f0,(rd_T27 l0 bt202.1).f0.f1,(rd_T27 l0 bt202.1).f0.f2,(rd_T27 l0 bt202.1).f1,(rd_T27 l0 bt202.1).f2,(rd_T27 l0 bt202.1).f3,(rd_T27 l0 bt202.1).f4,(rd_T27 l0 bt202.1).f5,(rd_T27 l0 bt202.1).f6,true)) else (none)) else (none)) else (some (false,0,0,(⟨#[]⟩ : ByteArray),0,0,0,(⟨#[]⟩ : ByteArray),0,false)))
mutual
def ddilaw44_FailoverAgain.j0 : Nat → List (S27) → Bool → Bool → Int → Int → ByteArray → Int → Int → Int → ByteArray → Int → Bool → Int → Int → Option (Bool)
 | 0,_,_,_,_,_,_,_,_,_,_,_,_,_,_ => none
 | k + 1,x0,x29,x206000,x206001,x206002,x206003,x206004,x206005,x206006,x206007,x206008,x207000,x207001,x207002 => if x29 = true then (some false) else (if (x0.length : Int) > 600 then (ddilaw44_FailoverAgain.j1 k x0 true x206000 x206001 x206002 x206003 x206004 x206005 x206006 x206007 x206008 x207000 x207001 x207002) else (if (x206003.size : Int) > 1000 then (ddilaw44_FailoverAgain.j1 k x0 true x206000 x206001 x206002 x206003 x206004 x206005 x206006 x206007 x206008 x207000 x207001 x207002) else (if (x206007.size : Int) > 1000 then (ddilaw44_FailoverAgain.j1 k x0 true x206000 x206001 x206002 x206003 x206004 x206005 x206006 x206007 x206008 x207000 x207001 x207002) else ((lease_Check.f k x0).bind fun t211 => (ddilaw44_FailoverAgain.j1 k x0 (t211 != 0) x206000 x206001 x206002 x206003 x206004 x206005 x206006 x206007 x206008 x207000 x207001 x207002)))))
def ddilaw44_FailoverAgain.j1 : Nat → List (S27) → Bool → Bool → Int → Int → ByteArray → Int → Int → Int → ByteArray → Int → Bool → Int → Int → Option (Bool)
 | 0,_,_,_,_,_,_,_,_,_,_,_,_,_,_ => none
 | k + 1,x0,x49,x206000,x206001,x206002,x206003,x206004,x206005,x206006,x206007,x206008,x207000,x207001,x207002 => if x49 = true then (some true) else ((failover_Merge.f k x0 x206000 x206001 x206002 x206003 x206004 x206005 x206006 x206007 x206008).bind fun bt212 => (if bt212.2 = true then ((lease_Find.f k bt212.1 x206000 x206001 x206002).bind fun bt217 => (if bt217.2.2.2.2.2.2.2.2.2 = true then ((lease_Check.f k bt212.1).bind fun t228 => (if t228 = 0 then (ddilaw44_FailoverAgain.j2 k x0 bt212.1 (decide (bt217.2.2.2.2.2.2.2.2.1 < x206008)) x206000 x206001 x206002 x206003 x206004 x206005 x206006 x206007 x206008 x207000 x207001 x207002 bt217.1 bt217.2.1 bt217.2.2.1 bt217.2.2.2.1 bt217.2.2.2.2.1 bt217.2.2.2.2.2.1 bt217.2.2.2.2.2.2.1 bt217.2.2.2.2.2.2.2.1 bt217.2.2.2.2.2.2.2.2.1) else (ddilaw44_FailoverAgain.j2 k x0 bt212.1 true x206000 x206001 x206002 x206003 x206004 x206005 x206006 x206007 x206008 x207000 x207001 x207002 bt217.1 bt217.2.1 bt217.2.2.1 bt217.2.2.2.1 bt217.2.2.2.2.1 bt217.2.2.2.2.2.1 bt217.2.2.2.2.2.2.1 bt217.2.2.2.2.2.2.2.1 bt217.2.2.2.2.2.2.2.2.1))) else (ddilaw44_FailoverAgain.j2 k x0 bt212.1 true x206000 x206001 x206002 x206003 x206004 x206005 x206006 x206007 x206008 x207000 x207001 x207002 bt217.1 bt217.2.1 bt217.2.2.1 bt217.2.2.2.1 bt217.2.2.2.2.1 bt217.2.2.2.2.2.1 bt217.2.2.2.2.2.2.1 bt217.2.2.2.2.2.2.2.1 bt217.2.2.2.2.2.2.2.2.1))) else ((ddilaw44_tables.f k bt212.1 x0).bind fun t216 => (some t216))))
def ddilaw44_FailoverAgain.j2 : Nat → List (S27) → List (S27) → Bool → Bool → Int → Int → ByteArray → Int → Int → Int → ByteArray → Int → Bool → Int → Int → Bool → Int → Int → ByteArray → Int → Int → Int → ByteArray → Int → Option (Bool)
 | 0,_,_,_,_,_,_,_,_,_,_,_,_,_,_,_,_,_,_,_,_,_,_,_,_ => none
 | k + 1,x0,x7,x81,x206000,x206001,x206002,x206003,x206004,x206005,x206006,x206007,x206008,x207000,x207001,x207002,x228000,x228001,x228002,x228003,x228004,x228005,x228006,x228007,x228008 => if x81 = true then (some false) else (if ((!(x228000 == x206000) || (!(x228001 == x206001) || (!(x228002 == x206002)))) || (!(x228003.toList == x206003.toList) || (!(x228004 == x206004) || (!(x228005 == x206005) || (!(x228006 == x206006) || (!(x228007.toList == x206007.toList))))))) = true then (some false) else (if (!(x207000 == x206000) || (!(x207001 == x206001) || (!(x207002 == x206002)))) = true then ((lease_Find.f k x0 x207000 x207001 x207002).bind fun bt229 => ((lease_Find.f k x7 x207000 x207001 x207002).bind fun bt240 => (if ((!(bt229.1 == bt240.1) || (!(bt229.2.1 == bt240.2.1) || (!(bt229.2.2.1 == bt240.2.2.1)))) || (!(bt229.2.2.2.1.toList == bt240.2.2.2.1.toList) || (!(bt229.2.2.2.2.1 == bt240.2.2.2.2.1) || (!(bt229.2.2.2.2.2.1 == bt240.2.2.2.2.2.1) || (!(bt229.2.2.2.2.2.2.1 == bt240.2.2.2.2.2.2.1) || (!(bt229.2.2.2.2.2.2.2.1.toList == bt240.2.2.2.2.2.2.2.1.toList) || (!(bt229.2.2.2.2.2.2.2.2.1 == bt240.2.2.2.2.2.2.2.2.1)))))))) = true then (ddilaw44_FailoverAgain.j3 k x7 true x206000 x206001 x206002 x206003 x206004 x206005 x206006 x206007 x206008) else (ddilaw44_FailoverAgain.j3 k x7 (bt229.2.2.2.2.2.2.2.2.2 != bt240.2.2.2.2.2.2.2.2.2) x206000 x206001 x206002 x206003 x206004 x206005 x206006 x206007 x206008)))) else (ddilaw44_FailoverAgain.j4 k x7 x206000 x206001 x206002 x206003 x206004 x206005 x206006 x206007 x206008)))
def ddilaw44_FailoverAgain.j4 : Nat → List (S27) → Bool → Int → Int → ByteArray → Int → Int → Int → ByteArray → Int → Option (Bool)
 | 0,_,_,_,_,_,_,_,_,_,_ => none
 | k + 1,x7,x206000,x206001,x206002,x206003,x206004,x206005,x206006,x206007,x206008 => (failover_Merge.f k x7 x206000 x206001 x206002 x206003 x206004 x206005 x206006 x206007 x206008).bind fun bt251 => (if bt251.2 = true then (some false) else ((ddilaw44_tables.f k bt251.1 x7).bind fun t255 => (some t255)))
def ddilaw44_FailoverAgain.j3 : Nat → List (S27) → Bool → Bool → Int → Int → ByteArray → Int → Int → Int → ByteArray → Int → Option (Bool)
 | 0,_,_,_,_,_,_,_,_,_,_,_ => none
 | k + 1,x7,x111,x206000,x206001,x206002,x206003,x206004,x206005,x206006,x206007,x206008 => if x111 = true then (some false) else (ddilaw44_FailoverAgain.j4 k x7 x206000 x206001 x206002 x206003 x206004 x206005 x206006 x206007 x206008)
end
def ddilaw44_FailoverAgain.f (k : Nat) (l0 : List (S27)) (a1_0 : Bool) (a1_1 : Int) (a1_2 : Int) (a1_3 : ByteArray) (a1_4 : Int) (a1_5 : Int) (a1_6 : Int) (a1_7 : ByteArray) (a1_8 : Int) (a2_0 : Bool) (a2_1 : Int) (a2_2 : Int) : Option (Bool) := (failover_Merge.f k ([] : List (S27)) false 0 1 (⟨#[99]⟩ : ByteArray) 2 0 5 (⟨#[]⟩ : ByteArray) 0).bind fun bt207 => (if (bt207.1.length : Int) = 1 then (ddilaw44_FailoverAgain.j0 k l0 (!bt207.2) a1_0 a1_1 a1_2 a1_3 a1_4 a1_5 a1_6 a1_7 a1_8 a2_0 a2_1 a2_2) else (ddilaw44_FailoverAgain.j0 k l0 true a1_0 a1_1 a1_2 a1_3 a1_4 a1_5 a1_6 a1_7 a1_8 a2_0 a2_1 a2_2))
/-- THE ONE PURE STATEMENT of ddilaw44_FailoverAgain: ours. -/
def ddilaw44_FailoverAgain.Pure : Prop := ∀ (l0 : List (S27)) (a1_0 : Bool) (a1_1 : Int) (a1_2 : Int) (a1_3 : ByteArray) (a1_4 : Int) (a1_5 : Int) (a1_6 : Int) (a1_7 : ByteArray) (a1_8 : Int) (a2_0 : Bool) (a2_1 : Int) (a2_2 : Int),(l0.length * 88 ≤ 140737488351232 ∧ l0.length ≤ maxLen ∧ ∀ y0_ ∈ l0,okS27 y0_) → okS27 (⟨(⟨a1_0,a1_1,a1_2⟩ : S25),a1_3,a1_4,a1_5,a1_6,a1_7,a1_8⟩ : S27) → okS25 (⟨a2_0,a2_1,a2_2⟩ : S25) → ∃ k,ddilaw44_FailoverAgain.f k l0 a1_0 a1_1 a1_2 a1_3 a1_4 a1_5 a1_6 a1_7 a1_8 a2_0 a2_1 a2_2 = some true
end Go.Proofs.YtpcjablkjaiapaaDoor.QA
