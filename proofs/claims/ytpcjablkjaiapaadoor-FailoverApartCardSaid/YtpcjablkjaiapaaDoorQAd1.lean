import Derived.Test.YtpcjablkjaiapaaDoorXB
import Derived.Test.YtpcjablkjaiapaaDoorXC
import Derived.Test.YtpcjablkjaiapaaDoorXR
import Derived.Test.YtpcjablkjaiapaaDoorWMore
import Derived.Below
import Derived.Deep.Draws
import Derived.Deep.AppendLies
import Derived.Maps.AppendAt
import Derived.OwnWalk
import Derived.Laws.BytesArg
import Derived.Laws.MakeOwn
import Derived.Laws.OwnMore
import Derived.Deep.OwnRows
import Derived.Tactics
import Derived.Lib.ConvBytes
import Derived.Laws.Slices
import Derived.WalkKit
import Derived.KernelRfl
import Derived.RowKit3
import Derived.Deep.LoopGhost
import Derived.Deep.QuietTactic
import Derived.BigQuiet
import Derived.WideLaws
import Derived.Deep.DeepCutAuto
import Derived.Deep.CutBlock
import Derived.Deep.RegionHeld3
import Derived.Laws.Rows
import Derived.Lib.AppendStr
import Derived.ArgAppend
import Derived.Laws.IdiomCopy
import Derived.OrdersHeld
import Derived.Laws.BitsLemmas
import Derived.RowKit
namespace Go.Proofs.YtpcjablkjaiapaaDoor.QA
open Go.RowKit Go.Proofs.YtpcjablkjaiapaaDoorW.PrintWords Go.Proofs.YtpcjablkjaiapaaDoorW.PrintLast Go.Proofs.YtpcjablkjaiapaaDoorW.PrintMore
set_option linter.unusedVariables false
structure S25 where
 f0 : Bool
 f1 : Int
 f2 : Int
def z25 : S25 := ⟨false,(0 : Int),(0 : Int)⟩
structure S27 where
 f0 : S25
 f1 : ByteArray
 f2 : Int
 f3 : Int
 f4 : Int
 f5 : ByteArray
 f6 : Int
structure S37 where
 f0 : Bool
 f1 : Int
 f2 : Int
 f3 : Int
structure S53 where
 f0 : ByteArray
 f1 : S25
 f2 : ByteArray
def z53 : S53 := ⟨(⟨#[]⟩ : ByteArray),z25,(⟨#[]⟩ : ByteArray)⟩
def rd_T53 (xs : List S53) (i : Int) : S53 := xs.getD i.toNat z53
structure S57 where
 f0 : S25
 f1 : S25
def z57 : S57 := ⟨z25,z25⟩
def rd_T57 (xs : List S57) (i : Int) : S57 := xs.getD i.toNat z57
structure S83 where
 f0 : Int
 f1 : ByteArray
def z83 : S83 := ⟨(0 : Int),(⟨#[]⟩ : ByteArray)⟩
def rd_T83 (xs : List S83) (i : Int) : S83 := xs.getD i.toNat z83
structure S41 where
 f0 : S25
 f1 : Int
structure S46 where
 f0 : S41
 f1 : ByteArray
 f2 : (List S57)
 f3 : (List S53)
 f4 : (List S83)
 f5 : Int
structure S48 where
 f0 : S25
 f1 : Int
def okS25 (x : S25) : Prop := True ∧ ((Lit.int .u64 x.f1).wf = true ∧ (Lit.int .u64 x.f2).wf = true)
def okS37 (x : S37) : Prop := True ∧ ((Lit.int .i64 x.f1).wf = true ∧ ((Lit.int .i64 x.f2).wf = true ∧ (Lit.int .i64 x.f3).wf = true))
def okS41 (x : S41) : Prop := okS25 x.f0 ∧ (Lit.int .i64 x.f1).wf = true
def okS57 (x : S57) : Prop := okS25 x.f0 ∧ okS25 x.f1
def okS53 (x : S53) : Prop := x.f0.size ≤ 140737488351232 ∧ (okS25 x.f1 ∧ x.f2.size ≤ 140737488351232)
def okS83 (x : S83) : Prop := (Lit.int .i64 x.f0).wf = true ∧ x.f1.size ≤ 140737488351232
def okS46 (x : S46) : Prop := okS41 x.f0 ∧ (x.f1.size ≤ 140737488351232 ∧ ((x.f2.length * 48 ≤ 140737488351232 ∧ x.f2.length ≤ maxLen ∧ ∀ y0_ ∈ x.f2,okS57 y0_) ∧ ((x.f3.length * 56 ≤ 140737488351232 ∧ x.f3.length ≤ maxLen ∧ ∀ y0_ ∈ x.f3,okS53 y0_) ∧ ((x.f4.length * 24 ≤ 140737488351232 ∧ x.f4.length ≤ maxLen ∧ ∀ y0_ ∈ x.f4,okS83 y0_) ∧ (Lit.int .i64 x.f5).wf = true))))
def okS48 (x : S48) : Prop := okS25 x.f0 ∧ (Lit.int .i64 x.f1).wf = true
def conv_bytes_119.f (a0 : ByteArray) : Option (List Int) := XC.conv a0
def addr_number.f (a0 : Int) (a1 : Int) : Option (Int) := if a0 < a1 then (some (-1)) else (if a0 > a1 then (some 1) else (some 0))
def addr_Compare.j0 : Nat → Bool → Bool → Int → Int → Bool → Int → Int → Option (Int)
 | 0,_,_,_,_,_,_,_ => none
 | k + 1,x5,x102000,x102001,x102002,x103000,x103001,x103002 => if x5 = true then (some (-1)) else (if (x102000 != x103000) = true then (some 1) else (if x102001 = x103001 then ((addr_number.f x102002 x103002).bind fun t104 => (some t104)) else ((addr_number.f x102001 x103001).bind fun t103 => (some t103))))
def addr_Compare.f (k : Nat) (a0_0 : Bool) (a0_1 : Int) (a0_2 : Int) (a1_0 : Bool) (a1_1 : Int) (a1_2 : Int) : Option (Int) := if (a0_0 != a1_0) = true then (addr_Compare.j0 k a1_0 a0_0 a0_1 a0_2 a1_0 a1_1 a1_2) else (addr_Compare.j0 k false a0_0 a0_1 a0_2 a1_0 a1_1 a1_2)
theorem addr_Compare.mono_l : ∀ k,(∀ y0 y1 y2 y3 y4 y5 y6,LeO (addr_Compare.j0 k y0 y1 y2 y3 y4 y5 y6) (addr_Compare.j0 (k + 1) y0 y1 y2 y3 y4 y5 y6))
 | 0 => fun _ _ _ _ _ _ _ r h => by simp [addr_Compare.j0] at h
 | k + 1 => by
  have ih0 := addr_Compare.mono_l k
  ·intro y0 y1 y2 y3 y4 y5 y6
   unfold addr_Compare.j0
   repeat' first
   | (with_reducible exact ih0 _ _ _ _ _ _ _)
   | (with_reducible exact LeO.refl _)
   | (with_reducible exact LeO.none _)
   | (with_reducible refine LeO.ite ?_ ?_)
   | (with_reducible refine LeO.bind ?_ (fun _ => ?_))
theorem addr_Compare.mono : ∀ a0 a1 a2 a3 a4 a5 k,LeO (addr_Compare.f k a0 a1 a2 a3 a4 a5) (addr_Compare.f (k + 1) a0 a1 a2 a3 a4 a5) := by
 intro a0 a1 a2 a3 a4 a5 k
 have ih0 := addr_Compare.mono_l k
 unfold addr_Compare.f
 repeat' first
   | (with_reducible exact ih0 _ _ _ _ _ _ _)
   | (with_reducible exact LeO.refl _)
   | (with_reducible exact LeO.none _)
   | (with_reducible refine LeO.ite ?_ ?_)
   | (with_reducible refine LeO.bind ?_ (fun _ => ?_))
def addr_Valid.f (a0_0 : Bool) (a0_1 : Int) (a0_2 : Int) : Option (Bool) := if a0_0 = true then (some true) else (if a0_1 = 0 then (some (decide (a0_2 ≤ 4294967295))) else (some false))
def stringslite_HasSuffix.f (a0 : ByteArray) (a1 : ByteArray) : Option (Bool) := if (a0.size : Int) ≥ (a1.size : Int) then (if 0 ≤ (wrap64 ((a0.size : Int) - (a1.size : Int))) then (if (wrap64 ((a0.size : Int) - (a1.size : Int))) ≤ (a0.size : Int) then (some ((a0.extract ((wrap64 ((a0.size : Int) - (a1.size : Int))) : Int).toNat a0.size).toList == a1.toList)) else (none)) else (none)) else (some false)
def strings_HasSuffix.f (a0 : ByteArray) (a1 : ByteArray) : Option (Bool) := (stringslite_HasSuffix.f a0 a1).bind fun t106 => (some t106)
def strings_explode.f (a0 : ByteArray) (a1 : Int) : Option (List ByteArray) := none
def stringslite_Index.f (a0 : ByteArray) (a1 : ByteArray) : Option (Int) := if a1.size = 1 then some (XB.index a0 a1) else none
def strings_Index.f (a0 : ByteArray) (a1 : ByteArray) : Option (Int) := (stringslite_Index.f a0 a1).bind fun t109 => (some t109)
def strings_Count.f (a0 : ByteArray) (a1 : ByteArray) : Option (Int) := if a1.size = 1 then some (XB.count a0 a1) else none
mutual
def strings_genSplit.j0 : Nat → ByteArray → ByteArray → Int → Int → Option (List ByteArray)
 | 0,_,_,_,_ => none
 | k + 1,x0,x1,x2,x3 => if 0 ≤ (mn x3 (wrap64 ((x0.size : Int) + 1))) then (if (mn x3 (wrap64 ((x0.size : Int) + 1)) : Int).toNat ≤ 17592186044416 then (strings_genSplit.l0 k x0 x1 x2 (wrap64 ((mn x3 (wrap64 ((x0.size : Int) + 1))) - 1)) (List.replicate (mn x3 (wrap64 ((x0.size : Int) + 1)) : Int).toNat (⟨#[]⟩ : ByteArray)) 0) else (none)) else (none)
def strings_genSplit.l0 : Nat → ByteArray → ByteArray → Int → Int → List ByteArray → Int → Option (List ByteArray)
 | 0,_,_,_,_,_,_ => none
 | k + 1,x0,x1,x2,x3,x9,x10 => if x10 < x3 then ((strings_Index.f x0 x1).bind fun t121 => (if t121 < 0 then (if 0 ≤ x10 then (if x10 < (x9.length : Int) then (if 0 ≤ (wrap64 (x10 + 1)) then (if (wrap64 (x10 + 1)) ≤ (x9.length : Int) then (some ((x9.set (x10 : Int).toNat x0).take ((wrap64 (x10 + 1)) : Int).toNat)) else (none)) else (none)) else (none)) else (none)) else (if 0 ≤ (wrap64 (t121 + x2)) then (if (wrap64 (t121 + x2)) ≤ (x0.size : Int) then (if 0 ≤ x10 then (if x10 < (x9.length : Int) then (if 0 ≤ (wrap64 (t121 + (x1.size : Int))) then (if (wrap64 (t121 + (x1.size : Int))) ≤ (x0.size : Int) then (strings_genSplit.l0 k (x0.extract ((wrap64 (t121 + (x1.size : Int))) : Int).toNat x0.size) x1 x2 x3 (x9.set (x10 : Int).toNat (x0.extract 0 ((wrap64 (t121 + x2)) : Int).toNat)) (wrap64 (x10 + 1))) else (none)) else (none)) else (none)) else (none)) else (none)) else (none)))) else (if 0 ≤ x10 then (if x10 < (x9.length : Int) then (if 0 ≤ (wrap64 (x10 + 1)) then (if (wrap64 (x10 + 1)) ≤ (x9.length : Int) then (some ((x9.set (x10 : Int).toNat x0).take ((wrap64 (x10 + 1)) : Int).toNat)) else (none)) else (none)) else (none)) else (none))
end
def strings_genSplit.f (k : Nat) (a0 : ByteArray) (a1 : ByteArray) (a2 : Int) (a3 : Int) : Option (List ByteArray) := if a3 = 0 then (some ([] : List ByteArray)) else (if a1.toList = ([] : List UInt8) then ((strings_explode.f a0 a3).bind fun t110 => (some t110)) else (if a3 < 0 then ((strings_Count.f a0 a1).bind fun t113 => (strings_genSplit.j0 k a0 a1 a2 (wrap64 (t113 + 1)))) else (strings_genSplit.j0 k a0 a1 a2 a3)))
def strings_Split.f (k : Nat) (a0 : ByteArray) (a1 : ByteArray) : Option (List ByteArray) := (strings_genSplit.f k a0 a1 0 (-1)).bind fun t127 => (some t127)
mutual
def dname_ordinary.j0 : Nat → ByteArray → Bool → Option (Bool)
 | 0,_,_ => none
 | k + 1,x0,x11 => if x11 = true then (some false) else (dname_ordinary.l0 k x0 (x0.size : Int) 0)
def dname_ordinary.l0 : Nat → ByteArray → Int → Int → Option (Bool)
 | 0,_,_,_ => none
 | k + 1,x0,x13,x14 => if x14 < x13 then (if 0 ≤ x14 then (if x14 < (x0.size : Int) then (if (bt x0 x14) < 97 then (if (bt x0 x14) < 48 then (if (bt x0 x14) = 45 then (dname_ordinary.j2 k x0 x13 x14 false) else (dname_ordinary.j2 k x0 x13 x14 ((bt x0 x14) != 95))) else (if (bt x0 x14) > 57 then (if (bt x0 x14) = 45 then (dname_ordinary.j2 k x0 x13 x14 false) else (dname_ordinary.j2 k x0 x13 x14 ((bt x0 x14) != 95))) else (dname_ordinary.j2 k x0 x13 x14 false))) else (if (bt x0 x14) > 122 then (if (bt x0 x14) < 48 then (if (bt x0 x14) = 45 then (dname_ordinary.j2 k x0 x13 x14 false) else (dname_ordinary.j2 k x0 x13 x14 ((bt x0 x14) != 95))) else (if (bt x0 x14) > 57 then (if (bt x0 x14) = 45 then (dname_ordinary.j2 k x0 x13 x14 false) else (dname_ordinary.j2 k x0 x13 x14 ((bt x0 x14) != 95))) else (dname_ordinary.j2 k x0 x13 x14 false))) else (dname_ordinary.j2 k x0 x13 x14 false))) else (none)) else (none)) else (some true)
def dname_ordinary.j2 : Nat → ByteArray → Int → Int → Bool → Option (Bool)
 | 0,_,_,_,_ => none
 | k + 1,x0,x13,x14,x41 => if x41 = true then (some false) else (dname_ordinary.l0 k x0 x13 (wrap64 (x14 + 1)))
end
def dname_ordinary.f (k : Nat) (a0 : ByteArray) : Option (Bool) := if a0.toList = ([] : List UInt8) then (dname_ordinary.j0 k a0 true) else (dname_ordinary.j0 k a0 (decide ((a0.size : Int) > 63)))
mutual
def dname_Valid.j0 : Nat → ByteArray → Bool → Option (Bool)
 | 0,_,_ => none
 | k + 1,x0,x14 => if x14 = true then (some false) else (if 0 ≤ (wrap64 ((x0.size : Int) - 1)) then (if (wrap64 ((x0.size : Int) - 1)) ≤ (x0.size : Int) then ((strings_Split.f k (x0.extract 0 ((wrap64 ((x0.size : Int) - 1)) : Int).toNat) (⟨#[46]⟩ : ByteArray)).bind fun t131 => (dname_Valid.l0 k t131 (t131.length : Int) 0)) else (none)) else (none))
def dname_Valid.l0 : Nat → List ByteArray → Int → Int → Option (Bool)
 | 0,_,_,_ => none
 | k + 1,x20,x21,x22 => if x22 < x21 then (if 0 ≤ x22 then (if x22 < (x20.length : Int) then ((dname_ordinary.f k (rdOf ByteArray.empty x20 x22)).bind fun t135 => (if t135 = true then (dname_Valid.j2 k x20 x21 x22 false) else (if x22 > 0 then (dname_Valid.j2 k x20 x21 x22 true) else (dname_Valid.j2 k x20 x21 x22 ((rdOf ByteArray.empty x20 x22).toList != ([42] : List UInt8)))))) else (none)) else (none)) else (some true)
def dname_Valid.j2 : Nat → List ByteArray → Int → Int → Bool → Option (Bool)
 | 0,_,_,_,_ => none
 | k + 1,x20,x21,x22,x37 => if x37 = true then (some false) else (dname_Valid.l0 k x20 x21 (wrap64 (x22 + 1)))
end
def dname_Valid.f (k : Nat) (a0 : ByteArray) : Option (Bool) := if a0.toList = ([46] : List UInt8) then (some true) else (if (a0.size : Int) ≥ 255 then (dname_Valid.j0 k a0 true) else ((strings_HasSuffix.f a0 (⟨#[46]⟩ : ByteArray)).bind fun t130 => (dname_Valid.j0 k a0 (!t130))))
end Go.Proofs.YtpcjablkjaiapaaDoor.QA
