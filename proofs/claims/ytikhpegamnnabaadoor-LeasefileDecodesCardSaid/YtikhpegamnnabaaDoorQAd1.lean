import Derived.Test.YtikhpegamnnabaaDoorXB
import Derived.Test.YtikhpegamnnabaaDoorXC
import Derived.Test.YtikhpegamnnabaaDoorXR
import Derived.Test.YtikhpegamnnabaaDoorWMore
import Derived.Below
import Derived.Deep.Draws
import Derived.Deep.AppendLies
import Derived.Maps.AppendAt
import Derived.OwnWalk
import Derived.Laws.BytesArg
import Derived.Laws.MakeOwn
import Derived.Laws.OwnMore
import Derived.Deep.OwnRows
import Derived.Tactics
import Derived.Lib.ConvBytes
import Derived.Laws.Slices
import Derived.WalkKit
import Derived.KernelRfl
import Derived.RowKit3
import Derived.Deep.LoopGhost
import Derived.Deep.QuietTactic
import Derived.BigQuiet
import Derived.WideLaws
import Derived.Deep.DeepCutAuto
import Derived.Deep.CutBlock
import Derived.Deep.RegionHeld3
import Derived.Laws.Rows
import Derived.Lib.AppendStr
import Derived.ArgAppend
import Derived.Laws.IdiomCopy
import Derived.OrdersHeld
import Derived.Laws.BitsLemmas
import Derived.RowKit
namespace Go.Proofs.YtikhpegamnnabaaDoor.QA
open Go.RowKit Go.Proofs.YtikhpegamnnabaaDoorW.PrintWords Go.Proofs.YtikhpegamnnabaaDoorW.PrintLast Go.Proofs.YtikhpegamnnabaaDoorW.PrintMore
set_option linter.unusedVariables false
structure S24 where
 f0 : Bool
 f1 : Int
 f2 : Int
def z24 : S24 := ⟨false,(0 : Int),(0 : Int)⟩
structure S26 where
 f0 : S24
 f1 : ByteArray
 f2 : Int
 f3 : Int
 f4 : Int
 f5 : ByteArray
 f6 : Int
def z26 : S26 := ⟨z24,(⟨#[]⟩ : ByteArray),(0 : Int),(0 : Int),(0 : Int),(⟨#[]⟩ : ByteArray),(0 : Int)⟩
def rd_T26 (xs : List S26) (i : Int) : S26 := xs.getD i.toNat z26
def okS24 (x : S24) : Prop := True ∧ ((Lit.int .u64 x.f1).wf = true ∧ (Lit.int .u64 x.f2).wf = true)
def okS26 (x : S26) : Prop := okS24 x.f0 ∧ (x.f1.size ≤ 140737488351232 ∧ ((Lit.int .i64 x.f2).wf = true ∧ ((Lit.int .i64 x.f3).wf = true ∧ ((Lit.int .i64 x.f4).wf = true ∧ (x.f5.size ≤ 140737488351232 ∧ (Lit.int .i64 x.f6).wf = true)))))
def conv_bytes_53.f (a0 : ByteArray) : Option (List Int) := XC.conv a0
def addr_number.f (a0 : Int) (a1 : Int) : Option (Int) := if a0 < a1 then (some (-1)) else (if a0 > a1 then (some 1) else (some 0))
def addr_Compare.j0 : Nat → Bool → Bool → Int → Int → Bool → Int → Int → Option (Int)
 | 0,_,_,_,_,_,_,_ => none
 | k + 1,x5,x102000,x102001,x102002,x103000,x103001,x103002 => if x5 = true then (some (-1)) else (if (x102000 != x103000) = true then (some 1) else (if x102001 = x103001 then ((addr_number.f x102002 x103002).bind fun t104 => (some t104)) else ((addr_number.f x102001 x103001).bind fun t103 => (some t103))))
def addr_Compare.f (k : Nat) (a0_0 : Bool) (a0_1 : Int) (a0_2 : Int) (a1_0 : Bool) (a1_1 : Int) (a1_2 : Int) : Option (Int) := if (a0_0 != a1_0) = true then (addr_Compare.j0 k a1_0 a0_0 a0_1 a0_2 a1_0 a1_1 a1_2) else (addr_Compare.j0 k false a0_0 a0_1 a0_2 a1_0 a1_1 a1_2)
theorem addr_Compare.mono_l : ∀ k,(∀ y0 y1 y2 y3 y4 y5 y6,LeO (addr_Compare.j0 k y0 y1 y2 y3 y4 y5 y6) (addr_Compare.j0 (k + 1) y0 y1 y2 y3 y4 y5 y6))
 | 0 => fun _ _ _ _ _ _ _ r h => by simp [addr_Compare.j0] at h
 | k + 1 => by
  have ih0 := addr_Compare.mono_l k
  ·intro y0 y1 y2 y3 y4 y5 y6
   unfold addr_Compare.j0
   repeat' first
   | (with_reducible exact ih0 _ _ _ _ _ _ _)
   | (with_reducible exact LeO.refl _)
   | (with_reducible exact LeO.none _)
   | (with_reducible refine LeO.ite ?_ ?_)
   | (with_reducible refine LeO.bind ?_ (fun _ => ?_))
theorem addr_Compare.mono : ∀ a0 a1 a2 a3 a4 a5 k,LeO (addr_Compare.f k a0 a1 a2 a3 a4 a5) (addr_Compare.f (k + 1) a0 a1 a2 a3 a4 a5) := by
 intro a0 a1 a2 a3 a4 a5 k
 have ih0 := addr_Compare.mono_l k
 unfold addr_Compare.f
 repeat' first
   | (with_reducible exact ih0 _ _ _ _ _ _ _)
   | (with_reducible exact LeO.refl _)
   | (with_reducible exact LeO.none _)
   | (with_reducible refine LeO.ite ?_ ?_)
   | (with_reducible refine LeO.bind ?_ (fun _ => ?_))
def addr_Valid.f (a0_0 : Bool) (a0_1 : Int) (a0_2 : Int) : Option (Bool) := if a0_0 = true then (some true) else (if a0_1 = 0 then (some (decide (a0_2 ≤ 4294967295))) else (some false))
mutual
def lease_isClient.l0 : Nat → ByteArray → Int → Option (Bool)
 | 0,_,_ => none
 | k + 1,x0,x3 => if x3 < (x0.size : Int) then (if 0 ≤ x3 then (if (bt x0 x3) < 33 then (lease_isClient.j1 k x0 x3 true) else (lease_isClient.j1 k x0 x3 (decide ((bt x0 x3) > 126)))) else (none)) else (if (x0.size : Int) ≥ 1 then (some (decide ((x0.size : Int) ≤ 32))) else (some false))
def lease_isClient.j1 : Nat → ByteArray → Int → Bool → Option (Bool)
 | 0,_,_,_ => none
 | k + 1,x0,x3,x19 => if x19 = true then (some false) else (lease_isClient.l0 k x0 (wrap64 (x3 + 1)))
end
def lease_isClient.f (k : Nat) (a0 : ByteArray) : Option (Bool) := lease_isClient.l0 k a0 0
theorem lease_isClient.mono_l : ∀ k,(∀ y0 y1,LeO (lease_isClient.l0 k y0 y1) (lease_isClient.l0 (k + 1) y0 y1)) ∧ (∀ y0 y1 y2,LeO (lease_isClient.j1 k y0 y1 y2) (lease_isClient.j1 (k + 1) y0 y1 y2))
 | 0 => ⟨fun _ _ r h => by simp [lease_isClient.l0] at h,fun _ _ _ r h => by simp [lease_isClient.j1] at h⟩
 | k + 1 => by
  obtain ⟨ih0,ih1⟩ := lease_isClient.mono_l k
  refine ⟨?_,?_⟩
  ·intro y0 y1
   unfold lease_isClient.l0
   repeat' first
   | (with_reducible exact ih0 _ _)
   | (with_reducible exact ih1 _ _ _)
   | (with_reducible exact LeO.refl _)
   | (with_reducible exact LeO.none _)
   | (with_reducible refine LeO.ite ?_ ?_)
   | (with_reducible refine LeO.bind ?_ (fun _ => ?_))
  ·intro y0 y1 y2
   unfold lease_isClient.j1
   repeat' first
   | (with_reducible exact ih0 _ _)
   | (with_reducible exact ih1 _ _ _)
   | (with_reducible exact LeO.refl _)
   | (with_reducible exact LeO.none _)
   | (with_reducible refine LeO.ite ?_ ?_)
   | (with_reducible refine LeO.bind ?_ (fun _ => ?_))
theorem lease_isClient.mono : ∀ a0 k,LeO (lease_isClient.f k a0) (lease_isClient.f (k + 1) a0) := by
 intro a0 k
 obtain ⟨ih0,ih1⟩ := lease_isClient.mono_l k
 unfold lease_isClient.f
 repeat' first
   | (with_reducible exact ih0 _ _)
   | (with_reducible exact ih1 _ _ _)
   | (with_reducible exact LeO.refl _)
   | (with_reducible exact LeO.none _)
   | (with_reducible refine LeO.ite ?_ ?_)
   | (with_reducible refine LeO.bind ?_ (fun _ => ?_))
def lease_isXID.f (a0 : Int) : Option (Bool) := if a0 ≥ 0 then (some (decide (a0 < 4294967296))) else (some false)
def lease_isTime.f (a0 : Int) : Option (Bool) := if a0 ≥ 0 then (some (decide (a0 ≤ 4294967295))) else (some false)
def stringslite_HasSuffix.f (a0 : ByteArray) (a1 : ByteArray) : Option (Bool) := if (a0.size : Int) ≥ (a1.size : Int) then (if 0 ≤ (wrap64 ((a0.size : Int) - (a1.size : Int))) then (if (wrap64 ((a0.size : Int) - (a1.size : Int))) ≤ (a0.size : Int) then (some ((a0.extract ((wrap64 ((a0.size : Int) - (a1.size : Int))) : Int).toNat a0.size).toList == a1.toList)) else (none)) else (none)) else (some false)
def strings_HasSuffix.f (a0 : ByteArray) (a1 : ByteArray) : Option (Bool) := (stringslite_HasSuffix.f a0 a1).bind fun t106 => (some t106)
def strings_explode.f (a0 : ByteArray) (a1 : Int) : Option (List ByteArray) := none
def stringslite_Index.f (a0 : ByteArray) (a1 : ByteArray) : Option (Int) := if a1.size = 1 then some (XB.index a0 a1) else none
def strings_Index.f (a0 : ByteArray) (a1 : ByteArray) : Option (Int) := (stringslite_Index.f a0 a1).bind fun t109 => (some t109)
def strings_Count.f (a0 : ByteArray) (a1 : ByteArray) : Option (Int) := if a1.size = 1 then some (XB.count a0 a1) else none
mutual
def strings_genSplit.j0 : Nat → ByteArray → ByteArray → Int → Int → Option (List ByteArray)
 | 0,_,_,_,_ => none
 | k + 1,x0,x1,x2,x3 => if 0 ≤ (mn x3 (wrap64 ((x0.size : Int) + 1))) then (if (mn x3 (wrap64 ((x0.size : Int) + 1)) : Int).toNat ≤ 17592186044416 then (strings_genSplit.l0 k x0 x1 x2 (wrap64 ((mn x3 (wrap64 ((x0.size : Int) + 1))) - 1)) (List.replicate (mn x3 (wrap64 ((x0.size : Int) + 1)) : Int).toNat (⟨#[]⟩ : ByteArray)) 0) else (none)) else (none)
def strings_genSplit.l0 : Nat → ByteArray → ByteArray → Int → Int → List ByteArray → Int → Option (List ByteArray)
 | 0,_,_,_,_,_,_ => none
 | k + 1,x0,x1,x2,x3,x9,x10 => if x10 < x3 then ((strings_Index.f x0 x1).bind fun t121 => (if t121 < 0 then (if 0 ≤ x10 then (if x10 < (x9.length : Int) then (if 0 ≤ (wrap64 (x10 + 1)) then (if (wrap64 (x10 + 1)) ≤ (x9.length : Int) then (some ((x9.set (x10 : Int).toNat x0).take ((wrap64 (x10 + 1)) : Int).toNat)) else (none)) else (none)) else (none)) else (none)) else (if 0 ≤ (wrap64 (t121 + x2)) then (if (wrap64 (t121 + x2)) ≤ (x0.size : Int) then (if 0 ≤ x10 then (if x10 < (x9.length : Int) then (if 0 ≤ (wrap64 (t121 + (x1.size : Int))) then (if (wrap64 (t121 + (x1.size : Int))) ≤ (x0.size : Int) then (strings_genSplit.l0 k (x0.extract ((wrap64 (t121 + (x1.size : Int))) : Int).toNat x0.size) x1 x2 x3 (x9.set (x10 : Int).toNat (x0.extract 0 ((wrap64 (t121 + x2)) : Int).toNat)) (wrap64 (x10 + 1))) else (none)) else (none)) else (none)) else (none)) else (none)) else (none)))) else (if 0 ≤ x10 then (if x10 < (x9.length : Int) then (if 0 ≤ (wrap64 (x10 + 1)) then (if (wrap64 (x10 + 1)) ≤ (x9.length : Int) then (some ((x9.set (x10 : Int).toNat x0).take ((wrap64 (x10 + 1)) : Int).toNat)) else (none)) else (none)) else (none)) else (none))
end
def strings_genSplit.f (k : Nat) (a0 : ByteArray) (a1 : ByteArray) (a2 : Int) (a3 : Int) : Option (List ByteArray) := if a3 = 0 then (some ([] : List ByteArray)) else (if a1.toList = ([] : List UInt8) then ((strings_explode.f a0 a3).bind fun t110 => (some t110)) else (if a3 < 0 then ((strings_Count.f a0 a1).bind fun t113 => (strings_genSplit.j0 k a0 a1 a2 (wrap64 (t113 + 1)))) else (strings_genSplit.j0 k a0 a1 a2 a3)))
theorem strings_genSplit.mono_l : ∀ k,(∀ y0 y1 y2 y3,LeO (strings_genSplit.j0 k y0 y1 y2 y3) (strings_genSplit.j0 (k + 1) y0 y1 y2 y3)) ∧ (∀ y0 y1 y2 y3 y4 y5,LeO (strings_genSplit.l0 k y0 y1 y2 y3 y4 y5) (strings_genSplit.l0 (k + 1) y0 y1 y2 y3 y4 y5))
 | 0 => ⟨fun _ _ _ _ r h => by simp [strings_genSplit.j0] at h,fun _ _ _ _ _ _ r h => by simp [strings_genSplit.l0] at h⟩
 | k + 1 => by
  obtain ⟨ih0,ih1⟩ := strings_genSplit.mono_l k
  refine ⟨?_,?_⟩
  ·intro y0 y1 y2 y3
   unfold strings_genSplit.j0
   repeat' first
   | (with_reducible exact ih0 _ _ _ _)
   | (with_reducible exact ih1 _ _ _ _ _ _)
   | (with_reducible exact LeO.refl _)
   | (with_reducible exact LeO.none _)
   | (with_reducible refine LeO.ite ?_ ?_)
   | (with_reducible refine LeO.bind ?_ (fun _ => ?_))
  ·intro y0 y1 y2 y3 y4 y5
   unfold strings_genSplit.l0
   repeat' first
   | (with_reducible exact ih0 _ _ _ _)
   | (with_reducible exact ih1 _ _ _ _ _ _)
   | (with_reducible exact LeO.refl _)
   | (with_reducible exact LeO.none _)
   | (with_reducible refine LeO.ite ?_ ?_)
   | (with_reducible refine LeO.bind ?_ (fun _ => ?_))
theorem strings_genSplit.mono : ∀ a0 a1 a2 a3 k,LeO (strings_genSplit.f k a0 a1 a2 a3) (strings_genSplit.f (k + 1) a0 a1 a2 a3) := by
 intro a0 a1 a2 a3 k
 obtain ⟨ih0,ih1⟩ := strings_genSplit.mono_l k
 unfold strings_genSplit.f
 repeat' first
   | (with_reducible exact ih0 _ _ _ _)
   | (with_reducible exact ih1 _ _ _ _ _ _)
   | (with_reducible exact LeO.refl _)
   | (with_reducible exact LeO.none _)
   | (with_reducible refine LeO.ite ?_ ?_)
   | (with_reducible refine LeO.bind ?_ (fun _ => ?_))
def strings_Split.f (k : Nat) (a0 : ByteArray) (a1 : ByteArray) : Option (List ByteArray) := (strings_genSplit.f k a0 a1 0 (-1)).bind fun t127 => (some t127)
theorem strings_Split.mono : ∀ a0 a1 k,LeO (strings_Split.f k a0 a1) (strings_Split.f (k + 1) a0 a1) := by
 intro a0 a1 k
 unfold strings_Split.f
 repeat' first
   | (with_reducible exact strings_genSplit.mono _ _ _ _ _)
   | (with_reducible exact LeO.refl _)
   | (with_reducible exact LeO.none _)
   | (with_reducible refine LeO.ite ?_ ?_)
   | (with_reducible refine LeO.bind ?_ (fun _ => ?_))
mutual
def dname_ordinary.j0 : Nat → ByteArray → Bool → Option (Bool)
 | 0,_,_ => none
 | k + 1,x0,x11 => if x11 = true then (some false) else (dname_ordinary.l0 k x0 (x0.size : Int) 0)
def dname_ordinary.l0 : Nat → ByteArray → Int → Int → Option (Bool)
 | 0,_,_,_ => none
 | k + 1,x0,x13,x14 => if x14 < x13 then (if 0 ≤ x14 then (if x14 < (x0.size : Int) then (if (bt x0 x14) < 97 then (if (bt x0 x14) < 48 then (if (bt x0 x14) = 45 then (dname_ordinary.j2 k x0 x13 x14 false) else (dname_ordinary.j2 k x0 x13 x14 ((bt x0 x14) != 95))) else (if (bt x0 x14) > 57 then (if (bt x0 x14) = 45 then (dname_ordinary.j2 k x0 x13 x14 false) else (dname_ordinary.j2 k x0 x13 x14 ((bt x0 x14) != 95))) else (dname_ordinary.j2 k x0 x13 x14 false))) else (if (bt x0 x14) > 122 then (if (bt x0 x14) < 48 then (if (bt x0 x14) = 45 then (dname_ordinary.j2 k x0 x13 x14 false) else (dname_ordinary.j2 k x0 x13 x14 ((bt x0 x14) != 95))) else (if (bt x0 x14) > 57 then (if (bt x0 x14) = 45 then (dname_ordinary.j2 k x0 x13 x14 false) else (dname_ordinary.j2 k x0 x13 x14 ((bt x0 x14) != 95))) else (dname_ordinary.j2 k x0 x13 x14 false))) else (dname_ordinary.j2 k x0 x13 x14 false))) else (none)) else (none)) else (some true)
def dname_ordinary.j2 : Nat → ByteArray → Int → Int → Bool → Option (Bool)
 | 0,_,_,_,_ => none
 | k + 1,x0,x13,x14,x41 => if x41 = true then (some false) else (dname_ordinary.l0 k x0 x13 (wrap64 (x14 + 1)))
end
def dname_ordinary.f (k : Nat) (a0 : ByteArray) : Option (Bool) := if a0.toList = ([] : List UInt8) then (dname_ordinary.j0 k a0 true) else (dname_ordinary.j0 k a0 (decide ((a0.size : Int) > 63)))
theorem dname_ordinary.mono_l : ∀ k,(∀ y0 y1,LeO (dname_ordinary.j0 k y0 y1) (dname_ordinary.j0 (k + 1) y0 y1)) ∧ (∀ y0 y1 y2,LeO (dname_ordinary.l0 k y0 y1 y2) (dname_ordinary.l0 (k + 1) y0 y1 y2)) ∧ (∀ y0 y1 y2 y3,LeO (dname_ordinary.j2 k y0 y1 y2 y3) (dname_ordinary.j2 (k + 1) y0 y1 y2 y3))
 | 0 => ⟨fun _ _ r h => by simp [dname_ordinary.j0] at h,fun _ _ _ r h => by simp [dname_ordinary.l0] at h,fun _ _ _ _ r h => by simp [dname_ordinary.j2] at h⟩
 | k + 1 => by
  obtain ⟨ih0,ih1,ih2⟩ := dname_ordinary.mono_l k
  refine ⟨?_,?_,?_⟩
  ·intro y0 y1
   unfold dname_ordinary.j0
   repeat' first
   | (with_reducible exact ih0 _ _)
   | (with_reducible exact ih1 _ _ _)
   | (with_reducible exact ih2 _ _ _ _)
   | (with_reducible exact LeO.refl _)
   | (with_reducible exact LeO.none _)
   | (with_reducible refine LeO.ite ?_ ?_)
   | (with_reducible refine LeO.bind ?_ (fun _ => ?_))
  ·intro y0 y1 y2
   unfold dname_ordinary.l0
   repeat' first
   | (with_reducible exact ih0 _ _)
   | (with_reducible exact ih1 _ _ _)
   | (with_reducible exact ih2 _ _ _ _)
   | (with_reducible exact LeO.refl _)
   | (with_reducible exact LeO.none _)
   | (with_reducible refine LeO.ite ?_ ?_)
   | (with_reducible refine LeO.bind ?_ (fun _ => ?_))
  ·intro y0 y1 y2 y3
   unfold dname_ordinary.j2
   repeat' first
   | (with_reducible exact ih0 _ _)
   | (with_reducible exact ih1 _ _ _)
   | (with_reducible exact ih2 _ _ _ _)
   | (with_reducible exact LeO.refl _)
   | (with_reducible exact LeO.none _)
   | (with_reducible refine LeO.ite ?_ ?_)
   | (with_reducible refine LeO.bind ?_ (fun _ => ?_))
theorem dname_ordinary.mono : ∀ a0 k,LeO (dname_ordinary.f k a0) (dname_ordinary.f (k + 1) a0) := by
 intro a0 k
 obtain ⟨ih0,ih1,ih2⟩ := dname_ordinary.mono_l k
 unfold dname_ordinary.f
 repeat' first
   | (with_reducible exact ih0 _ _)
   | (with_reducible exact ih1 _ _ _)
   | (with_reducible exact ih2 _ _ _ _)
   | (with_reducible exact LeO.refl _)
   | (with_reducible exact LeO.none _)
   | (with_reducible refine LeO.ite ?_ ?_)
   | (with_reducible refine LeO.bind ?_ (fun _ => ?_))
mutual
def dname_Valid.j0 : Nat → ByteArray → Bool → Option (Bool)
 | 0,_,_ => none
 | k + 1,x0,x14 => if x14 = true then (some false) else (if 0 ≤ (wrap64 ((x0.size : Int) - 1)) then (if (wrap64 ((x0.size : Int) - 1)) ≤ (x0.size : Int) then ((strings_Split.f k (x0.extract 0 ((wrap64 ((x0.size : Int) - 1)) : Int).toNat) (⟨#[46]⟩ : ByteArray)).bind fun t131 => (dname_Valid.l0 k t131 (t131.length : Int) 0)) else (none)) else (none))
def dname_Valid.l0 : Nat → List ByteArray → Int → Int → Option (Bool)
 | 0,_,_,_ => none
 | k + 1,x20,x21,x22 => if x22 < x21 then (if 0 ≤ x22 then (if x22 < (x20.length : Int) then ((dname_ordinary.f k (rdOf ByteArray.empty x20 x22)).bind fun t135 => (if t135 = true then (dname_Valid.j2 k x20 x21 x22 false) else (if x22 > 0 then (dname_Valid.j2 k x20 x21 x22 true) else (dname_Valid.j2 k x20 x21 x22 ((rdOf ByteArray.empty x20 x22).toList != ([42] : List UInt8)))))) else (none)) else (none)) else (some true)
def dname_Valid.j2 : Nat → List ByteArray → Int → Int → Bool → Option (Bool)
 | 0,_,_,_,_ => none
 | k + 1,x20,x21,x22,x37 => if x37 = true then (some false) else (dname_Valid.l0 k x20 x21 (wrap64 (x22 + 1)))
end
def dname_Valid.f (k : Nat) (a0 : ByteArray) : Option (Bool) := if a0.toList = ([46] : List UInt8) then (some true) else (if (a0.size : Int) ≥ 255 then (dname_Valid.j0 k a0 true) else ((strings_HasSuffix.f a0 (⟨#[46]⟩ : ByteArray)).bind fun t130 => (dname_Valid.j0 k a0 (!t130))))
theorem dname_Valid.mono_l : ∀ k,(∀ y0 y1,LeO (dname_Valid.j0 k y0 y1) (dname_Valid.j0 (k + 1) y0 y1)) ∧ (∀ y0 y1 y2,LeO (dname_Valid.l0 k y0 y1 y2) (dname_Valid.l0 (k + 1) y0 y1 y2)) ∧ (∀ y0 y1 y2 y3,LeO (dname_Valid.j2 k y0 y1 y2 y3) (dname_Valid.j2 (k + 1) y0 y1 y2 y3))
 | 0 => ⟨fun _ _ r h => by simp [dname_Valid.j0] at h,fun _ _ _ r h => by simp [dname_Valid.l0] at h,fun _ _ _ _ r h => by simp [dname_Valid.j2] at h⟩
 | k + 1 => by
  obtain ⟨ih0,ih1,ih2⟩ := dname_Valid.mono_l k
  refine ⟨?_,?_,?_⟩
  ·intro y0 y1
   unfold dname_Valid.j0
   repeat' first
   | (with_reducible exact ih0 _ _)
   | (with_reducible exact ih1 _ _ _)
   | (with_reducible exact ih2 _ _ _ _)
   | (with_reducible exact dname_ordinary.mono _ _)
   | (with_reducible exact strings_Split.mono _ _ _)
   | (with_reducible exact LeO.refl _)
   | (with_reducible exact LeO.none _)
   | (with_reducible refine LeO.ite ?_ ?_)
   | (with_reducible refine LeO.bind ?_ (fun _ => ?_))
  ·intro y0 y1 y2
   unfold dname_Valid.l0
   repeat' first
   | (with_reducible exact ih0 _ _)
   | (with_reducible exact ih1 _ _ _)
   | (with_reducible exact ih2 _ _ _ _)
   | (with_reducible exact dname_ordinary.mono _ _)
   | (with_reducible exact strings_Split.mono _ _ _)
   | (with_reducible exact LeO.refl _)
   | (with_reducible exact LeO.none _)
   | (with_reducible refine LeO.ite ?_ ?_)
   | (with_reducible refine LeO.bind ?_ (fun _ => ?_))
  ·intro y0 y1 y2 y3
   unfold dname_Valid.j2
   repeat' first
   | (with_reducible exact ih0 _ _)
   | (with_reducible exact ih1 _ _ _)
   | (with_reducible exact ih2 _ _ _ _)
   | (with_reducible exact dname_ordinary.mono _ _)
   | (with_reducible exact strings_Split.mono _ _ _)
   | (with_reducible exact LeO.refl _)
   | (with_reducible exact LeO.none _)
   | (with_reducible refine LeO.ite ?_ ?_)
   | (with_reducible refine LeO.bind ?_ (fun _ => ?_))
theorem dname_Valid.mono : ∀ a0 k,LeO (dname_Valid.f k a0) (dname_Valid.f (k + 1) a0) := by
 intro a0 k
 obtain ⟨ih0,ih1,ih2⟩ := dname_Valid.mono_l k
 unfold dname_Valid.f
 repeat' first
   | (with_reducible exact ih0 _ _)
   | (with_reducible exact ih1 _ _ _)
   | (with_reducible exact ih2 _ _ _ _)
   | (with_reducible exact dname_ordinary.mono _ _)
   | (with_reducible exact strings_Split.mono _ _ _)
   | (with_reducible exact LeO.refl _)
   | (with_reducible exact LeO.none _)
   | (with_reducible refine LeO.ite ?_ ?_)
   | (with_reducible refine LeO.bind ?_ (fun _ => ?_))
def lease_isHost.f (k : Nat) (a0 : ByteArray) : Option (Bool) := if a0.toList = ([] : List UInt8) then (some true) else ((dname_Valid.f k a0).bind fun t136 => (some t136))
theorem lease_isHost.mono : ∀ a0 k,LeO (lease_isHost.f k a0) (lease_isHost.f (k + 1) a0) := by
 intro a0 k
 unfold lease_isHost.f
 repeat' first
   | (with_reducible exact dname_Valid.mono _ _)
   | (with_reducible exact LeO.refl _)
   | (with_reducible exact LeO.none _)
   | (with_reducible refine LeO.ite ?_ ?_)
   | (with_reducible refine LeO.bind ?_ (fun _ => ?_))
mutual
def lease_Check.l0 : Nat → List (S26) → List (S26) → Int → Int → Option (Int)
 | 0,_,_,_,_ => none
 | k + 1,x0,x8,x9,x10 => if x10 < x9 then (if 0 ≤ x10 then (if x10 < (x8.length : Int) then ((addr_Valid.f ((rd_T26 x8 x10).f0.f0) ((rd_T26 x8 x10).f0.f1) ((rd_T26 x8 x10).f0.f2)).bind fun t139 => (if t139 = true then (if x10 > 0 then (if 0 ≤ (wrap64 (x10 - 1)) then (if (wrap64 (x10 - 1)) < (x0.length : Int) then ((addr_Compare.f k ((rd_T26 x0 (wrap64 (x10 - 1))).f0.f0) ((rd_T26 x0 (wrap64 (x10 - 1))).f0.f1) ((rd_T26 x0 (wrap64 (x10 - 1))).f0.f2) ((rd_T26 x8 x10).f0.f0) ((rd_T26 x8 x10).f0.f1) ((rd_T26 x8 x10).f0.f2)).bind fun t141 => (lease_Check.j1 k x0 x8 x9 x10 (decide (t141 ≥ 0)) ((rd_T26 x8 x10).f0.f0) ((rd_T26 x8 x10).f0.f1) ((rd_T26 x8 x10).f0.f2) ((rd_T26 x8 x10).f1) ((rd_T26 x8 x10).f2) ((rd_T26 x8 x10).f3) ((rd_T26 x8 x10).f4) ((rd_T26 x8 x10).f5) ((rd_T26 x8 x10).f6))) else (none)) else (none)) else (lease_Check.j1 k x0 x8 x9 x10 false ((rd_T26 x8 x10).f0.f0) ((rd_T26 x8 x10).f0.f1) ((rd_T26 x8 x10).f0.f2) ((rd_T26 x8 x10).f1) ((rd_T26 x8 x10).f2) ((rd_T26 x8 x10).f3) ((rd_T26 x8 x10).f4) ((rd_T26 x8 x10).f5) ((rd_T26 x8 x10).f6))) else (some 3))) else (none)) else (none)) else (some 0)
def lease_Check.j1 : Nat → List (S26) → List (S26) → Int → Int → Bool → Bool → Int → Int → ByteArray → Int → Int → Int → ByteArray → Int → Option (Int)
 | 0,_,_,_,_,_,_,_,_,_,_,_,_,_,_ => none
 | k + 1,x0,x8,x9,x10,x20,x139000,x139001,x139002,x139003,x139004,x139005,x139006,x139007,x139008 => if x20 = true then (some 7) else (if x139004 < 1 then (lease_Check.j2 k x0 x8 x9 x10 true x139000 x139001 x139002 x139003 x139004 x139005 x139006 x139007 x139008) else (if x139004 > 5 then (lease_Check.j2 k x0 x8 x9 x10 true x139000 x139001 x139002 x139003 x139004 x139005 x139006 x139007 x139008) else ((lease_isClient.f k x139003).bind fun t142 => (if t142 = true then ((lease_isXID.f x139008).bind fun t143 => (lease_Check.j2 k x0 x8 x9 x10 (!t143) x139000 x139001 x139002 x139003 x139004 x139005 x139006 x139007 x139008)) else (lease_Check.j2 k x0 x8 x9 x10 true x139000 x139001 x139002 x139003 x139004 x139005 x139006 x139007 x139008)))))
def lease_Check.j2 : Nat → List (S26) → List (S26) → Int → Int → Bool → Bool → Int → Int → ByteArray → Int → Int → Int → ByteArray → Int → Option (Int)
 | 0,_,_,_,_,_,_,_,_,_,_,_,_,_,_ => none
 | k + 1,x0,x8,x9,x10,x35,x139000,x139001,x139002,x139003,x139004,x139005,x139006,x139007,x139008 => if x35 = true then (some 1) else ((lease_isTime.f x139005).bind fun t144 => (if t144 = true then ((lease_isTime.f x139006).bind fun t145 => (if t145 = true then (lease_Check.j3 k x0 x8 x9 x10 (decide (x139005 > x139006)) x139000 x139001 x139002 x139003 x139004 x139005 x139006 x139007 x139008) else (lease_Check.j3 k x0 x8 x9 x10 true x139000 x139001 x139002 x139003 x139004 x139005 x139006 x139007 x139008))) else (lease_Check.j3 k x0 x8 x9 x10 true x139000 x139001 x139002 x139003 x139004 x139005 x139006 x139007 x139008)))
def lease_Check.j3 : Nat → List (S26) → List (S26) → Int → Int → Bool → Bool → Int → Int → ByteArray → Int → Int → Int → ByteArray → Int → Option (Int)
 | 0,_,_,_,_,_,_,_,_,_,_,_,_,_,_ => none
 | k + 1,x0,x8,x9,x10,x56,x139000,x139001,x139002,x139003,x139004,x139005,x139006,x139007,x139008 => if x56 = true then (some 1) else ((lease_isHost.f k x139007).bind fun t146 => (if t146 = true then (lease_Check.l0 k x0 x8 x9 (wrap64 (x10 + 1))) else (some 2)))
end
def lease_Check.f (k : Nat) (l0 : List (S26)) : Option (Int) := if (l0.length : Int) > 512 then (some 9) else (lease_Check.l0 k l0 l0 (l0.length : Int) 0)
theorem lease_Check.mono_l : ∀ k,(∀ y0 y1 y2 y3,LeO (lease_Check.l0 k y0 y1 y2 y3) (lease_Check.l0 (k + 1) y0 y1 y2 y3)) ∧ (∀ y0 y1 y2 y3 y4 y5 y6 y7 y8 y9 y10 y11 y12 y13,LeO (lease_Check.j1 k y0 y1 y2 y3 y4 y5 y6 y7 y8 y9 y10 y11 y12 y13) (lease_Check.j1 (k + 1) y0 y1 y2 y3 y4 y5 y6 y7 y8 y9 y10 y11 y12 y13)) ∧ (∀ y0 y1 y2 y3 y4 y5 y6 y7 y8 y9 y10 y11 y12 y13,LeO (lease_Check.j2 k y0 y1 y2 y3 y4 y5 y6 y7 y8 y9 y10 y11 y12 y13) (lease_Check.j2 (k + 1) y0 y1 y2 y3 y4 y5 y6 y7 y8 y9 y10 y11 y12 y13)) ∧ (∀ y0 y1 y2 y3 y4 y5 y6 y7 y8 y9 y10 y11 y12 y13,LeO (lease_Check.j3 k y0 y1 y2 y3 y4 y5 y6 y7 y8 y9 y10 y11 y12 y13) (lease_Check.j3 (k + 1) y0 y1 y2 y3 y4 y5 y6 y7 y8 y9 y10 y11 y12 y13))
 | 0 => ⟨fun _ _ _ _ r h => by simp [lease_Check.l0] at h,fun _ _ _ _ _ _ _ _ _ _ _ _ _ _ r h => by simp [lease_Check.j1] at h,fun _ _ _ _ _ _ _ _ _ _ _ _ _ _ r h => by simp [lease_Check.j2] at h,fun _ _ _ _ _ _ _ _ _ _ _ _ _ _ r h => by simp [lease_Check.j3] at h⟩
 | k + 1 => by
  obtain ⟨ih0,ih1,ih2,ih3⟩ := lease_Check.mono_l k
  refine ⟨?_,?_,?_,?_⟩
  ·intro y0 y1 y2 y3
   unfold lease_Check.l0
   repeat' first
   | (with_reducible exact ih0 _ _ _ _)
   | (with_reducible exact ih1 _ _ _ _ _ _ _ _ _ _ _ _ _ _)
   | (with_reducible exact ih2 _ _ _ _ _ _ _ _ _ _ _ _ _ _)
   | (with_reducible exact ih3 _ _ _ _ _ _ _ _ _ _ _ _ _ _)
   | (with_reducible exact addr_Compare.mono _ _ _ _ _ _ _)
   | (with_reducible exact lease_isClient.mono _ _)
   | (with_reducible exact lease_isHost.mono _ _)
   | (with_reducible exact LeO.refl _)
   | (with_reducible exact LeO.none _)
   | (with_reducible refine LeO.ite ?_ ?_)
   | (with_reducible refine LeO.bind ?_ (fun _ => ?_))
  ·intro y0 y1 y2 y3 y4 y5 y6 y7 y8 y9 y10 y11 y12 y13
   unfold lease_Check.j1
   repeat' first
   | (with_reducible exact ih0 _ _ _ _)
   | (with_reducible exact ih1 _ _ _ _ _ _ _ _ _ _ _ _ _ _)
   | (with_reducible exact ih2 _ _ _ _ _ _ _ _ _ _ _ _ _ _)
   | (with_reducible exact ih3 _ _ _ _ _ _ _ _ _ _ _ _ _ _)
   | (with_reducible exact addr_Compare.mono _ _ _ _ _ _ _)
   | (with_reducible exact lease_isClient.mono _ _)
   | (with_reducible exact lease_isHost.mono _ _)
   | (with_reducible exact LeO.refl _)
   | (with_reducible exact LeO.none _)
   | (with_reducible refine LeO.ite ?_ ?_)
   | (with_reducible refine LeO.bind ?_ (fun _ => ?_))
  ·intro y0 y1 y2 y3 y4 y5 y6 y7 y8 y9 y10 y11 y12 y13
   unfold lease_Check.j2
   repeat' first
   | (with_reducible exact ih0 _ _ _ _)
   | (with_reducible exact ih1 _ _ _ _ _ _ _ _ _ _ _ _ _ _)
   | (with_reducible exact ih2 _ _ _ _ _ _ _ _ _ _ _ _ _ _)
   | (with_reducible exact ih3 _ _ _ _ _ _ _ _ _ _ _ _ _ _)
   | (with_reducible exact addr_Compare.mono _ _ _ _ _ _ _)
   | (with_reducible exact lease_isClient.mono _ _)
   | (with_reducible exact lease_isHost.mono _ _)
   | (with_reducible exact LeO.refl _)
   | (with_reducible exact LeO.none _)
   | (with_reducible refine LeO.ite ?_ ?_)
   | (with_reducible refine LeO.bind ?_ (fun _ => ?_))
  ·intro y0 y1 y2 y3 y4 y5 y6 y7 y8 y9 y10 y11 y12 y13
   unfold lease_Check.j3
   repeat' first
   | (with_reducible exact ih0 _ _ _ _)
   | (with_reducible exact ih1 _ _ _ _ _ _ _ _ _ _ _ _ _ _)
   | (with_reducible exact ih2 _ _ _ _ _ _ _ _ _ _ _ _ _ _)
   | (with_reducible exact ih3 _ _ _ _ _ _ _ _ _ _ _ _ _ _)
   | (with_reducible exact addr_Compare.mono _ _ _ _ _ _ _)
   | (with_reducible exact lease_isClient.mono _ _)
   | (with_reducible exact lease_isHost.mono _ _)
   | (with_reducible exact LeO.refl _)
   | (with_reducible exact LeO.none _)
   | (with_reducible refine LeO.ite ?_ ?_)
   | (with_reducible refine LeO.bind ?_ (fun _ => ?_))
theorem lease_Check.mono : ∀ a0 k,LeO (lease_Check.f k a0) (lease_Check.f (k + 1) a0) := by
 intro a0 k
 obtain ⟨ih0,ih1,ih2,ih3⟩ := lease_Check.mono_l k
 unfold lease_Check.f
 repeat' first
   | (with_reducible exact ih0 _ _ _ _)
   | (with_reducible exact ih1 _ _ _ _ _ _ _ _ _ _ _ _ _ _)
   | (with_reducible exact ih2 _ _ _ _ _ _ _ _ _ _ _ _ _ _)
   | (with_reducible exact ih3 _ _ _ _ _ _ _ _ _ _ _ _ _ _)
   | (with_reducible exact addr_Compare.mono _ _ _ _ _ _ _)
   | (with_reducible exact lease_isClient.mono _ _)
   | (with_reducible exact lease_isHost.mono _ _)
   | (with_reducible exact LeO.refl _)
   | (with_reducible exact LeO.none _)
   | (with_reducible refine LeO.ite ?_ ?_)
   | (with_reducible refine LeO.bind ?_ (fun _ => ?_))
def leasefile_may.f (k : Nat) (a0_0 : Bool) (a0_1 : Int) (a0_2 : Int) (a0_3 : ByteArray) (a0_4 : Int) (a0_5 : Int) (a0_6 : Int) (a0_7 : ByteArray) (a0_8 : Int) : Option (Bool) := (lease_Check.f k (([(⟨(⟨a0_0,a0_1,a0_2⟩ : S24),a0_3,a0_4,a0_5,a0_6,a0_7,a0_8⟩ : S26)] : List (S26)))).bind fun t151 => (some (t151 == 0))
theorem leasefile_may.mono : ∀ a0 a1 a2 a3 a4 a5 a6 a7 a8 k,LeO (leasefile_may.f k a0 a1 a2 a3 a4 a5 a6 a7 a8) (leasefile_may.f (k + 1) a0 a1 a2 a3 a4 a5 a6 a7 a8) := by
 intro a0 a1 a2 a3 a4 a5 a6 a7 a8 k
 unfold leasefile_may.f
 repeat' first
   | (with_reducible exact lease_Check.mono _ _)
   | (with_reducible exact LeO.refl _)
   | (with_reducible exact LeO.none _)
   | (with_reducible refine LeO.ite ?_ ?_)
   | (with_reducible refine LeO.bind ?_ (fun _ => ?_))
def addr_bytes.l0 : Nat → Int → List Int → Int → Int → Option (List Int)
 | 0,_,_,_,_ => none
 | k + 1,x0,x3,x7,x8 => if x8 < x7 then (if 0 ≤ (wrap64 (56 - (wrap64 (8 * x8)))) then (if 0 ≤ x8 then (if x8 < (x3.length : Int) then (addr_bytes.l0 k x0 (x3.set (x8 : Int).toNat ((shr .u64 x0 (wrap64 (56 - (wrap64 (8 * x8))))) % 256)) x7 (wrap64 (x8 + 1))) else (none)) else (none)) else (none)) else (some x3)
def addr_bytes.f (k : Nat) (a0 : Int) : Option (List Int) := if 8 ≤ 281474976710656 then ((some (List.replicate 8 0 : List Int)).bind fun y152 => (addr_bytes.l0 k a0 y152 (y152.length : Int) 0)) else (none)
theorem addr_bytes.mono_l : ∀ k,(∀ y0 y1 y2 y3,LeO (addr_bytes.l0 k y0 y1 y2 y3) (addr_bytes.l0 (k + 1) y0 y1 y2 y3))
 | 0 => fun _ _ _ _ r h => by simp [addr_bytes.l0] at h
 | k + 1 => by
  have ih0 := addr_bytes.mono_l k
  ·intro y0 y1 y2 y3
   unfold addr_bytes.l0
   repeat' first
   | (with_reducible exact ih0 _ _ _ _)
   | (with_reducible exact LeO.refl _)
   | (with_reducible exact LeO.none _)
   | (with_reducible refine LeO.ite ?_ ?_)
   | (with_reducible refine LeO.bind ?_ (fun _ => ?_))
theorem addr_bytes.mono : ∀ a0 k,LeO (addr_bytes.f k a0) (addr_bytes.f (k + 1) a0) := by
 intro a0 k
 have ih0 := addr_bytes.mono_l k
 unfold addr_bytes.f
 repeat' first
   | (with_reducible exact ih0 _ _ _ _)
   | (with_reducible exact LeO.refl _)
   | (with_reducible exact LeO.none _)
   | (with_reducible refine LeO.ite ?_ ?_)
   | (with_reducible refine LeO.bind ?_ (fun _ => ?_))
def addr_Wire.f (k : Nat) (a0_0 : Bool) (a0_1 : Int) (a0_2 : Int) : Option (ByteArray × Int) := (addr_Valid.f a0_0 a0_1 a0_2).bind fun t157 => (if t157 = true then (if a0_0 = true then ((addr_bytes.f k a0_1).bind fun t165 => ((addr_bytes.f k a0_2).bind fun t168 => (if (strOfNums t165).size + (strOfNums t168).size ≤ 9223372036854775807 then (some ((strOfNums t165) ++ (strOfNums t168),0)) else (none)))) else ((addr_bytes.f k a0_2).bind fun t158 => (if 4 ≤ (t158.length : Int) then (some (strOfNums (t158.drop 4),0)) else (none)))) else (some ((⟨#[]⟩ : ByteArray),3)))
theorem addr_Wire.mono : ∀ a0 a1 a2 k,LeO (addr_Wire.f k a0 a1 a2) (addr_Wire.f (k + 1) a0 a1 a2) := by
 intro a0 a1 a2 k
 unfold addr_Wire.f
 repeat' first
   | (with_reducible exact addr_bytes.mono _ _)
   | (with_reducible exact LeO.refl _)
   | (with_reducible exact LeO.none _)
   | (with_reducible refine LeO.ite ?_ ?_)
   | (with_reducible refine LeO.bind ?_ (fun _ => ?_))
def leasefile_text.f (a0 : ByteArray) : Option (ByteArray) := (some (([((a0.size : Int)) % 256] : List Int) : List Int)).bind fun y171 => (if (strOfNums y171).size + a0.size ≤ 9223372036854775807 then (some ((strOfNums y171) ++ a0)) else (none))
def leasefile_four.f (a0 : Int) : Option (ByteArray) := some (strOfNums (([(a0 / 16777216) % 256,(a0 / 65536) % 256,(a0 / 256) % 256,(a0) % 256] : List Int)))
def leasefile_Encode.f (k : Nat) (a0_0 : Bool) (a0_1 : Int) (a0_2 : Int) (a0_3 : ByteArray) (a0_4 : Int) (a0_5 : Int) (a0_6 : Int) (a0_7 : ByteArray) (a0_8 : Int) : Option (ByteArray × Int) := (leasefile_may.f k a0_0 a0_1 a0_2 a0_3 a0_4 a0_5 a0_6 a0_7 a0_8).bind fun t178 => (if t178 = true then ((addr_Wire.f k a0_0 a0_1 a0_2).bind fun bt179 => (if bt179.2 = 0 then ((leasefile_text.f bt179.1).bind fun t181 => ((some (([(a0_4) % 256] : List Int) : List Int)).bind fun y182 => (if t181.size + (strOfNums y182).size ≤ 9223372036854775807 then ((leasefile_four.f a0_5).bind fun t185 => (if (t181 ++ (strOfNums y182)).size + t185.size ≤ 9223372036854775807 then ((leasefile_four.f a0_6).bind fun t186 => (if ((t181 ++ (strOfNums y182)) ++ t185).size + t186.size ≤ 9223372036854775807 then ((leasefile_four.f a0_8).bind fun t187 => (if (((t181 ++ (strOfNums y182)) ++ t185) ++ t186).size + t187.size ≤ 9223372036854775807 then ((leasefile_text.f a0_3).bind fun t188 => (if ((((t181 ++ (strOfNums y182)) ++ t185) ++ t186) ++ t187).size + t188.size ≤ 9223372036854775807 then ((leasefile_text.f a0_7).bind fun t189 => (if (((((t181 ++ (strOfNums y182)) ++ t185) ++ t186) ++ t187) ++ t188).size + t189.size ≤ 9223372036854775807 then (some ((((((t181 ++ (strOfNums y182)) ++ t185) ++ t186) ++ t187) ++ t188) ++ t189,0)) else (none))) else (none))) else (none))) else (none))) else (none))) else (none)))) else (some ((⟨#[]⟩ : ByteArray),1)))) else (some ((⟨#[]⟩ : ByteArray),1)))
theorem leasefile_Encode.mono : ∀ a0 a1 a2 a3 a4 a5 a6 a7 a8 k,LeO (leasefile_Encode.f k a0 a1 a2 a3 a4 a5 a6 a7 a8) (leasefile_Encode.f (k + 1) a0 a1 a2 a3 a4 a5 a6 a7 a8) := by
 intro a0 a1 a2 a3 a4 a5 a6 a7 a8 k
 unfold leasefile_Encode.f
 repeat' first
   | (with_reducible exact addr_Wire.mono _ _ _ _)
   | (with_reducible exact leasefile_may.mono _ _ _ _ _ _ _ _ _ _)
   | (with_reducible exact LeO.refl _)
   | (with_reducible exact LeO.none _)
   | (with_reducible refine LeO.ite ?_ ?_)
   | (with_reducible refine LeO.bind ?_ (fun _ => ?_))
def ddiref02_Valid.f (a0_0 : Bool) (a0_1 : Int) (a0_2 : Int) : Option (Bool) := if a0_0 = true then (some true) else (if a0_1 = 0 then (some (decide (a0_2 < 4294967296))) else (some false))
def ddiref02_Compare.f (a0_0 : Bool) (a0_1 : Int) (a0_2 : Int) (a1_0 : Bool) (a1_1 : Int) (a1_2 : Int) : Option (Int) := if (a0_0 != a1_0) = true then (if a1_0 = true then (some (-1)) else (some 1)) else (if a0_1 = a1_1 then (if a0_2 < a1_2 then (some (-1)) else (if a0_2 > a1_2 then (some 1) else (some 0))) else (if a0_1 < a1_1 then (some (-1)) else (some 1)))
mutual
def ddiref38_Client.j0 : Nat → ByteArray → Bool → Option (Bool)
 | 0,_,_ => none
 | k + 1,x0,x11 => if x11 = true then (some false) else (ddiref38_Client.l0 k x0 0)
def ddiref38_Client.l0 : Nat → ByteArray → Int → Option (Bool)
 | 0,_,_ => none
 | k + 1,x0,x3 => if x3 < (x0.size : Int) then (if 0 ≤ x3 then (if (bt x0 x3) < 33 then (ddiref38_Client.j2 k x0 x3 true) else (ddiref38_Client.j2 k x0 x3 (decide ((bt x0 x3) > 126)))) else (none)) else (some true)
def ddiref38_Client.j2 : Nat → ByteArray → Int → Bool → Option (Bool)
 | 0,_,_,_ => none
 | k + 1,x0,x3,x27 => if x27 = true then (some false) else (ddiref38_Client.l0 k x0 (wrap64 (x3 + 1)))
end
def ddiref38_Client.f (k : Nat) (a0 : ByteArray) : Option (Bool) := if (a0.size : Int) < 1 then (ddiref38_Client.j0 k a0 true) else (ddiref38_Client.j0 k a0 (decide ((a0.size : Int) > 32)))
def ddiref38_Time.f (a0 : Int) : Option (Bool) := if a0 ≥ 0 then (some (decide (a0 ≤ 4294967295))) else (some false)
mutual
def ddiref01_isLabel.j0 : Nat → ByteArray → Bool → Option (Bool)
 | 0,_,_ => none
 | k + 1,x0,x14 => if x14 = true then (some false) else (ddiref01_isLabel.l0 k x0 0)
def ddiref01_isLabel.l0 : Nat → ByteArray → Int → Option (Bool)
 | 0,_,_ => none
 | k + 1,x0,x3 => if x3 < (x0.size : Int) then (if 0 ≤ x3 then (if (bt x0 x3) ≥ 97 then (if (bt x0 x3) ≤ 122 then (ddiref01_isLabel.j2 k x0 x3 (!true)) else (if (bt x0 x3) ≥ 48 then (if (bt x0 x3) ≤ 57 then (ddiref01_isLabel.j2 k x0 x3 (!true)) else (if (bt x0 x3) = 45 then (ddiref01_isLabel.j2 k x0 x3 (!true)) else (ddiref01_isLabel.j2 k x0 x3 (!((bt x0 x3) == 95))))) else (if (bt x0 x3) = 45 then (ddiref01_isLabel.j2 k x0 x3 (!true)) else (ddiref01_isLabel.j2 k x0 x3 (!((bt x0 x3) == 95)))))) else (if (bt x0 x3) ≥ 48 then (if (bt x0 x3) ≤ 57 then (ddiref01_isLabel.j2 k x0 x3 (!true)) else (if (bt x0 x3) = 45 then (ddiref01_isLabel.j2 k x0 x3 (!true)) else (ddiref01_isLabel.j2 k x0 x3 (!((bt x0 x3) == 95))))) else (if (bt x0 x3) = 45 then (ddiref01_isLabel.j2 k x0 x3 (!true)) else (ddiref01_isLabel.j2 k x0 x3 (!((bt x0 x3) == 95)))))) else (none)) else (some true)
def ddiref01_isLabel.j2 : Nat → ByteArray → Int → Bool → Option (Bool)
 | 0,_,_,_ => none
 | k + 1,x0,x3,x46 => if x46 = true then (some false) else (ddiref01_isLabel.l0 k x0 (wrap64 (x3 + 1)))
end
def ddiref01_isLabel.f (k : Nat) (a0 : ByteArray) : Option (Bool) := if a0.toList = ([42] : List UInt8) then (some true) else (if (a0.size : Int) < 1 then (ddiref01_isLabel.j0 k a0 true) else (ddiref01_isLabel.j0 k a0 (decide ((a0.size : Int) > 63))))
mutual
def ddiref01_split.j0 : Nat → ByteArray → Bool → Option (List ByteArray × Bool)
 | 0,_,_ => none
 | k + 1,x0,x25 => if x25 = true then (some (([] : List ByteArray),false)) else (ddiref01_split.l0 k x0 ([] : List ByteArray) 0 0)
def ddiref01_split.l0 : Nat → ByteArray → List ByteArray → Int → Int → Option (List ByteArray × Bool)
 | 0,_,_,_,_ => none
 | k + 1,x0,x4,x5,x6 => if x6 < (x0.size : Int) then (if 0 ≤ x6 then (if (bt x0 x6) = 46 then (if 0 ≤ x5 then (if x5 ≤ x6 then (if x6 ≤ (x0.size : Int) then ((ddiref01_isLabel.f k (x0.extract (x5 : Int).toNat (x6 : Int).toNat)).bind fun t193 => (if t193 = true then (if (x0.extract (x5 : Int).toNat (x6 : Int).toNat).toList = ([42] : List UInt8) then (ddiref01_split.j2 k x0 x4 x6 (x0.extract (x5 : Int).toNat (x6 : Int).toNat) (decide (x5 > 0))) else (ddiref01_split.j2 k x0 x4 x6 (x0.extract (x5 : Int).toNat (x6 : Int).toNat) false)) else (ddiref01_split.j2 k x0 x4 x6 (x0.extract (x5 : Int).toNat (x6 : Int).toNat) true))) else (none)) else (none)) else (none)) else (ddiref01_split.l0 k x0 x4 x5 (wrap64 (x6 + 1)))) else (none)) else (some (x4,true))
def ddiref01_split.j2 : Nat → ByteArray → List ByteArray → Int → ByteArray → Bool → Option (List ByteArray × Bool)
 | 0,_,_,_,_,_ => none
 | k + 1,x0,x4,x6,x7,x50 => if x50 = true then (some (([] : List ByteArray),false)) else (if x4.length < 8796093022208 then (ddiref01_split.l0 k x0 (x4 ++ [x7]) (wrap64 (x6 + 1)) (wrap64 (x6 + 1))) else (none))
end
def ddiref01_split.f (k : Nat) (a0 : ByteArray) : Option (List ByteArray × Bool) := if a0.toList = ([46] : List UInt8) then (some (([] : List ByteArray),true)) else (if (a0.size : Int) < 2 then (ddiref01_split.j0 k a0 true) else (if (a0.size : Int) > 254 then (ddiref01_split.j0 k a0 true) else (if 0 ≤ (wrap64 ((a0.size : Int) - 1)) then (if (wrap64 ((a0.size : Int) - 1)) < (a0.size : Int) then (ddiref01_split.j0 k a0 ((bt a0 (wrap64 ((a0.size : Int) - 1))) != 46)) else (none)) else (none))))
def ddiref01_Valid.f (k : Nat) (a0 : ByteArray) : Option (Bool) := (ddiref01_split.f k a0).bind fun bt197 => (some bt197.2)
mutual
def ddiref38_One.j0 : Nat → Bool → Bool → Int → Int → ByteArray → Int → Int → Int → ByteArray → Int → Option (Int)
 | 0,_,_,_,_,_,_,_,_,_,_ => none
 | k + 1,x45,x202000,x202001,x202002,x202003,x202004,x202005,x202006,x202007,x202008 => if x45 = true then (some 1) else (if x202007.toList = ([] : List UInt8) then (ddiref38_One.j1 k false) else ((ddiref01_Valid.f k x202007).bind fun t207 => (ddiref38_One.j1 k (!t207))))
def ddiref38_One.j1 : Nat → Bool → Option (Int)
 | 0,_ => none
 | k + 1,x54 => if x54 = true then (some 2) else (some 0)
end
def ddiref38_One.f (k : Nat) (a0_0 : Bool) (a0_1 : Int) (a0_2 : Int) (a0_3 : ByteArray) (a0_4 : Int) (a0_5 : Int) (a0_6 : Int) (a0_7 : ByteArray) (a0_8 : Int) : Option (Int) := (ddiref02_Valid.f a0_0 a0_1 a0_2).bind fun t202 => (if t202 = true then (if a0_4 < 1 then (ddiref38_One.j0 k true a0_0 a0_1 a0_2 a0_3 a0_4 a0_5 a0_6 a0_7 a0_8) else (if a0_4 > 5 then (ddiref38_One.j0 k true a0_0 a0_1 a0_2 a0_3 a0_4 a0_5 a0_6 a0_7 a0_8) else ((ddiref38_Client.f k a0_3).bind fun t203 => (if t203 = true then ((ddiref38_Time.f a0_5).bind fun t204 => (if t204 = true then ((ddiref38_Time.f a0_6).bind fun t205 => (if t205 = true then (if a0_5 > a0_6 then (ddiref38_One.j0 k true a0_0 a0_1 a0_2 a0_3 a0_4 a0_5 a0_6 a0_7 a0_8) else ((ddiref38_Time.f a0_8).bind fun t206 => (ddiref38_One.j0 k (!t206) a0_0 a0_1 a0_2 a0_3 a0_4 a0_5 a0_6 a0_7 a0_8))) else (ddiref38_One.j0 k true a0_0 a0_1 a0_2 a0_3 a0_4 a0_5 a0_6 a0_7 a0_8))) else (ddiref38_One.j0 k true a0_0 a0_1 a0_2 a0_3 a0_4 a0_5 a0_6 a0_7 a0_8))) else (ddiref38_One.j0 k true a0_0 a0_1 a0_2 a0_3 a0_4 a0_5 a0_6 a0_7 a0_8))))) else (some 3))
mutual
def ddiref38_Check.l0 : Nat → List (S26) → Int → Option (Int)
 | 0,_,_ => none
 | k + 1,x0,x3 => if x3 < (x0.length : Int) then (if 0 ≤ x3 then ((ddiref02_Valid.f ((rd_T26 x0 x3).f0.f0) ((rd_T26 x0 x3).f0.f1) ((rd_T26 x0 x3).f0.f2)).bind fun t209 => (if t209 = true then (if x3 > 0 then (if 0 ≤ (wrap64 (x3 - 1)) then (if (wrap64 (x3 - 1)) < (x0.length : Int) then ((ddiref02_Compare.f ((rd_T26 x0 (wrap64 (x3 - 1))).f0.f0) ((rd_T26 x0 (wrap64 (x3 - 1))).f0.f1) ((rd_T26 x0 (wrap64 (x3 - 1))).f0.f2) ((rd_T26 x0 x3).f0.f0) ((rd_T26 x0 x3).f0.f1) ((rd_T26 x0 x3).f0.f2)).bind fun t212 => (ddiref38_Check.j1 k x0 x3 (decide (t212 ≥ 0)))) else (none)) else (none)) else (ddiref38_Check.j1 k x0 x3 false)) else (some 3))) else (none)) else (some 0)
def ddiref38_Check.j1 : Nat → List (S26) → Int → Bool → Option (Int)
 | 0,_,_,_ => none
 | k + 1,x0,x3,x37 => if x37 = true then (some 7) else (if 0 ≤ x3 then (if x3 < (x0.length : Int) then ((ddiref38_One.f k ((rd_T26 x0 x3).f0.f0) ((rd_T26 x0 x3).f0.f1) ((rd_T26 x0 x3).f0.f2) ((rd_T26 x0 x3).f1) ((rd_T26 x0 x3).f2) ((rd_T26 x0 x3).f3) ((rd_T26 x0 x3).f4) ((rd_T26 x0 x3).f5) ((rd_T26 x0 x3).f6)).bind fun t214 => (if t214 = 0 then (ddiref38_Check.l0 k x0 (wrap64 (x3 + 1))) else (some t214))) else (none)) else (none))
end
def ddiref38_Check.f (k : Nat) (l0 : List (S26)) : Option (Int) := if (l0.length : Int) > 512 then (some 9) else (ddiref38_Check.l0 k l0 0)
def leasefile_reader_take.j0 : Nat → Int → Bool → ByteArray → Bool → Option (ByteArray × ByteArray × Bool)
 | 0,_,_,_,_ => none
 | k + 1,x1,x18,x1000,x1001 => if x18 = true then (some ((⟨#[]⟩ : ByteArray),x1000,true)) else (if 0 ≤ x1 then (if x1 ≤ (x1000.size : Int) then (some (x1000.extract 0 (x1 : Int).toNat,x1000.extract (x1 : Int).toNat x1000.size,x1001)) else (none)) else (none))
def leasefile_reader_take.f (k : Nat) (s0_0 : ByteArray) (s0_1 : Bool) (a1 : Int) : Option (ByteArray × ByteArray × Bool) := if s0_1 = true then (leasefile_reader_take.j0 k a1 true s0_0 s0_1) else (leasefile_reader_take.j0 k a1 (decide ((s0_0.size : Int) < a1)) s0_0 s0_1)
theorem leasefile_reader_take.mono_l : ∀ k,(∀ y0 y1 y2 y3,LeO (leasefile_reader_take.j0 k y0 y1 y2 y3) (leasefile_reader_take.j0 (k + 1) y0 y1 y2 y3))
 | 0 => fun _ _ _ _ r h => by simp [leasefile_reader_take.j0] at h
 | k + 1 => by
  have ih0 := leasefile_reader_take.mono_l k
  ·intro y0 y1 y2 y3
   unfold leasefile_reader_take.j0
   repeat' first
   | (with_reducible exact ih0 _ _ _ _)
   | (with_reducible exact LeO.refl _)
   | (with_reducible exact LeO.none _)
   | (with_reducible refine LeO.ite ?_ ?_)
   | (with_reducible refine LeO.bind ?_ (fun _ => ?_))
theorem leasefile_reader_take.mono : ∀ a0 a1 a2 k,LeO (leasefile_reader_take.f k a0 a1 a2) (leasefile_reader_take.f (k + 1) a0 a1 a2) := by
 intro a0 a1 a2 k
 have ih0 := leasefile_reader_take.mono_l k
 unfold leasefile_reader_take.f
 repeat' first
   | (with_reducible exact ih0 _ _ _ _)
   | (with_reducible exact LeO.refl _)
   | (with_reducible exact LeO.none _)
   | (with_reducible refine LeO.ite ?_ ?_)
   | (with_reducible refine LeO.bind ?_ (fun _ => ?_))
def leasefile_reader_number.l0 : Nat → Int → List Int → Int → Int → ByteArray → Bool → Option (Int × ByteArray × Bool)
 | 0,_,_,_,_,_,_ => none
 | k + 1,x5,x11,x12,x13,x1000,x1001 => if x13 < x12 then (if 0 ≤ x13 then (if x13 < (x11.length : Int) then (leasefile_reader_number.l0 k (Go.bits .or .i64 (wrap64 (x5 * 256)) (wrap64 (rd x11 x13))) x11 x12 (wrap64 (x13 + 1)) x1000 x1001) else (none)) else (none)) else (some (x5,x1000,x1001))
def leasefile_reader_number.f (k : Nat) (s0_0 : ByteArray) (s0_1 : Bool) (a1 : Int) : Option (Int × ByteArray × Bool) := (leasefile_reader_take.f k s0_0 s0_1 a1).bind fun bt245 => ((conv_bytes_53.f bt245.1).bind fun t248 => (leasefile_reader_number.l0 k 0 t248 (t248.length : Int) 0 bt245.2.1 bt245.2.2))
theorem leasefile_reader_number.mono_l : ∀ k,(∀ y0 y1 y2 y3 y4 y5,LeO (leasefile_reader_number.l0 k y0 y1 y2 y3 y4 y5) (leasefile_reader_number.l0 (k + 1) y0 y1 y2 y3 y4 y5))
 | 0 => fun _ _ _ _ _ _ r h => by simp [leasefile_reader_number.l0] at h
 | k + 1 => by
  have ih0 := leasefile_reader_number.mono_l k
  ·intro y0 y1 y2 y3 y4 y5
   unfold leasefile_reader_number.l0
   repeat' first
   | (with_reducible exact ih0 _ _ _ _ _ _)
   | (with_reducible exact leasefile_reader_take.mono _ _ _ _)
   | (with_reducible exact LeO.refl _)
   | (with_reducible exact LeO.none _)
   | (with_reducible refine LeO.ite ?_ ?_)
   | (with_reducible refine LeO.bind ?_ (fun _ => ?_))
theorem leasefile_reader_number.mono : ∀ a0 a1 a2 k,LeO (leasefile_reader_number.f k a0 a1 a2) (leasefile_reader_number.f (k + 1) a0 a1 a2) := by
 intro a0 a1 a2 k
 have ih0 := leasefile_reader_number.mono_l k
 unfold leasefile_reader_number.f
 repeat' first
   | (with_reducible exact ih0 _ _ _ _ _ _)
   | (with_reducible exact leasefile_reader_take.mono _ _ _ _)
   | (with_reducible exact LeO.refl _)
   | (with_reducible exact LeO.none _)
   | (with_reducible refine LeO.ite ?_ ?_)
   | (with_reducible refine LeO.bind ?_ (fun _ => ?_))
def leasefile_reader_text.f (k : Nat) (s0_0 : ByteArray) (s0_1 : Bool) : Option (ByteArray × ByteArray × Bool) := (leasefile_reader_number.f k s0_0 s0_1 1).bind fun bt252 => ((leasefile_reader_take.f k bt252.2.1 bt252.2.2 bt252.1).bind fun bt255 => (some (bt255.1,bt255.2.1,bt255.2.2)))
theorem leasefile_reader_text.mono : ∀ a0 a1 k,LeO (leasefile_reader_text.f k a0 a1) (leasefile_reader_text.f (k + 1) a0 a1) := by
 intro a0 a1 k
 unfold leasefile_reader_text.f
 repeat' first
   | (with_reducible exact leasefile_reader_number.mono _ _ _ _)
   | (with_reducible exact leasefile_reader_take.mono _ _ _ _)
   | (with_reducible exact LeO.refl _)
   | (with_reducible exact LeO.none _)
   | (with_reducible refine LeO.ite ?_ ?_)
   | (with_reducible refine LeO.bind ?_ (fun _ => ?_))
def addr_value.l0 : Nat → ByteArray → Int → Int → Int → Option (Int)
 | 0,_,_,_,_ => none
 | k + 1,x0,x3,x6,x7 => if x7 < x6 then (if 0 ≤ x7 then (if x7 < (x0.size : Int) then (addr_value.l0 k x0 (Go.bits .or .u64 (IntKind.u64.wrap (x3 * 256)) (IntKind.u64.wrap (bt x0 x7))) x6 (wrap64 (x7 + 1))) else (none)) else (none)) else (some x3)
def addr_value.f (k : Nat) (a0 : ByteArray) : Option (Int) := addr_value.l0 k a0 0 (a0.size : Int) 0
theorem addr_value.mono_l : ∀ k,(∀ y0 y1 y2 y3,LeO (addr_value.l0 k y0 y1 y2 y3) (addr_value.l0 (k + 1) y0 y1 y2 y3))
 | 0 => fun _ _ _ _ r h => by simp [addr_value.l0] at h
 | k + 1 => by
  have ih0 := addr_value.mono_l k
  ·intro y0 y1 y2 y3
   unfold addr_value.l0
   repeat' first
   | (with_reducible exact ih0 _ _ _ _)
   | (with_reducible exact LeO.refl _)
   | (with_reducible exact LeO.none _)
   | (with_reducible refine LeO.ite ?_ ?_)
   | (with_reducible refine LeO.bind ?_ (fun _ => ?_))
theorem addr_value.mono : ∀ a0 k,LeO (addr_value.f k a0) (addr_value.f (k + 1) a0) := by
 intro a0 k
 have ih0 := addr_value.mono_l k
 unfold addr_value.f
 repeat' first
   | (with_reducible exact ih0 _ _ _ _)
   | (with_reducible exact LeO.refl _)
   | (with_reducible exact LeO.none _)
   | (with_reducible refine LeO.ite ?_ ?_)
   | (with_reducible refine LeO.bind ?_ (fun _ => ?_))
def addr_Read.f (k : Nat) (a0 : ByteArray) : Option (Bool × Int × Int × Int) := if (a0.size : Int) = 4 then ((addr_value.f k a0).bind fun t259 => (some (false,0,t259,0))) else (if (a0.size : Int) = 16 then (if 0 ≤ 8 then (if 8 ≤ (a0.size : Int) then ((addr_value.f k (a0.extract 0 8)).bind fun t260 => ((addr_value.f k (a0.extract 8 a0.size)).bind fun t261 => (some (true,t260,t261,0)))) else (none)) else (none)) else (if (a0.size : Int) > 16 then (some (false,0,0,8)) else (some (false,0,0,6))))
theorem addr_Read.mono : ∀ a0 k,LeO (addr_Read.f k a0) (addr_Read.f (k + 1) a0) := by
 intro a0 k
 unfold addr_Read.f
 repeat' first
   | (with_reducible exact addr_value.mono _ _)
   | (with_reducible exact LeO.refl _)
   | (with_reducible exact LeO.none _)
   | (with_reducible refine LeO.ite ?_ ?_)
   | (with_reducible refine LeO.bind ?_ (fun _ => ?_))
def leasefile_Decode.j1 (k : Nat) (a : ByteArray) (st start until_ xid : Int) (cl host s : ByteArray) (short : Bool) : Option (Bool × Int × Int × ByteArray × Int × Int × Int × ByteArray × Int × Int) :=
 if short = true then some (false,0,0,(⟨#[]⟩ : ByteArray),0,0,0,(⟨#[]⟩ : ByteArray),0,6) else (if s.toList = [] then ((addr_Read.f k a).bind fun u => (leasefile_may.f k u.1 u.2.1 u.2.2.1 cl st start until_ host xid).bind fun t => (if t = true then some (u.1,u.2.1,u.2.2.1,cl,st,start,until_,host,xid,0) else some (false,0,0,(⟨#[]⟩ : ByteArray),0,0,0,(⟨#[]⟩ : ByteArray),0,1))) else some (false,0,0,(⟨#[]⟩ : ByteArray),0,0,0,(⟨#[]⟩ : ByteArray),0,8))
def leasefile_Decode.j0 (k : Nat) (a0 : ByteArray) : Option (Bool × Int × Int × ByteArray × Int × Int × Int × ByteArray × Int × Int) :=
 (leasefile_reader_text.f k a0 false).bind fun b1 => (leasefile_reader_number.f k b1.2.1 b1.2.2 1).bind fun b2 => (leasefile_reader_number.f k b2.2.1 b2.2.2 4).bind fun b3 => (leasefile_reader_number.f k b3.2.1 b3.2.2 4).bind fun b4 => (leasefile_reader_number.f k b4.2.1 b4.2.2 4).bind fun b5 => (leasefile_reader_text.f k b5.2.1 b5.2.2).bind fun b6 => (leasefile_reader_text.f k b6.2.1 b6.2.2).bind fun b7 => leasefile_Decode.j1 k b1.1 b2.1 b3.1 b4.1 b5.1 b6.1 b7.1 b7.2.1 b7.2.2
def leasefile_Decode.f (k : Nat) (a0 : ByteArray) : Option (Bool × Int × Int × ByteArray × Int × Int × Int × ByteArray × Int × Int) :=
 if a0.toList = [] then some (false,0,0,(⟨#[]⟩ : ByteArray),0,0,0,(⟨#[]⟩ : ByteArray),0,6) else (if bt a0 0 = 4 then leasefile_Decode.j0 k a0 else (if bt a0 0 = 16 then leasefile_Decode.j0 k a0 else some (false,0,0,(⟨#[]⟩ : ByteArray),0,0,0,(⟨#[]⟩ : ByteArray),0,7)))
theorem leasefile_Decode.mono_l (k : Nat) (a : ByteArray) (st start until_ xid : Int) (cl host s : ByteArray) (short : Bool) : LeO (leasefile_Decode.j1 k a st start until_ xid cl host s short) (leasefile_Decode.j1 (k + 1) a st start until_ xid cl host s short) := by
 unfold leasefile_Decode.j1
 exact LeO.ite (LeO.refl _) (LeO.ite (LeO.bind (addr_Read.mono _ _) (fun u => LeO.bind (leasefile_may.mono _ _ _ _ _ _ _ _ _ _) (fun t => LeO.refl _))) (LeO.refl _))
theorem leasefile_Decode.mono : ∀ a0 k,LeO (leasefile_Decode.f k a0) (leasefile_Decode.f (k + 1) a0) := by
 intro a0 k
 unfold leasefile_Decode.f
 have h : LeO (leasefile_Decode.j0 k a0) (leasefile_Decode.j0 (k + 1) a0) := by
  unfold leasefile_Decode.j0
  exact LeO.bind (leasefile_reader_text.mono _ _ _) (fun b1 => LeO.bind (leasefile_reader_number.mono _ _ _ _) (fun b2 => LeO.bind (leasefile_reader_number.mono _ _ _ _) (fun b3 => LeO.bind (leasefile_reader_number.mono _ _ _ _) (fun b4 => LeO.bind (leasefile_reader_number.mono _ _ _ _) (fun b5 => LeO.bind (leasefile_reader_text.mono _ _ _) (fun b6 => LeO.bind (leasefile_reader_text.mono _ _ _) (fun b7 => leasefile_Decode.mono_l _ _ _ _ _ _ _ _ _ _)))))))
 exact LeO.ite (LeO.refl _) (LeO.ite h (LeO.ite h (LeO.refl _)))
def slices_Clone.f (l0 : List (S26)) : Option (List (S26)) := if l0.length * 88 ≤ 140737488355328 then some l0 else none
def slices_Insert.f (l0 : List (S26)) (a1 : Int) (l2 : List (S26)) : Option (List (S26)) :=
 if 0 ≤ a1 then (if a1 ≤ (l0.length : Int) then (if (l0.length + l2.length) * 88 ≤ 140737488355328 then some (l0.take a1.toNat ++ l2 ++ l0.drop a1.toNat) else none) else none) else none
def leasefile_Put.l0 (k : Nat) (x : S26) (L : List (S26)) : Nat → List (S26) → Option (List (S26))
 | _,[] => if (L.length + 1) * 88 ≤ 140737488355328 then some (L ++ [x]) else none
 | i,y :: r => (addr_Compare.f k y.f0.f0 y.f0.f1 y.f0.f2 x.f0.f0 x.f0.f1 x.f0.f2).bind fun c => (if c = 0 then some (L.set i x) else (if c > 0 then slices_Insert.f L (i : Int) [x] else leasefile_Put.l0 k x L (i + 1) r))
def leasefile_Put.f (k : Nat) (l0 : List (S26)) (a1_0 : Bool) (a1_1 : Int) (a1_2 : Int) (a1_3 : ByteArray) (a1_4 : Int) (a1_5 : Int) (a1_6 : Int) (a1_7 : ByteArray) (a1_8 : Int) : Option (List (S26)) :=
 (slices_Clone.f l0).bind fun t => leasefile_Put.l0 k (⟨⟨a1_0,a1_1,a1_2⟩,a1_3,a1_4,a1_5,a1_6,a1_7,a1_8⟩ : S26) t 0 t
theorem leasefile_Put.mono_l (x : S26) (L : List (S26)) (k : Nat) : ∀ (r : List (S26)) (i : Nat),LeO (leasefile_Put.l0 k x L i r) (leasefile_Put.l0 (k + 1) x L i r)
 | [],_ => LeO.refl _
 | y :: r,i => LeO.bind (addr_Compare.mono _ _ _ _ _ _ _) (fun c => LeO.ite (LeO.refl _) (LeO.ite (LeO.refl _) (leasefile_Put.mono_l x L k r (i + 1))))
theorem leasefile_Put.mono : ∀ a0 a1 a2 a3 a4 a5 a6 a7 a8 a9 k,LeO (leasefile_Put.f k a0 a1 a2 a3 a4 a5 a6 a7 a8 a9) (leasefile_Put.f (k + 1) a0 a1 a2 a3 a4 a5 a6 a7 a8 a9) := by
 intro a0 a1 a2 a3 a4 a5 a6 a7 a8 a9 k
 unfold leasefile_Put.f
 exact LeO.bind (LeO.refl _) (fun t => leasefile_Put.mono_l _ _ _ _ _)
mutual
def wal_checksum.l0 : Nat → Int → List ByteArray → Int → Int → Option (Int)
 | 0,_,_,_,_ => none
 | k + 1,x3,x8,x9,x10 => if x10 < x9 then (if 0 ≤ x10 then (if x10 < (x8.length : Int) then (wal_checksum.l1 k x3 (rdOf ByteArray.empty x8 x10) x8 x9 x10 ((rdOf ByteArray.empty x8 x10).size : Int) 0) else (none)) else (none)) else (some (Go.bits .xor .u32 4294967295 x3))
def wal_checksum.l1 : Nat → Int → ByteArray → List ByteArray → Int → Int → Int → Int → Option (Int)
 | 0,_,_,_,_,_,_,_ => none
 | k + 1,x3,x5,x8,x9,x10,x15,x16 => if x16 < x15 then (if 0 ≤ x16 then (if x16 < (x5.size : Int) then (wal_checksum.l2 k (Go.bits .xor .u32 x3 ((bt x5 x16) % 4294967296)) x5 x8 x9 x10 x15 x16 0) else (none)) else (none)) else (wal_checksum.l0 k x3 x8 x9 (wrap64 (x10 + 1)))
def wal_checksum.l2 : Nat → Int → ByteArray → List ByteArray → Int → Int → Int → Int → Int → Option (Int)
 | 0,_,_,_,_,_,_,_,_ => none
 | k + 1,x3,x5,x8,x9,x10,x15,x16,x25 => if x25 < 8 then (if (Go.bits .and .u32 x3 1) = 1 then (wal_checksum.l2 k (Go.bits .xor .u32 (x3 / 2) 2197175160) x5 x8 x9 x10 x15 x16 (wrap64 (x25 + 1))) else (wal_checksum.l2 k (x3 / 2) x5 x8 x9 x10 x15 x16 (wrap64 (x25 + 1)))) else (wal_checksum.l1 k x3 x5 x8 x9 x10 x15 (wrap64 (x16 + 1)))
end
def wal_checksum.f (k : Nat) (l0 : List ByteArray) : Option (Int) := wal_checksum.l0 k 4294967295 l0 (l0.length : Int) 0
theorem wal_checksum.mono_l : ∀ k,(∀ y0 y1 y2 y3,LeO (wal_checksum.l0 k y0 y1 y2 y3) (wal_checksum.l0 (k + 1) y0 y1 y2 y3)) ∧ (∀ y0 y1 y2 y3 y4 y5 y6,LeO (wal_checksum.l1 k y0 y1 y2 y3 y4 y5 y6) (wal_checksum.l1 (k + 1) y0 y1 y2 y3 y4 y5 y6)) ∧ (∀ y0 y1 y2 y3 y4 y5 y6 y7,LeO (wal_checksum.l2 k y0 y1 y2 y3 y4 y5 y6 y7) (wal_checksum.l2 (k + 1) y0 y1 y2 y3 y4 y5 y6 y7))
 | 0 => ⟨fun _ _ _ _ r h => by simp [wal_checksum.l0] at h,fun _ _ _ _ _ _ _ r h => by simp [wal_checksum.l1] at h,fun _ _ _ _ _ _ _ _ r h => by simp [wal_checksum.l2] at h⟩
 | k + 1 => by
  obtain ⟨ih0,ih1,ih2⟩ := wal_checksum.mono_l k
  refine ⟨?_,?_,?_⟩
  ·intro y0 y1 y2 y3
   unfold wal_checksum.l0
   repeat' first
   | (with_reducible exact ih0 _ _ _ _)
   | (with_reducible exact ih1 _ _ _ _ _ _ _)
   | (with_reducible exact ih2 _ _ _ _ _ _ _ _)
   | (with_reducible exact LeO.refl _)
   | (with_reducible exact LeO.none _)
   | (with_reducible refine LeO.ite ?_ ?_)
   | (with_reducible refine LeO.bind ?_ (fun _ => ?_))
  ·intro y0 y1 y2 y3 y4 y5 y6
   unfold wal_checksum.l1
   repeat' first
   | (with_reducible exact ih0 _ _ _ _)
   | (with_reducible exact ih1 _ _ _ _ _ _ _)
   | (with_reducible exact ih2 _ _ _ _ _ _ _ _)
   | (with_reducible exact LeO.refl _)
   | (with_reducible exact LeO.none _)
   | (with_reducible refine LeO.ite ?_ ?_)
   | (with_reducible refine LeO.bind ?_ (fun _ => ?_))
  ·intro y0 y1 y2 y3 y4 y5 y6 y7
   unfold wal_checksum.l2
   repeat' first
   | (with_reducible exact ih0 _ _ _ _)
   | (with_reducible exact ih1 _ _ _ _ _ _ _)
   | (with_reducible exact ih2 _ _ _ _ _ _ _ _)
   | (with_reducible exact LeO.refl _)
   | (with_reducible exact LeO.none _)
   | (with_reducible refine LeO.ite ?_ ?_)
   | (with_reducible refine LeO.bind ?_ (fun _ => ?_))
theorem wal_checksum.mono : ∀ a0 k,LeO (wal_checksum.f k a0) (wal_checksum.f (k + 1) a0) := by
 intro a0 k
 obtain ⟨ih0,ih1,ih2⟩ := wal_checksum.mono_l k
 unfold wal_checksum.f
 repeat' first
   | (with_reducible exact ih0 _ _ _ _)
   | (with_reducible exact ih1 _ _ _ _ _ _ _)
   | (with_reducible exact ih2 _ _ _ _ _ _ _ _)
   | (with_reducible exact LeO.refl _)
   | (with_reducible exact LeO.none _)
   | (with_reducible refine LeO.ite ?_ ?_)
   | (with_reducible refine LeO.bind ?_ (fun _ => ?_))
def wal_number4.f (a0 : ByteArray) : Option (Int) := if 0 < (a0.size : Int) then (if 1 < (a0.size : Int) then (if 2 < (a0.size : Int) then (if 3 < (a0.size : Int) then (some (Go.bits .or .u32 (Go.bits .or .u32 (Go.bits .or .u32 ((((bt a0 0) % 4294967296) * 16777216) % 4294967296) ((((bt a0 1) % 4294967296) * 65536) % 4294967296)) ((((bt a0 2) % 4294967296) * 256) % 4294967296)) ((bt a0 3) % 4294967296))) else (none)) else (none)) else (none)) else (none)
def wal_next.j0 : Nat → ByteArray → Int → Bool → Option (ByteArray × Bool)
 | 0,_,_,_ => none
 | k + 1,x0,x4,x20 => if x20 = true then (some ((⟨#[]⟩ : ByteArray),false)) else (if 8 ≤ (wrap64 (8 + (wrap64 (x4)))) then (if (wrap64 (8 + (wrap64 (x4)))) ≤ (x0.size : Int) then (if 4 ≤ (x0.size : Int) then ((wal_number4.f (x0.extract 4 x0.size)).bind fun t272 => (if 0 ≤ 4 then ((wal_checksum.f k (([x0.extract 0 4,x0.extract 8 ((wrap64 (8 + (wrap64 (x4)))) : Int).toNat] : List ByteArray))).bind fun t276 => (some (x0.extract 8 ((wrap64 (8 + (wrap64 (x4)))) : Int).toNat,(t272 == t276)))) else (none))) else (none)) else (none)) else (none))
def wal_next.f (k : Nat) (a0 : ByteArray) : Option (ByteArray × Bool) := if (a0.size : Int) < 8 then (some ((⟨#[]⟩ : ByteArray),false)) else ((wal_number4.f a0).bind fun t271 => (if t271 > 32768 then (wal_next.j0 k a0 t271 true) else (wal_next.j0 k a0 t271 (decide ((wrap64 (t271)) > (wrap64 ((a0.size : Int) - 8)))))))
theorem wal_next.mono_l : ∀ k,(∀ y0 y1 y2,LeO (wal_next.j0 k y0 y1 y2) (wal_next.j0 (k + 1) y0 y1 y2))
 | 0 => fun _ _ _ r h => by simp [wal_next.j0] at h
 | k + 1 => by
  have ih0 := wal_next.mono_l k
  ·intro y0 y1 y2
   unfold wal_next.j0
   repeat' first
   | (with_reducible exact ih0 _ _ _)
   | (with_reducible exact wal_checksum.mono _ _)
   | (with_reducible exact LeO.refl _)
   | (with_reducible exact LeO.none _)
   | (with_reducible refine LeO.ite ?_ ?_)
   | (with_reducible refine LeO.bind ?_ (fun _ => ?_))
theorem wal_next.mono : ∀ a0 k,LeO (wal_next.f k a0) (wal_next.f (k + 1) a0) := by
 intro a0 k
 have ih0 := wal_next.mono_l k
 unfold wal_next.f
 repeat' first
   | (with_reducible exact ih0 _ _ _)
   | (with_reducible exact wal_checksum.mono _ _)
   | (with_reducible exact LeO.refl _)
   | (with_reducible exact LeO.none _)
   | (with_reducible refine LeO.ite ?_ ?_)
   | (with_reducible refine LeO.bind ?_ (fun _ => ?_))
def wal_Scan.l0 : Nat → ByteArray → List ByteArray → Int → Option (List ByteArray × Int)
 | 0,_,_,_ => none
 | k + 1,x0,x4,x5 => if 0 ≤ x5 then (if x5 ≤ (x0.size : Int) then ((wal_next.f k (x0.extract (x5 : Int).toNat x0.size)).bind fun bt277 => (if bt277.2 = true then (if x4.length < 8796093022208 then (wal_Scan.l0 k x0 (x4 ++ [bt277.1]) (wrap64 (x5 + (wrap64 (8 + (bt277.1.size : Int)))))) else (none)) else (some (x4,x5)))) else (none)) else (none)
def wal_Scan.f (k : Nat) (a0 : ByteArray) : Option (List ByteArray × Int) := wal_Scan.l0 k a0 ([] : List ByteArray) 0
theorem wal_Scan.mono_l : ∀ k,(∀ y0 y1 y2,LeO (wal_Scan.l0 k y0 y1 y2) (wal_Scan.l0 (k + 1) y0 y1 y2))
 | 0 => fun _ _ _ r h => by simp [wal_Scan.l0] at h
 | k + 1 => by
  have ih0 := wal_Scan.mono_l k
  ·intro y0 y1 y2
   unfold wal_Scan.l0
   repeat' first
   | (with_reducible exact ih0 _ _ _)
   | (with_reducible exact wal_next.mono _ _)
   | (with_reducible exact LeO.refl _)
   | (with_reducible exact LeO.none _)
   | (with_reducible refine LeO.ite ?_ ?_)
   | (with_reducible refine LeO.bind ?_ (fun _ => ?_))
theorem wal_Scan.mono : ∀ a0 k,LeO (wal_Scan.f k a0) (wal_Scan.f (k + 1) a0) := by
 intro a0 k
 have ih0 := wal_Scan.mono_l k
 unfold wal_Scan.f
 repeat' first
   | (with_reducible exact ih0 _ _ _)
   | (with_reducible exact wal_next.mono _ _)
   | (with_reducible exact LeO.refl _)
   | (with_reducible exact LeO.none _)
   | (with_reducible refine LeO.ite ?_ ?_)
   | (with_reducible refine LeO.bind ?_ (fun _ => ?_))
def wal_Open.f (k : Nat) (a0_0 : ByteArray) (a0_1 : Int) (a0_2 : Int) (a0_3 : Bool) : Option (ByteArray × Int × Int × Bool × List ByteArray × Int) := if a0_3 = true then (some (a0_0,a0_1,a0_2,a0_3,([] : List ByteArray),27)) else ((wal_Scan.f k a0_0).bind fun bt284 => (if 0 ≤ bt284.2 then (if bt284.2 ≤ (a0_0.size : Int) then (some (a0_0.extract 0 (bt284.2 : Int).toNat,bt284.2,a0_2,a0_3,bt284.1,0)) else (none)) else (none)))
theorem wal_Open.mono : ∀ a0 a1 a2 a3 k,LeO (wal_Open.f k a0 a1 a2 a3) (wal_Open.f (k + 1) a0 a1 a2 a3) := by
 intro a0 a1 a2 a3 k
 unfold wal_Open.f
 repeat' first
   | (with_reducible exact wal_Scan.mono _ _)
   | (with_reducible exact LeO.refl _)
   | (with_reducible exact LeO.none _)
   | (with_reducible refine LeO.ite ?_ ?_)
   | (with_reducible refine LeO.bind ?_ (fun _ => ?_))
def leasefile_Open.l0 : Nat → List (S26) → List ByteArray → Int → Int → ByteArray → Int → Int → Bool → Option (ByteArray × Int × Int × Bool × (List (S26)) × Int)
 | 0,_,_,_,_,_,_,_,_ => none
 | k + 1,x7,x22,x23,x24,x289000,x289001,x289002,x289003 => if x24 < x23 then (if 0 ≤ x24 then (if x24 < (x22.length : Int) then ((leasefile_Decode.f k (rdOf ByteArray.empty x22 x24)).bind fun bt299 => (if bt299.2.2.2.2.2.2.2.2.2 = 0 then ((leasefile_Put.f k x7 bt299.1 bt299.2.1 bt299.2.2.1 bt299.2.2.2.1 bt299.2.2.2.2.1 bt299.2.2.2.2.2.1 bt299.2.2.2.2.2.2.1 bt299.2.2.2.2.2.2.2.1 bt299.2.2.2.2.2.2.2.2.1).bind fun t310 => (leasefile_Open.l0 k t310 x22 x23 (wrap64 (x24 + 1)) x289000 x289001 x289002 x289003)) else (some (x289000,x289001,x289002,x289003,([] : List (S26)),7)))) else (none)) else (none)) else (some (x289000,x289001,x289002,x289003,x7,0))
def leasefile_Open.f (k : Nat) (a0_0 : ByteArray) (a0_1 : Int) (a0_2 : Int) (a0_3 : Bool) : Option (ByteArray × Int × Int × Bool × (List (S26)) × Int) := (wal_Open.f k a0_0 a0_1 a0_2 a0_3).bind fun bt290 => (if bt290.2.2.2.2.2 = 0 then (leasefile_Open.l0 k ([] : List (S26)) bt290.2.2.2.2.1 (bt290.2.2.2.2.1.length : Int) 0 bt290.1 bt290.2.1 bt290.2.2.1 bt290.2.2.2.1) else (some (bt290.1,bt290.2.1,bt290.2.2.1,bt290.2.2.2.1,([] : List (S26)),bt290.2.2.2.2.2)))
theorem leasefile_Open.mono_l : ∀ k,(∀ y0 y1 y2 y3 y4 y5 y6 y7,LeO (leasefile_Open.l0 k y0 y1 y2 y3 y4 y5 y6 y7) (leasefile_Open.l0 (k + 1) y0 y1 y2 y3 y4 y5 y6 y7))
 | 0 => fun _ _ _ _ _ _ _ _ r h => by simp [leasefile_Open.l0] at h
 | k + 1 => by
  have ih0 := leasefile_Open.mono_l k
  ·intro y0 y1 y2 y3 y4 y5 y6 y7
   unfold leasefile_Open.l0
   repeat' first
   | (with_reducible exact ih0 _ _ _ _ _ _ _ _)
   | (with_reducible exact leasefile_Decode.mono _ _)
   | (with_reducible exact leasefile_Put.mono _ _ _ _ _ _ _ _ _ _ _)
   | (with_reducible exact wal_Open.mono _ _ _ _ _)
   | (with_reducible exact LeO.refl _)
   | (with_reducible exact LeO.none _)
   | (with_reducible refine LeO.ite ?_ ?_)
   | (with_reducible refine LeO.bind ?_ (fun _ => ?_))
theorem leasefile_Open.mono : ∀ a0 a1 a2 a3 k,LeO (leasefile_Open.f k a0 a1 a2 a3) (leasefile_Open.f (k + 1) a0 a1 a2 a3) := by
 intro a0 a1 a2 a3 k
 have ih0 := leasefile_Open.mono_l k
 unfold leasefile_Open.f
 repeat' first
   | (with_reducible exact ih0 _ _ _ _ _ _ _ _)
   | (with_reducible exact leasefile_Decode.mono _ _)
   | (with_reducible exact leasefile_Put.mono _ _ _ _ _ _ _ _ _ _ _)
   | (with_reducible exact wal_Open.mono _ _ _ _ _)
   | (with_reducible exact LeO.refl _)
   | (with_reducible exact LeO.none _)
   | (with_reducible refine LeO.ite ?_ ?_)
   | (with_reducible refine LeO.bind ?_ (fun _ => ?_))
def wal_bytes4.f (a0 : Int) : Option (ByteArray) := some (strOfNums (([(a0 / 16777216) % 256,(a0 / 65536) % 256,(a0 / 256) % 256,(a0) % 256] : List Int)))
def wal_Frame.f (k : Nat) (a0 : ByteArray) : Option (ByteArray × Int) := if (a0.size : Int) > 32768 then (some ((⟨#[]⟩ : ByteArray),9)) else ((wal_bytes4.f (((a0.size : Int)) % 4294967296)).bind fun t316 => ((wal_checksum.f k (([t316,a0] : List ByteArray))).bind fun t320 => ((wal_bytes4.f t320).bind fun t321 => (if t316.size + t321.size ≤ 9223372036854775807 then (if (t316 ++ t321).size + a0.size ≤ 9223372036854775807 then (some ((t316 ++ t321) ++ a0,0)) else (none)) else (none)))))
theorem wal_Frame.mono : ∀ a0 k,LeO (wal_Frame.f k a0) (wal_Frame.f (k + 1) a0) := by
 intro a0 k
 unfold wal_Frame.f
 repeat' first
   | (with_reducible exact wal_checksum.mono _ _)
   | (with_reducible exact LeO.refl _)
   | (with_reducible exact LeO.none _)
   | (with_reducible refine LeO.ite ?_ ?_)
   | (with_reducible refine LeO.bind ?_ (fun _ => ?_))
def wal_burn.f (a0_0 : ByteArray) (a0_1 : Int) (a0_2 : Int) (a0_3 : Bool) : Option (ByteArray × Int × Int × Bool × Int) := if a0_2 = 0 then (some (a0_0,a0_1,a0_2,true,27)) else (if a0_2 > 0 then (some (a0_0,a0_1,wrap64 (a0_2 - 1),a0_3,0)) else (some (a0_0,a0_1,a0_2,a0_3,0)))
def wal_Write.j0 : Nat → ByteArray → Bool → ByteArray → Int → Int → Bool → Option (ByteArray × Int × Int × Bool × Int)
 | 0,_,_,_,_,_,_ => none
 | k + 1,x1,x22,x325000,x325001,x325002,x325003 => if x22 = true then (some (x325000,x325001,x325002,x325003,9)) else ((wal_burn.f x325000 x325001 x325002 x325003).bind fun bt326 => (if bt326.2.2.2.2 = 0 then (if bt326.1.size + x1.size ≤ 9223372036854775807 then (some (bt326.1 ++ x1,bt326.2.1,bt326.2.2.1,bt326.2.2.2.1,bt326.2.2.2.2)) else (none)) else (some (bt326.1,bt326.2.1,bt326.2.2.1,bt326.2.2.2.1,bt326.2.2.2.2))))
def wal_Write.f (k : Nat) (a0_0 : ByteArray) (a0_1 : Int) (a0_2 : Int) (a0_3 : Bool) (a1 : ByteArray) : Option (ByteArray × Int × Int × Bool × Int) := if a0_3 = true then (some (a0_0,a0_1,a0_2,a0_3,27)) else (if (a0_0.size : Int) > 1048576 then (wal_Write.j0 k a1 true a0_0 a0_1 a0_2 a0_3) else (wal_Write.j0 k a1 (decide ((a1.size : Int) > (wrap64 (1048576 - (a0_0.size : Int))))) a0_0 a0_1 a0_2 a0_3))
theorem wal_Write.mono_l : ∀ k,(∀ y0 y1 y2 y3 y4 y5,LeO (wal_Write.j0 k y0 y1 y2 y3 y4 y5) (wal_Write.j0 (k + 1) y0 y1 y2 y3 y4 y5))
 | 0 => fun _ _ _ _ _ _ r h => by simp [wal_Write.j0] at h
 | k + 1 => by
  have ih0 := wal_Write.mono_l k
  ·intro y0 y1 y2 y3 y4 y5
   unfold wal_Write.j0
   repeat' first
   | (with_reducible exact ih0 _ _ _ _ _ _)
   | (with_reducible exact LeO.refl _)
   | (with_reducible exact LeO.none _)
   | (with_reducible refine LeO.ite ?_ ?_)
   | (with_reducible refine LeO.bind ?_ (fun _ => ?_))
theorem wal_Write.mono : ∀ a0 a1 a2 a3 a4 k,LeO (wal_Write.f k a0 a1 a2 a3 a4) (wal_Write.f (k + 1) a0 a1 a2 a3 a4) := by
 intro a0 a1 a2 a3 a4 k
 have ih0 := wal_Write.mono_l k
 unfold wal_Write.f
 repeat' first
   | (with_reducible exact ih0 _ _ _ _ _ _)
   | (with_reducible exact LeO.refl _)
   | (with_reducible exact LeO.none _)
   | (with_reducible refine LeO.ite ?_ ?_)
   | (with_reducible refine LeO.bind ?_ (fun _ => ?_))
def wal_Sync.f (a0_0 : ByteArray) (a0_1 : Int) (a0_2 : Int) (a0_3 : Bool) : Option (ByteArray × Int × Int × Bool × Int) := if a0_3 = true then (some (a0_0,a0_1,a0_2,a0_3,27)) else ((wal_burn.f a0_0 a0_1 a0_2 a0_3).bind fun bt333 => (if bt333.2.2.2.2 = 0 then (some (bt333.1,(bt333.1.size : Int),bt333.2.2.1,bt333.2.2.2.1,bt333.2.2.2.2)) else (some (bt333.1,bt333.2.1,bt333.2.2.1,bt333.2.2.2.1,bt333.2.2.2.2))))
def wal_Append.f (k : Nat) (a0_0 : ByteArray) (a0_1 : Int) (a0_2 : Int) (a0_3 : Bool) (a1 : ByteArray) : Option (ByteArray × Int × Int × Bool × Int) := (wal_Frame.f k a1).bind fun bt340 => (if bt340.2 = 0 then ((wal_Write.f k a0_0 a0_1 a0_2 a0_3 bt340.1).bind fun bt342 => (if bt342.2.2.2.2 = 0 then ((wal_Sync.f bt342.1 bt342.2.1 bt342.2.2.1 bt342.2.2.2.1).bind fun bt348 => (some (bt348.1,bt348.2.1,bt348.2.2.1,bt348.2.2.2.1,bt348.2.2.2.2))) else (some (bt342.1,bt342.2.1,bt342.2.2.1,bt342.2.2.2.1,bt342.2.2.2.2)))) else (some (a0_0,a0_1,a0_2,a0_3,bt340.2)))
theorem wal_Append.mono : ∀ a0 a1 a2 a3 a4 k,LeO (wal_Append.f k a0 a1 a2 a3 a4) (wal_Append.f (k + 1) a0 a1 a2 a3 a4) := by
 intro a0 a1 a2 a3 a4 k
 unfold wal_Append.f
 repeat' first
   | (with_reducible exact wal_Frame.mono _ _)
   | (with_reducible exact wal_Write.mono _ _ _ _ _ _)
   | (with_reducible exact LeO.refl _)
   | (with_reducible exact LeO.none _)
   | (with_reducible refine LeO.ite ?_ ?_)
   | (with_reducible refine LeO.bind ?_ (fun _ => ?_))
def leasefile_Save.f (k : Nat) (a0_0 : ByteArray) (a0_1 : Int) (a0_2 : Int) (a0_3 : Bool) (a1_0 : Bool) (a1_1 : Int) (a1_2 : Int) (a1_3 : ByteArray) (a1_4 : Int) (a1_5 : Int) (a1_6 : Int) (a1_7 : ByteArray) (a1_8 : Int) : Option (ByteArray × Int × Int × Bool × Int) := (leasefile_Encode.f k a1_0 a1_1 a1_2 a1_3 a1_4 a1_5 a1_6 a1_7 a1_8).bind fun bt356 => (if bt356.2 = 0 then ((wal_Append.f k a0_0 a0_1 a0_2 a0_3 bt356.1).bind fun bt358 => (some (bt358.1,bt358.2.1,bt358.2.2.1,bt358.2.2.2.1,bt358.2.2.2.2))) else (some (a0_0,a0_1,a0_2,a0_3,bt356.2)))
theorem leasefile_Save.mono : ∀ a0 a1 a2 a3 a4 a5 a6 a7 a8 a9 a10 a11 a12 k,LeO (leasefile_Save.f k a0 a1 a2 a3 a4 a5 a6 a7 a8 a9 a10 a11 a12) (leasefile_Save.f (k + 1) a0 a1 a2 a3 a4 a5 a6 a7 a8 a9 a10 a11 a12) := by
 intro a0 a1 a2 a3 a4 a5 a6 a7 a8 a9 a10 a11 a12 k
 unfold leasefile_Save.f
 repeat' first
   | (with_reducible exact leasefile_Encode.mono _ _ _ _ _ _ _ _ _ _)
   | (with_reducible exact wal_Append.mono _ _ _ _ _ _)
   | (with_reducible exact LeO.refl _)
   | (with_reducible exact LeO.none _)
   | (with_reducible refine LeO.ite ?_ ?_)
   | (with_reducible refine LeO.bind ?_ (fun _ => ?_))
def leasefile_Compact.l0 : Nat → List (S26) → Int → Int → ByteArray → Int → Int → Bool → Option (ByteArray × Int × Int × Bool × Int)
 | 0,_,_,_,_,_,_,_ => none
 | k + 1,x14,x15,x16,x366000,x366001,x366002,x366003 => if x16 < x15 then (if 0 ≤ x16 then (if x16 < (x14.length : Int) then ((leasefile_Save.f k x366000 x366001 x366002 x366003 ((rd_T26 x14 x16).f0.f0) ((rd_T26 x14 x16).f0.f1) ((rd_T26 x14 x16).f0.f2) ((rd_T26 x14 x16).f1) ((rd_T26 x14 x16).f2) ((rd_T26 x14 x16).f3) ((rd_T26 x14 x16).f4) ((rd_T26 x14 x16).f5) ((rd_T26 x14 x16).f6)).bind fun bt368 => (if bt368.2.2.2.2 = 0 then (leasefile_Compact.l0 k x14 x15 (wrap64 (x16 + 1)) bt368.1 bt368.2.1 bt368.2.2.1 bt368.2.2.2.1) else (some ((⟨#[]⟩ : ByteArray),0,0,false,bt368.2.2.2.2)))) else (none)) else (none)) else (some (x366000,x366001,x366002,x366003,0))
def leasefile_Compact.f (k : Nat) (l0 : List (S26)) : Option (ByteArray × Int × Int × Bool × Int) := (lease_Check.f k l0).bind fun t364 => (if t364 = 0 then (leasefile_Compact.l0 k l0 (l0.length : Int) 0 (⟨#[]⟩ : ByteArray) 0 (-1) false) else (some ((⟨#[]⟩ : ByteArray),0,0,false,1)))
theorem leasefile_Compact.mono_l : ∀ k,(∀ y0 y1 y2 y3 y4 y5 y6,LeO (leasefile_Compact.l0 k y0 y1 y2 y3 y4 y5 y6) (leasefile_Compact.l0 (k + 1) y0 y1 y2 y3 y4 y5 y6))
 | 0 => fun _ _ _ _ _ _ _ r h => by simp [leasefile_Compact.l0] at h
 | k + 1 => by
  have ih0 := leasefile_Compact.mono_l k
  ·intro y0 y1 y2 y3 y4 y5 y6
   unfold leasefile_Compact.l0
   repeat' first
   | (with_reducible exact ih0 _ _ _ _ _ _ _)
   | (with_reducible exact lease_Check.mono _ _)
   | (with_reducible exact leasefile_Save.mono _ _ _ _ _ _ _ _ _ _ _ _ _ _)
   | (with_reducible exact LeO.refl _)
   | (with_reducible exact LeO.none _)
   | (with_reducible refine LeO.ite ?_ ?_)
   | (with_reducible refine LeO.bind ?_ (fun _ => ?_))
theorem leasefile_Compact.mono : ∀ a0 k,LeO (leasefile_Compact.f k a0) (leasefile_Compact.f (k + 1) a0) := by
 intro a0 k
 have ih0 := leasefile_Compact.mono_l k
 unfold leasefile_Compact.f
 repeat' first
   | (with_reducible exact ih0 _ _ _ _ _ _ _)
   | (with_reducible exact lease_Check.mono _ _)
   | (with_reducible exact leasefile_Save.mono _ _ _ _ _ _ _ _ _ _ _ _ _ _)
   | (with_reducible exact LeO.refl _)
   | (with_reducible exact LeO.none _)
   | (with_reducible refine LeO.ite ?_ ?_)
   | (with_reducible refine LeO.bind ?_ (fun _ => ?_))
def wal_Crash.f (a0_0 : ByteArray) (a0_1 : Int) (a0_2 : Int) (a0_3 : Bool) (a1 : Int) : Option (ByteArray × Int × Int × Bool) := if 0 ≤ (wrap64 ((mn (mx a0_1 0) (a0_0.size : Int)) + (mn (mx a1 0) (wrap64 ((a0_0.size : Int) - (mn (mx a0_1 0) (a0_0.size : Int))))))) then (if (wrap64 ((mn (mx a0_1 0) (a0_0.size : Int)) + (mn (mx a1 0) (wrap64 ((a0_0.size : Int) - (mn (mx a0_1 0) (a0_0.size : Int))))))) ≤ (a0_0.size : Int) then (some (a0_0.extract 0 ((wrap64 ((mn (mx a0_1 0) (a0_0.size : Int)) + (mn (mx a1 0) (wrap64 ((a0_0.size : Int) - (mn (mx a0_1 0) (a0_0.size : Int))))))) : Int).toNat,wrap64 ((mn (mx a0_1 0) (a0_0.size : Int)) + (mn (mx a1 0) (wrap64 ((a0_0.size : Int) - (mn (mx a0_1 0) (a0_0.size : Int)))))),(-1),false)) else (none)) else (none)
def ddilaw45_one.f  : Option (Bool × Int × Int × ByteArray × Int × Int × Int × ByteArray × Int) := some (false,0,167772161,(⟨#[97]⟩ : ByteArray),2,1,2,(⟨#[]⟩ : ByteArray),3)
def ddilaw45_awake.f (k : Nat)  : Option (Bool) := (ddilaw45_one.f).bind fun bt377 => ((leasefile_Encode.f k bt377.1 bt377.2.1 bt377.2.2.1 bt377.2.2.2.1 bt377.2.2.2.2.1 bt377.2.2.2.2.2.1 bt377.2.2.2.2.2.2.1 bt377.2.2.2.2.2.2.2.1 bt377.2.2.2.2.2.2.2.2).bind fun bt386 => ((leasefile_Decode.f k bt386.1).bind fun bt388 => ((leasefile_Decode.f k (⟨#[5]⟩ : ByteArray)).bind fun bt399 => ((ddilaw45_one.f).bind fun bt410 => ((leasefile_Save.f k (⟨#[]⟩ : ByteArray) 0 (-1) false bt410.1 bt410.2.1 bt410.2.2.1 bt410.2.2.2.1 bt410.2.2.2.2.1 bt410.2.2.2.2.2.1 bt410.2.2.2.2.2.2.1 bt410.2.2.2.2.2.2.2.1 bt410.2.2.2.2.2.2.2.2).bind fun bt419 => ((wal_Crash.f bt419.1 bt419.2.1 bt419.2.2.1 bt419.2.2.2.1 0).bind fun bt425 => ((leasefile_Open.f k bt425.1 bt425.2.1 bt425.2.2.1 bt425.2.2.2).bind fun bt429 => ((leasefile_Compact.f k ([] : List (S26))).bind fun bt438 => (if bt386.2 = 0 then (if bt388.2.2.2.2.2.2.2.2.2 = 0 then (if bt399.2.2.2.2.2.2.2.2.2 = 7 then (if bt419.2.2.2.2 = 0 then (if bt429.2.2.2.2.2 = 0 then (if bt438.2.2.2.2 = 0 then (if bt386.1.toList = ([4,10,0,0,1,2,0,0,0,1,0,0,0,2,0,0,0,3,1,97,0] : List UInt8) then ((ddilaw45_one.f).bind fun bt444 => (if ((bt388.1 == bt444.1 && (bt388.2.1 == bt444.2.1 && (bt388.2.2.1 == bt444.2.2.1))) && (bt388.2.2.2.1.toList == bt444.2.2.2.1.toList && (bt388.2.2.2.2.1 == bt444.2.2.2.2.1 && (bt388.2.2.2.2.2.1 == bt444.2.2.2.2.2.1 && (bt388.2.2.2.2.2.2.1 == bt444.2.2.2.2.2.2.1 && (bt388.2.2.2.2.2.2.2.1.toList == bt444.2.2.2.2.2.2.2.1.toList && (bt388.2.2.2.2.2.2.2.2.1 == bt444.2.2.2.2.2.2.2.2))))))) = true then (if (bt429.2.2.2.2.1.length : Int) = 1 then (if 0 < (bt429.2.2.2.2.1.length : Int) then ((ddilaw45_one.f).bind fun bt454 => (if ((((rd_T26 bt429.2.2.2.2.1 0).f0.f0) == bt454.1 && (((rd_T26 bt429.2.2.2.2.1 0).f0.f1) == bt454.2.1 && (((rd_T26 bt429.2.2.2.2.1 0).f0.f2) == bt454.2.2.1))) && ((((rd_T26 bt429.2.2.2.2.1 0).f1).toList) == bt454.2.2.2.1.toList && (((rd_T26 bt429.2.2.2.2.1 0).f2) == bt454.2.2.2.2.1 && (((rd_T26 bt429.2.2.2.2.1 0).f3) == bt454.2.2.2.2.2.1 && (((rd_T26 bt429.2.2.2.2.1 0).f4) == bt454.2.2.2.2.2.2.1 && ((((rd_T26 bt429.2.2.2.2.1 0).f5).toList) == bt454.2.2.2.2.2.2.2.1.toList && (((rd_T26 bt429.2.2.2.2.1 0).f6) == bt454.2.2.2.2.2.2.2.2))))))) = true then (some (bt438.1.toList == ([] : List UInt8) && (bt438.2.1 == 0 && (bt438.2.2.1 == (-1) && (!bt438.2.2.2.1))))) else (some false))) else (none)) else (some false)) else (some false))) else (some false)) else (some false)) else (some false)) else (some false)) else (some false)) else (some false)) else (some false))))))))))
theorem ddilaw45_awake.mono : ∀ k,LeO (ddilaw45_awake.f k ) (ddilaw45_awake.f (k + 1) ) := by
 intro  k
 unfold ddilaw45_awake.f
 repeat' first
   | (with_reducible exact leasefile_Compact.mono _ _)
   | (with_reducible exact leasefile_Decode.mono _ _)
   | (with_reducible exact leasefile_Encode.mono _ _ _ _ _ _ _ _ _ _)
   | (with_reducible exact leasefile_Open.mono _ _ _ _ _)
   | (with_reducible exact leasefile_Save.mono _ _ _ _ _ _ _ _ _ _ _ _ _ _)
   | (with_reducible exact LeO.refl _)
   | (with_reducible exact LeO.none _)
   | (with_reducible refine LeO.ite ?_ ?_)
   | (with_reducible refine LeO.bind ?_ (fun _ => ?_))
end Go.Proofs.YtikhpegamnnabaaDoor.QA
