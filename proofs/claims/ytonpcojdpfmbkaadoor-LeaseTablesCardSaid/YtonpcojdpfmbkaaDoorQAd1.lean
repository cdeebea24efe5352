import Derived.Test.YtonpcojdpfmbkaaDoorXB
import Derived.Test.YtonpcojdpfmbkaaDoorXR
import Derived.Test.YtonpcojdpfmbkaaDoorWMore
import Derived.Below
import Derived.Deep.Draws
import Derived.Deep.AppendLies
import Derived.Maps.AppendAt
import Derived.OwnWalk
import Derived.Laws.BytesArg
import Derived.Laws.MakeOwn
import Derived.Laws.OwnMore
import Derived.Deep.OwnRows
import Derived.Tactics
import Derived.Lib.ConvBytes
import Derived.Laws.Slices
import Derived.WalkKit
import Derived.KernelRfl
import Derived.RowKit3
import Derived.Deep.LoopGhost
import Derived.Deep.QuietTactic
import Derived.BigQuiet
import Derived.WideLaws
import Derived.Deep.DeepCutAuto
import Derived.Deep.CutBlock
import Derived.Deep.RegionHeld3
import Derived.Laws.Rows
import Derived.Lib.AppendStr
import Derived.ArgAppend
import Derived.Laws.IdiomCopy
import Derived.OrdersHeld
import Derived.Laws.BitsLemmas
import Derived.RowKit
namespace Go.Proofs.YtonpcojdpfmbkaaDoor.QA
open Go.RowKit Go.Proofs.YtonpcojdpfmbkaaDoorW.PrintWords Go.Proofs.YtonpcojdpfmbkaaDoorW.PrintLast Go.Proofs.YtonpcojdpfmbkaaDoorW.PrintMore
set_option linter.unusedVariables false
structure S29 where
 f0 : Bool
 f1 : Int
 f2 : Int
def z29 : S29 := ⟨false,(0 : Int),(0 : Int)⟩
structure S41 where
 f0 : S29
 f1 : ByteArray
 f2 : Int
 f3 : Int
 f4 : Int
 f5 : ByteArray
 f6 : Int
def z41 : S41 := ⟨z29,(⟨#[]⟩ : ByteArray),(0 : Int),(0 : Int),(0 : Int),(⟨#[]⟩ : ByteArray),(0 : Int)⟩
def rd_T41 (xs : List S41) (i : Int) : S41 := xs.getD i.toNat z41
structure S31 where
 f0 : S29
 f1 : ByteArray
 f2 : ByteArray
 f3 : Int
 f4 : Int
 f5 : Int
def z31 : S31 := ⟨z29,(⟨#[]⟩ : ByteArray),(⟨#[]⟩ : ByteArray),(0 : Int),(0 : Int),(0 : Int)⟩
structure S52 where
 f0 : Int
 f1 : S31
def z52 : S52 := ⟨(0 : Int),z31⟩
def rd_T52 (xs : List S52) (i : Int) : S52 := xs.getD i.toNat z52
def okS29 (x : S29) : Prop := True ∧ ((Lit.int .u64 x.f1).wf = true ∧ (Lit.int .u64 x.f2).wf = true)
def okS41 (x : S41) : Prop := okS29 x.f0 ∧ (x.f1.size ≤ 140737488351232 ∧ ((Lit.int .i64 x.f2).wf = true ∧ ((Lit.int .i64 x.f3).wf = true ∧ ((Lit.int .i64 x.f4).wf = true ∧ (x.f5.size ≤ 140737488351232 ∧ (Lit.int .i64 x.f6).wf = true)))))
def okS31 (x : S31) : Prop := okS29 x.f0 ∧ (x.f1.size ≤ 140737488351232 ∧ (x.f2.size ≤ 140737488351232 ∧ ((Lit.int .i64 x.f3).wf = true ∧ ((Lit.int .i64 x.f4).wf = true ∧ (Lit.int .i64 x.f5).wf = true))))
def okS52 (x : S52) : Prop := (Lit.int .u8 x.f0).wf = true ∧ okS31 x.f1
def addr_Valid.f (a0_0 : Bool) (a0_1 : Int) (a0_2 : Int) : Option (Bool) := if a0_0 = true then (some true) else (if a0_1 = 0 then (some (decide (a0_2 ≤ 4294967295))) else (some false))
def addr_number.f (a0 : Int) (a1 : Int) : Option (Int) := if a0 < a1 then (some (-1)) else (if a0 > a1 then (some 1) else (some 0))
def addr_Compare.j0 : Nat → Bool → Bool → Int → Int → Bool → Int → Int → Option (Int)
 | 0,_,_,_,_,_,_,_ => none
 | k + 1,x5,x103000,x103001,x103002,x104000,x104001,x104002 => if x5 = true then (some (-1)) else (if (x103000 != x104000) = true then (some 1) else (if x103001 = x104001 then ((addr_number.f x103002 x104002).bind fun t105 => (some t105)) else ((addr_number.f x103001 x104001).bind fun t104 => (some t104))))
def addr_Compare.f (k : Nat) (a0_0 : Bool) (a0_1 : Int) (a0_2 : Int) (a1_0 : Bool) (a1_1 : Int) (a1_2 : Int) : Option (Int) := if (a0_0 != a1_0) = true then (addr_Compare.j0 k a1_0 a0_0 a0_1 a0_2 a1_0 a1_1 a1_2) else (addr_Compare.j0 k false a0_0 a0_1 a0_2 a1_0 a1_1 a1_2)
theorem addr_Compare.mono_l : ∀ k,(∀ y0 y1 y2 y3 y4 y5 y6,LeO (addr_Compare.j0 k y0 y1 y2 y3 y4 y5 y6) (addr_Compare.j0 (k + 1) y0 y1 y2 y3 y4 y5 y6))
 | 0 => fun _ _ _ _ _ _ _ r h => by simp [addr_Compare.j0] at h
 | k + 1 => by
  have ih0 := addr_Compare.mono_l k
  ·intro y0 y1 y2 y3 y4 y5 y6
   unfold addr_Compare.j0
   repeat' first
   | (with_reducible exact ih0 _ _ _ _ _ _ _)
   | (with_reducible exact LeO.refl _)
   | (with_reducible exact LeO.none _)
   | (with_reducible refine LeO.ite ?_ ?_)
   | (with_reducible refine LeO.bind ?_ (fun _ => ?_))
theorem addr_Compare.mono : ∀ a0 a1 a2 a3 a4 a5 k,LeO (addr_Compare.f k a0 a1 a2 a3 a4 a5) (addr_Compare.f (k + 1) a0 a1 a2 a3 a4 a5) := by
 intro a0 a1 a2 a3 a4 a5 k
 have ih0 := addr_Compare.mono_l k
 unfold addr_Compare.f
 repeat' first
   | (with_reducible exact ih0 _ _ _ _ _ _ _)
   | (with_reducible exact LeO.refl _)
   | (with_reducible exact LeO.none _)
   | (with_reducible refine LeO.ite ?_ ?_)
   | (with_reducible refine LeO.bind ?_ (fun _ => ?_))
mutual
def lease_isClient.l0 : Nat → ByteArray → Int → Option (Bool)
 | 0,_,_ => none
 | k + 1,x0,x3 => if x3 < (x0.size : Int) then (if 0 ≤ x3 then (if (bt x0 x3) < 33 then (lease_isClient.j1 k x0 x3 true) else (lease_isClient.j1 k x0 x3 (decide ((bt x0 x3) > 126)))) else (none)) else (if (x0.size : Int) ≥ 1 then (some (decide ((x0.size : Int) ≤ 32))) else (some false))
def lease_isClient.j1 : Nat → ByteArray → Int → Bool → Option (Bool)
 | 0,_,_,_ => none
 | k + 1,x0,x3,x19 => if x19 = true then (some false) else (lease_isClient.l0 k x0 (wrap64 (x3 + 1)))
end
def lease_isClient.f (k : Nat) (a0 : ByteArray) : Option (Bool) := lease_isClient.l0 k a0 0
theorem lease_isClient.mono_l : ∀ k,(∀ y0 y1,LeO (lease_isClient.l0 k y0 y1) (lease_isClient.l0 (k + 1) y0 y1)) ∧ (∀ y0 y1 y2,LeO (lease_isClient.j1 k y0 y1 y2) (lease_isClient.j1 (k + 1) y0 y1 y2))
 | 0 => ⟨fun _ _ r h => by simp [lease_isClient.l0] at h,fun _ _ _ r h => by simp [lease_isClient.j1] at h⟩
 | k + 1 => by
  obtain ⟨ih0,ih1⟩ := lease_isClient.mono_l k
  refine ⟨?_,?_⟩
  ·intro y0 y1
   unfold lease_isClient.l0
   repeat' first
   | (with_reducible exact ih0 _ _)
   | (with_reducible exact ih1 _ _ _)
   | (with_reducible exact LeO.refl _)
   | (with_reducible exact LeO.none _)
   | (with_reducible refine LeO.ite ?_ ?_)
   | (with_reducible refine LeO.bind ?_ (fun _ => ?_))
  ·intro y0 y1 y2
   unfold lease_isClient.j1
   repeat' first
   | (with_reducible exact ih0 _ _)
   | (with_reducible exact ih1 _ _ _)
   | (with_reducible exact LeO.refl _)
   | (with_reducible exact LeO.none _)
   | (with_reducible refine LeO.ite ?_ ?_)
   | (with_reducible refine LeO.bind ?_ (fun _ => ?_))
theorem lease_isClient.mono : ∀ a0 k,LeO (lease_isClient.f k a0) (lease_isClient.f (k + 1) a0) := by
 intro a0 k
 obtain ⟨ih0,ih1⟩ := lease_isClient.mono_l k
 unfold lease_isClient.f
 repeat' first
   | (with_reducible exact ih0 _ _)
   | (with_reducible exact ih1 _ _ _)
   | (with_reducible exact LeO.refl _)
   | (with_reducible exact LeO.none _)
   | (with_reducible refine LeO.ite ?_ ?_)
   | (with_reducible refine LeO.bind ?_ (fun _ => ?_))
def lease_isXID.f (a0 : Int) : Option (Bool) := if a0 ≥ 0 then (some (decide (a0 < 4294967296))) else (some false)
def lease_isTime.f (a0 : Int) : Option (Bool) := if a0 ≥ 0 then (some (decide (a0 ≤ 4294967295))) else (some false)
def stringslite_HasSuffix.f (a0 : ByteArray) (a1 : ByteArray) : Option (Bool) := if (a0.size : Int) ≥ (a1.size : Int) then (if 0 ≤ (wrap64 ((a0.size : Int) - (a1.size : Int))) then (if (wrap64 ((a0.size : Int) - (a1.size : Int))) ≤ (a0.size : Int) then (some ((a0.extract ((wrap64 ((a0.size : Int) - (a1.size : Int))) : Int).toNat a0.size).toList == a1.toList)) else (none)) else (none)) else (some false)
def strings_HasSuffix.f (a0 : ByteArray) (a1 : ByteArray) : Option (Bool) := (stringslite_HasSuffix.f a0 a1).bind fun t106 => (some t106)
def strings_explode.f (a0 : ByteArray) (a1 : Int) : Option (List ByteArray) := none
def stringslite_Index.f (a0 : ByteArray) (a1 : ByteArray) : Option (Int) := if a1.size = 1 then some (XB.index a0 a1) else none
def strings_Index.f (a0 : ByteArray) (a1 : ByteArray) : Option (Int) := (stringslite_Index.f a0 a1).bind fun t109 => (some t109)
def strings_Count.f (a0 : ByteArray) (a1 : ByteArray) : Option (Int) := if a1.size = 1 then some (XB.count a0 a1) else none
mutual
def strings_genSplit.j0 : Nat → ByteArray → ByteArray → Int → Int → Option (List ByteArray)
 | 0,_,_,_,_ => none
 | k + 1,x0,x1,x2,x3 => if 0 ≤ (mn x3 (wrap64 ((x0.size : Int) + 1))) then (if (mn x3 (wrap64 ((x0.size : Int) + 1)) : Int).toNat ≤ 17592186044416 then (strings_genSplit.l0 k x0 x1 x2 (wrap64 ((mn x3 (wrap64 ((x0.size : Int) + 1))) - 1)) (List.replicate (mn x3 (wrap64 ((x0.size : Int) + 1)) : Int).toNat (⟨#[]⟩ : ByteArray)) 0) else (none)) else (none)
def strings_genSplit.l0 : Nat → ByteArray → ByteArray → Int → Int → List ByteArray → Int → Option (List ByteArray)
 | 0,_,_,_,_,_,_ => none
 | k + 1,x0,x1,x2,x3,x9,x10 => if x10 < x3 then ((strings_Index.f x0 x1).bind fun t121 => (if t121 < 0 then (if 0 ≤ x10 then (if x10 < (x9.length : Int) then (if 0 ≤ (wrap64 (x10 + 1)) then (if (wrap64 (x10 + 1)) ≤ (x9.length : Int) then (some ((x9.set (x10 : Int).toNat x0).take ((wrap64 (x10 + 1)) : Int).toNat)) else (none)) else (none)) else (none)) else (none)) else (if 0 ≤ (wrap64 (t121 + x2)) then (if (wrap64 (t121 + x2)) ≤ (x0.size : Int) then (if 0 ≤ x10 then (if x10 < (x9.length : Int) then (if 0 ≤ (wrap64 (t121 + (x1.size : Int))) then (if (wrap64 (t121 + (x1.size : Int))) ≤ (x0.size : Int) then (strings_genSplit.l0 k (x0.extract ((wrap64 (t121 + (x1.size : Int))) : Int).toNat x0.size) x1 x2 x3 (x9.set (x10 : Int).toNat (x0.extract 0 ((wrap64 (t121 + x2)) : Int).toNat)) (wrap64 (x10 + 1))) else (none)) else (none)) else (none)) else (none)) else (none)) else (none)))) else (if 0 ≤ x10 then (if x10 < (x9.length : Int) then (if 0 ≤ (wrap64 (x10 + 1)) then (if (wrap64 (x10 + 1)) ≤ (x9.length : Int) then (some ((x9.set (x10 : Int).toNat x0).take ((wrap64 (x10 + 1)) : Int).toNat)) else (none)) else (none)) else (none)) else (none))
end
def strings_genSplit.f (k : Nat) (a0 : ByteArray) (a1 : ByteArray) (a2 : Int) (a3 : Int) : Option (List ByteArray) := if a3 = 0 then (some ([] : List ByteArray)) else (if a1.toList = ([] : List UInt8) then ((strings_explode.f a0 a3).bind fun t110 => (some t110)) else (if a3 < 0 then ((strings_Count.f a0 a1).bind fun t113 => (strings_genSplit.j0 k a0 a1 a2 (wrap64 (t113 + 1)))) else (strings_genSplit.j0 k a0 a1 a2 a3)))
theorem strings_genSplit.mono_l : ∀ k,(∀ y0 y1 y2 y3,LeO (strings_genSplit.j0 k y0 y1 y2 y3) (strings_genSplit.j0 (k + 1) y0 y1 y2 y3)) ∧ (∀ y0 y1 y2 y3 y4 y5,LeO (strings_genSplit.l0 k y0 y1 y2 y3 y4 y5) (strings_genSplit.l0 (k + 1) y0 y1 y2 y3 y4 y5))
 | 0 => ⟨fun _ _ _ _ r h => by simp [strings_genSplit.j0] at h,fun _ _ _ _ _ _ r h => by simp [strings_genSplit.l0] at h⟩
 | k + 1 => by
  obtain ⟨ih0,ih1⟩ := strings_genSplit.mono_l k
  refine ⟨?_,?_⟩
  ·intro y0 y1 y2 y3
   unfold strings_genSplit.j0
   repeat' first
   | (with_reducible exact ih0 _ _ _ _)
   | (with_reducible exact ih1 _ _ _ _ _ _)
   | (with_reducible exact LeO.refl _)
   | (with_reducible exact LeO.none _)
   | (with_reducible refine LeO.ite ?_ ?_)
   | (with_reducible refine LeO.bind ?_ (fun _ => ?_))
  ·intro y0 y1 y2 y3 y4 y5
   unfold strings_genSplit.l0
   repeat' first
   | (with_reducible exact ih0 _ _ _ _)
   | (with_reducible exact ih1 _ _ _ _ _ _)
   | (with_reducible exact LeO.refl _)
   | (with_reducible exact LeO.none _)
   | (with_reducible refine LeO.ite ?_ ?_)
   | (with_reducible refine LeO.bind ?_ (fun _ => ?_))
theorem strings_genSplit.mono : ∀ a0 a1 a2 a3 k,LeO (strings_genSplit.f k a0 a1 a2 a3) (strings_genSplit.f (k + 1) a0 a1 a2 a3) := by
 intro a0 a1 a2 a3 k
 obtain ⟨ih0,ih1⟩ := strings_genSplit.mono_l k
 unfold strings_genSplit.f
 repeat' first
   | (with_reducible exact ih0 _ _ _ _)
   | (with_reducible exact ih1 _ _ _ _ _ _)
   | (with_reducible exact LeO.refl _)
   | (with_reducible exact LeO.none _)
   | (with_reducible refine LeO.ite ?_ ?_)
   | (with_reducible refine LeO.bind ?_ (fun _ => ?_))
def strings_Split.f (k : Nat) (a0 : ByteArray) (a1 : ByteArray) : Option (List ByteArray) := (strings_genSplit.f k a0 a1 0 (-1)).bind fun t127 => (some t127)
theorem strings_Split.mono : ∀ a0 a1 k,LeO (strings_Split.f k a0 a1) (strings_Split.f (k + 1) a0 a1) := by
 intro a0 a1 k
 unfold strings_Split.f
 repeat' first
   | (with_reducible exact strings_genSplit.mono _ _ _ _ _)
   | (with_reducible exact LeO.refl _)
   | (with_reducible exact LeO.none _)
   | (with_reducible refine LeO.ite ?_ ?_)
   | (with_reducible refine LeO.bind ?_ (fun _ => ?_))
mutual
def dname_ordinary.j0 : Nat → ByteArray → Bool → Option (Bool)
 | 0,_,_ => none
 | k + 1,x0,x11 => if x11 = true then (some false) else (dname_ordinary.l0 k x0 (x0.size : Int) 0)
def dname_ordinary.l0 : Nat → ByteArray → Int → Int → Option (Bool)
 | 0,_,_,_ => none
 | k + 1,x0,x13,x14 => if x14 < x13 then (if 0 ≤ x14 then (if x14 < (x0.size : Int) then (if (bt x0 x14) < 97 then (if (bt x0 x14) < 48 then (if (bt x0 x14) = 45 then (dname_ordinary.j2 k x0 x13 x14 false) else (dname_ordinary.j2 k x0 x13 x14 ((bt x0 x14) != 95))) else (if (bt x0 x14) > 57 then (if (bt x0 x14) = 45 then (dname_ordinary.j2 k x0 x13 x14 false) else (dname_ordinary.j2 k x0 x13 x14 ((bt x0 x14) != 95))) else (dname_ordinary.j2 k x0 x13 x14 false))) else (if (bt x0 x14) > 122 then (if (bt x0 x14) < 48 then (if (bt x0 x14) = 45 then (dname_ordinary.j2 k x0 x13 x14 false) else (dname_ordinary.j2 k x0 x13 x14 ((bt x0 x14) != 95))) else (if (bt x0 x14) > 57 then (if (bt x0 x14) = 45 then (dname_ordinary.j2 k x0 x13 x14 false) else (dname_ordinary.j2 k x0 x13 x14 ((bt x0 x14) != 95))) else (dname_ordinary.j2 k x0 x13 x14 false))) else (dname_ordinary.j2 k x0 x13 x14 false))) else (none)) else (none)) else (some true)
def dname_ordinary.j2 : Nat → ByteArray → Int → Int → Bool → Option (Bool)
 | 0,_,_,_,_ => none
 | k + 1,x0,x13,x14,x41 => if x41 = true then (some false) else (dname_ordinary.l0 k x0 x13 (wrap64 (x14 + 1)))
end
def dname_ordinary.f (k : Nat) (a0 : ByteArray) : Option (Bool) := if a0.toList = ([] : List UInt8) then (dname_ordinary.j0 k a0 true) else (dname_ordinary.j0 k a0 (decide ((a0.size : Int) > 63)))
theorem dname_ordinary.mono_l : ∀ k,(∀ y0 y1,LeO (dname_ordinary.j0 k y0 y1) (dname_ordinary.j0 (k + 1) y0 y1)) ∧ (∀ y0 y1 y2,LeO (dname_ordinary.l0 k y0 y1 y2) (dname_ordinary.l0 (k + 1) y0 y1 y2)) ∧ (∀ y0 y1 y2 y3,LeO (dname_ordinary.j2 k y0 y1 y2 y3) (dname_ordinary.j2 (k + 1) y0 y1 y2 y3))
 | 0 => ⟨fun _ _ r h => by simp [dname_ordinary.j0] at h,fun _ _ _ r h => by simp [dname_ordinary.l0] at h,fun _ _ _ _ r h => by simp [dname_ordinary.j2] at h⟩
 | k + 1 => by
  obtain ⟨ih0,ih1,ih2⟩ := dname_ordinary.mono_l k
  refine ⟨?_,?_,?_⟩
  ·intro y0 y1
   unfold dname_ordinary.j0
   repeat' first
   | (with_reducible exact ih0 _ _)
   | (with_reducible exact ih1 _ _ _)
   | (with_reducible exact ih2 _ _ _ _)
   | (with_reducible exact LeO.refl _)
   | (with_reducible exact LeO.none _)
   | (with_reducible refine LeO.ite ?_ ?_)
   | (with_reducible refine LeO.bind ?_ (fun _ => ?_))
  ·intro y0 y1 y2
   unfold dname_ordinary.l0
   repeat' first
   | (with_reducible exact ih0 _ _)
   | (with_reducible exact ih1 _ _ _)
   | (with_reducible exact ih2 _ _ _ _)
   | (with_reducible exact LeO.refl _)
   | (with_reducible exact LeO.none _)
   | (with_reducible refine LeO.ite ?_ ?_)
   | (with_reducible refine LeO.bind ?_ (fun _ => ?_))
  ·intro y0 y1 y2 y3
   unfold dname_ordinary.j2
   repeat' first
   | (with_reducible exact ih0 _ _)
   | (with_reducible exact ih1 _ _ _)
   | (with_reducible exact ih2 _ _ _ _)
   | (with_reducible exact LeO.refl _)
   | (with_reducible exact LeO.none _)
   | (with_reducible refine LeO.ite ?_ ?_)
   | (with_reducible refine LeO.bind ?_ (fun _ => ?_))
theorem dname_ordinary.mono : ∀ a0 k,LeO (dname_ordinary.f k a0) (dname_ordinary.f (k + 1) a0) := by
 intro a0 k
 obtain ⟨ih0,ih1,ih2⟩ := dname_ordinary.mono_l k
 unfold dname_ordinary.f
 repeat' first
   | (with_reducible exact ih0 _ _)
   | (with_reducible exact ih1 _ _ _)
   | (with_reducible exact ih2 _ _ _ _)
   | (with_reducible exact LeO.refl _)
   | (with_reducible exact LeO.none _)
   | (with_reducible refine LeO.ite ?_ ?_)
   | (with_reducible refine LeO.bind ?_ (fun _ => ?_))
mutual
def dname_Valid.j0 : Nat → ByteArray → Bool → Option (Bool)
 | 0,_,_ => none
 | k + 1,x0,x14 => if x14 = true then (some false) else (if 0 ≤ (wrap64 ((x0.size : Int) - 1)) then (if (wrap64 ((x0.size : Int) - 1)) ≤ (x0.size : Int) then ((strings_Split.f k (x0.extract 0 ((wrap64 ((x0.size : Int) - 1)) : Int).toNat) (⟨#[46]⟩ : ByteArray)).bind fun t131 => (dname_Valid.l0 k t131 (t131.length : Int) 0)) else (none)) else (none))
def dname_Valid.l0 : Nat → List ByteArray → Int → Int → Option (Bool)
 | 0,_,_,_ => none
 | k + 1,x20,x21,x22 => if x22 < x21 then (if 0 ≤ x22 then (if x22 < (x20.length : Int) then ((dname_ordinary.f k (rdOf ByteArray.empty x20 x22)).bind fun t135 => (if t135 = true then (dname_Valid.j2 k x20 x21 x22 false) else (if x22 > 0 then (dname_Valid.j2 k x20 x21 x22 true) else (dname_Valid.j2 k x20 x21 x22 ((rdOf ByteArray.empty x20 x22).toList != ([42] : List UInt8)))))) else (none)) else (none)) else (some true)
def dname_Valid.j2 : Nat → List ByteArray → Int → Int → Bool → Option (Bool)
 | 0,_,_,_,_ => none
 | k + 1,x20,x21,x22,x37 => if x37 = true then (some false) else (dname_Valid.l0 k x20 x21 (wrap64 (x22 + 1)))
end
def dname_Valid.f (k : Nat) (a0 : ByteArray) : Option (Bool) := if a0.toList = ([46] : List UInt8) then (some true) else (if (a0.size : Int) ≥ 255 then (dname_Valid.j0 k a0 true) else ((strings_HasSuffix.f a0 (⟨#[46]⟩ : ByteArray)).bind fun t130 => (dname_Valid.j0 k a0 (!t130))))
theorem dname_Valid.mono_l : ∀ k,(∀ y0 y1,LeO (dname_Valid.j0 k y0 y1) (dname_Valid.j0 (k + 1) y0 y1)) ∧ (∀ y0 y1 y2,LeO (dname_Valid.l0 k y0 y1 y2) (dname_Valid.l0 (k + 1) y0 y1 y2)) ∧ (∀ y0 y1 y2 y3,LeO (dname_Valid.j2 k y0 y1 y2 y3) (dname_Valid.j2 (k + 1) y0 y1 y2 y3))
 | 0 => ⟨fun _ _ r h => by simp [dname_Valid.j0] at h,fun _ _ _ r h => by simp [dname_Valid.l0] at h,fun _ _ _ _ r h => by simp [dname_Valid.j2] at h⟩
 | k + 1 => by
  obtain ⟨ih0,ih1,ih2⟩ := dname_Valid.mono_l k
  refine ⟨?_,?_,?_⟩
  ·intro y0 y1
   unfold dname_Valid.j0
   repeat' first
   | (with_reducible exact ih0 _ _)
   | (with_reducible exact ih1 _ _ _)
   | (with_reducible exact ih2 _ _ _ _)
   | (with_reducible exact dname_ordinary.mono _ _)
   | (with_reducible exact strings_Split.mono _ _ _)
   | (with_reducible exact LeO.refl _)
   | (with_reducible exact LeO.none _)
   | (with_reducible refine LeO.ite ?_ ?_)
   | (with_reducible refine LeO.bind ?_ (fun _ => ?_))
  ·intro y0 y1 y2
   unfold dname_Valid.l0
   repeat' first
   | (with_reducible exact ih0 _ _)
   | (with_reducible exact ih1 _ _ _)
   | (with_reducible exact ih2 _ _ _ _)
   | (with_reducible exact dname_ordinary.mono _ _)
   | (with_reducible exact strings_Split.mono _ _ _)
   | (with_reducible exact LeO.refl _)
   | (with_reducible exact LeO.none _)
   | (with_reducible refine LeO.ite ?_ ?_)
   | (with_reducible refine LeO.bind ?_ (fun _ => ?_))
  ·intro y0 y1 y2 y3
   unfold dname_Valid.j2
   repeat' first
   | (with_reducible exact ih0 _ _)
   | (with_reducible exact ih1 _ _ _)
   | (with_reducible exact ih2 _ _ _ _)
   | (with_reducible exact dname_ordinary.mono _ _)
   | (with_reducible exact strings_Split.mono _ _ _)
   | (with_reducible exact LeO.refl _)
   | (with_reducible exact LeO.none _)
   | (with_reducible refine LeO.ite ?_ ?_)
   | (with_reducible refine LeO.bind ?_ (fun _ => ?_))
theorem dname_Valid.mono : ∀ a0 k,LeO (dname_Valid.f k a0) (dname_Valid.f (k + 1) a0) := by
 intro a0 k
 obtain ⟨ih0,ih1,ih2⟩ := dname_Valid.mono_l k
 unfold dname_Valid.f
 repeat' first
   | (with_reducible exact ih0 _ _)
   | (with_reducible exact ih1 _ _ _)
   | (with_reducible exact ih2 _ _ _ _)
   | (with_reducible exact dname_ordinary.mono _ _)
   | (with_reducible exact strings_Split.mono _ _ _)
   | (with_reducible exact LeO.refl _)
   | (with_reducible exact LeO.none _)
   | (with_reducible refine LeO.ite ?_ ?_)
   | (with_reducible refine LeO.bind ?_ (fun _ => ?_))
def lease_isHost.f (k : Nat) (a0 : ByteArray) : Option (Bool) := if a0.toList = ([] : List UInt8) then (some true) else ((dname_Valid.f k a0).bind fun t136 => (some t136))
theorem lease_isHost.mono : ∀ a0 k,LeO (lease_isHost.f k a0) (lease_isHost.f (k + 1) a0) := by
 intro a0 k
 unfold lease_isHost.f
 repeat' first
   | (with_reducible exact dname_Valid.mono _ _)
   | (with_reducible exact LeO.refl _)
   | (with_reducible exact LeO.none _)
   | (with_reducible refine LeO.ite ?_ ?_)
   | (with_reducible refine LeO.bind ?_ (fun _ => ?_))
mutual
def lease_Check.l0 : Nat → List (S41) → List (S41) → Int → Int → Option (Int)
 | 0,_,_,_,_ => none
 | k + 1,x0,x8,x9,x10 => if x10 < x9 then (if 0 ≤ x10 then (if x10 < (x8.length : Int) then ((addr_Valid.f ((rd_T41 x8 x10).f0.f0) ((rd_T41 x8 x10).f0.f1) ((rd_T41 x8 x10).f0.f2)).bind fun t139 => (if t139 = true then (if x10 > 0 then (if 0 ≤ (wrap64 (x10 - 1)) then (if (wrap64 (x10 - 1)) < (x0.length : Int) then ((addr_Compare.f k ((rd_T41 x0 (wrap64 (x10 - 1))).f0.f0) ((rd_T41 x0 (wrap64 (x10 - 1))).f0.f1) ((rd_T41 x0 (wrap64 (x10 - 1))).f0.f2) ((rd_T41 x8 x10).f0.f0) ((rd_T41 x8 x10).f0.f1) ((rd_T41 x8 x10).f0.f2)).bind fun t141 => (lease_Check.j1 k x0 x8 x9 x10 (decide (t141 ≥ 0)) ((rd_T41 x8 x10).f0.f0) ((rd_T41 x8 x10).f0.f1) ((rd_T41 x8 x10).f0.f2) ((rd_T41 x8 x10).f1) ((rd_T41 x8 x10).f2) ((rd_T41 x8 x10).f3) ((rd_T41 x8 x10).f4) ((rd_T41 x8 x10).f5) ((rd_T41 x8 x10).f6))) else (none)) else (none)) else (lease_Check.j1 k x0 x8 x9 x10 false ((rd_T41 x8 x10).f0.f0) ((rd_T41 x8 x10).f0.f1) ((rd_T41 x8 x10).f0.f2) ((rd_T41 x8 x10).f1) ((rd_T41 x8 x10).f2) ((rd_T41 x8 x10).f3) ((rd_T41 x8 x10).f4) ((rd_T41 x8 x10).f5) ((rd_T41 x8 x10).f6))) else (some 3))) else (none)) else (none)) else (some 0)
def lease_Check.j1 : Nat → List (S41) → List (S41) → Int → Int → Bool → Bool → Int → Int → ByteArray → Int → Int → Int → ByteArray → Int → Option (Int)
 | 0,_,_,_,_,_,_,_,_,_,_,_,_,_,_ => none
 | k + 1,x0,x8,x9,x10,x20,x139000,x139001,x139002,x139003,x139004,x139005,x139006,x139007,x139008 => if x20 = true then (some 7) else (if x139004 < 1 then (lease_Check.j2 k x0 x8 x9 x10 true x139000 x139001 x139002 x139003 x139004 x139005 x139006 x139007 x139008) else (if x139004 > 5 then (lease_Check.j2 k x0 x8 x9 x10 true x139000 x139001 x139002 x139003 x139004 x139005 x139006 x139007 x139008) else ((lease_isClient.f k x139003).bind fun t142 => (if t142 = true then ((lease_isXID.f x139008).bind fun t143 => (lease_Check.j2 k x0 x8 x9 x10 (!t143) x139000 x139001 x139002 x139003 x139004 x139005 x139006 x139007 x139008)) else (lease_Check.j2 k x0 x8 x9 x10 true x139000 x139001 x139002 x139003 x139004 x139005 x139006 x139007 x139008)))))
def lease_Check.j2 : Nat → List (S41) → List (S41) → Int → Int → Bool → Bool → Int → Int → ByteArray → Int → Int → Int → ByteArray → Int → Option (Int)
 | 0,_,_,_,_,_,_,_,_,_,_,_,_,_,_ => none
 | k + 1,x0,x8,x9,x10,x35,x139000,x139001,x139002,x139003,x139004,x139005,x139006,x139007,x139008 => if x35 = true then (some 1) else ((lease_isTime.f x139005).bind fun t144 => (if t144 = true then ((lease_isTime.f x139006).bind fun t145 => (if t145 = true then (lease_Check.j3 k x0 x8 x9 x10 (decide (x139005 > x139006)) x139000 x139001 x139002 x139003 x139004 x139005 x139006 x139007 x139008) else (lease_Check.j3 k x0 x8 x9 x10 true x139000 x139001 x139002 x139003 x139004 x139005 x139006 x139007 x139008))) else (lease_Check.j3 k x0 x8 x9 x10 true x139000 x139001 x139002 x139003 x139004 x139005 x139006 x139007 x139008)))
def lease_Check.j3 : Nat → List (S41) → List (S41) → Int → Int → Bool → Bool → Int → Int → ByteArray → Int → Int → Int → ByteArray → Int → Option (Int)
 | 0,_,_,_,_,_,_,_,_,_,_,_,_,_,_ => none
 | k + 1,x0,x8,x9,x10,x56,x139000,x139001,x139002,x139003,x139004,x139005,x139006,x139007,x139008 => if x56 = true then (some 1) else ((lease_isHost.f k x139007).bind fun t146 => (if t146 = true then (lease_Check.l0 k x0 x8 x9 (wrap64 (x10 + 1))) else (some 2)))
end
def lease_Check.f (k : Nat) (l0 : List (S41)) : Option (Int) := if (l0.length : Int) > 512 then (some 9) else (lease_Check.l0 k l0 l0 (l0.length : Int) 0)
theorem lease_Check.mono_l : ∀ k,(∀ y0 y1 y2 y3,LeO (lease_Check.l0 k y0 y1 y2 y3) (lease_Check.l0 (k + 1) y0 y1 y2 y3)) ∧ (∀ y0 y1 y2 y3 y4 y5 y6 y7 y8 y9 y10 y11 y12 y13,LeO (lease_Check.j1 k y0 y1 y2 y3 y4 y5 y6 y7 y8 y9 y10 y11 y12 y13) (lease_Check.j1 (k + 1) y0 y1 y2 y3 y4 y5 y6 y7 y8 y9 y10 y11 y12 y13)) ∧ (∀ y0 y1 y2 y3 y4 y5 y6 y7 y8 y9 y10 y11 y12 y13,LeO (lease_Check.j2 k y0 y1 y2 y3 y4 y5 y6 y7 y8 y9 y10 y11 y12 y13) (lease_Check.j2 (k + 1) y0 y1 y2 y3 y4 y5 y6 y7 y8 y9 y10 y11 y12 y13)) ∧ (∀ y0 y1 y2 y3 y4 y5 y6 y7 y8 y9 y10 y11 y12 y13,LeO (lease_Check.j3 k y0 y1 y2 y3 y4 y5 y6 y7 y8 y9 y10 y11 y12 y13) (lease_Check.j3 (k + 1) y0 y1 y2 y3 y4 y5 y6 y7 y8 y9 y10 y11 y12 y13))
 | 0 => ⟨fun _ _ _ _ r h => by simp [lease_Check.l0] at h,fun _ _ _ _ _ _ _ _ _ _ _ _ _ _ r h => by simp [lease_Check.j1] at h,fun _ _ _ _ _ _ _ _ _ _ _ _ _ _ r h => by simp [lease_Check.j2] at h,fun _ _ _ _ _ _ _ _ _ _ _ _ _ _ r h => by simp [lease_Check.j3] at h⟩
 | k + 1 => by
  obtain ⟨ih0,ih1,ih2,ih3⟩ := lease_Check.mono_l k
  refine ⟨?_,?_,?_,?_⟩
  ·intro y0 y1 y2 y3
   unfold lease_Check.l0
   repeat' first
   | (with_reducible exact ih0 _ _ _ _)
   | (with_reducible exact ih1 _ _ _ _ _ _ _ _ _ _ _ _ _ _)
   | (with_reducible exact ih2 _ _ _ _ _ _ _ _ _ _ _ _ _ _)
   | (with_reducible exact ih3 _ _ _ _ _ _ _ _ _ _ _ _ _ _)
   | (with_reducible exact addr_Compare.mono _ _ _ _ _ _ _)
   | (with_reducible exact lease_isClient.mono _ _)
   | (with_reducible exact lease_isHost.mono _ _)
   | (with_reducible exact LeO.refl _)
   | (with_reducible exact LeO.none _)
   | (with_reducible refine LeO.ite ?_ ?_)
   | (with_reducible refine LeO.bind ?_ (fun _ => ?_))
  ·intro y0 y1 y2 y3 y4 y5 y6 y7 y8 y9 y10 y11 y12 y13
   unfold lease_Check.j1
   repeat' first
   | (with_reducible exact ih0 _ _ _ _)
   | (with_reducible exact ih1 _ _ _ _ _ _ _ _ _ _ _ _ _ _)
   | (with_reducible exact ih2 _ _ _ _ _ _ _ _ _ _ _ _ _ _)
   | (with_reducible exact ih3 _ _ _ _ _ _ _ _ _ _ _ _ _ _)
   | (with_reducible exact addr_Compare.mono _ _ _ _ _ _ _)
   | (with_reducible exact lease_isClient.mono _ _)
   | (with_reducible exact lease_isHost.mono _ _)
   | (with_reducible exact LeO.refl _)
   | (with_reducible exact LeO.none _)
   | (with_reducible refine LeO.ite ?_ ?_)
   | (with_reducible refine LeO.bind ?_ (fun _ => ?_))
  ·intro y0 y1 y2 y3 y4 y5 y6 y7 y8 y9 y10 y11 y12 y13
   unfold lease_Check.j2
   repeat' first
   | (with_reducible exact ih0 _ _ _ _)
   | (with_reducible exact ih1 _ _ _ _ _ _ _ _ _ _ _ _ _ _)
   | (with_reducible exact ih2 _ _ _ _ _ _ _ _ _ _ _ _ _ _)
   | (with_reducible exact ih3 _ _ _ _ _ _ _ _ _ _ _ _ _ _)
   | (with_reducible exact addr_Compare.mono _ _ _ _ _ _ _)
   | (with_reducible exact lease_isClient.mono _ _)
   | (with_reducible exact lease_isHost.mono _ _)
   | (with_reducible exact LeO.refl _)
   | (with_reducible exact LeO.none _)
   | (with_reducible refine LeO.ite ?_ ?_)
   | (with_reducible refine LeO.bind ?_ (fun _ => ?_))
  ·intro y0 y1 y2 y3 y4 y5 y6 y7 y8 y9 y10 y11 y12 y13
   unfold lease_Check.j3
   repeat' first
   | (with_reducible exact ih0 _ _ _ _)
   | (with_reducible exact ih1 _ _ _ _ _ _ _ _ _ _ _ _ _ _)
   | (with_reducible exact ih2 _ _ _ _ _ _ _ _ _ _ _ _ _ _)
   | (with_reducible exact ih3 _ _ _ _ _ _ _ _ _ _ _ _ _ _)
   | (with_reducible exact addr_Compare.mono _ _ _ _ _ _ _)
   | (with_reducible exact lease_isClient.mono _ _)
   | (with_reducible exact lease_isHost.mono _ _)
   | (with_reducible exact LeO.refl _)
   | (with_reducible exact LeO.none _)
   | (with_reducible refine LeO.ite ?_ ?_)
   | (with_reducible refine LeO.bind ?_ (fun _ => ?_))
theorem lease_Check.mono : ∀ a0 k,LeO (lease_Check.f k a0) (lease_Check.f (k + 1) a0) := by
 intro a0 k
 obtain ⟨ih0,ih1,ih2,ih3⟩ := lease_Check.mono_l k
 unfold lease_Check.f
 repeat' first
   | (with_reducible exact ih0 _ _ _ _)
   | (with_reducible exact ih1 _ _ _ _ _ _ _ _ _ _ _ _ _ _)
   | (with_reducible exact ih2 _ _ _ _ _ _ _ _ _ _ _ _ _ _)
   | (with_reducible exact ih3 _ _ _ _ _ _ _ _ _ _ _ _ _ _)
   | (with_reducible exact addr_Compare.mono _ _ _ _ _ _ _)
   | (with_reducible exact lease_isClient.mono _ _)
   | (with_reducible exact lease_isHost.mono _ _)
   | (with_reducible exact LeO.refl _)
   | (with_reducible exact LeO.none _)
   | (with_reducible refine LeO.ite ?_ ?_)
   | (with_reducible refine LeO.bind ?_ (fun _ => ?_))
def lease_place_1.f (k : Nat) (a0_0 : Bool) (a0_1 : Int) (a0_2 : Int) (a0_3 : ByteArray) (a0_4 : Int) (a0_5 : Int) (a0_6 : Int) (a0_7 : ByteArray) (a0_8 : Int) (a1_0 : Bool) (a1_1 : Int) (a1_2 : Int) : Option (Int) := (addr_Compare.f k a0_0 a0_1 a0_2 a1_0 a1_1 a1_2).bind fun t174 => (some t174)
theorem lease_place_1.mono : ∀ a0 a1 a2 a3 a4 a5 a6 a7 a8 a9 a10 a11 k,LeO (lease_place_1.f k a0 a1 a2 a3 a4 a5 a6 a7 a8 a9 a10 a11) (lease_place_1.f (k + 1) a0 a1 a2 a3 a4 a5 a6 a7 a8 a9 a10 a11) := by
 intro a0 a1 a2 a3 a4 a5 a6 a7 a8 a9 a10 a11 k
 unfold lease_place_1.f
 repeat' first
   | (with_reducible exact addr_Compare.mono _ _ _ _ _ _ _)
   | (with_reducible exact LeO.refl _)
   | (with_reducible exact LeO.none _)
   | (with_reducible refine LeO.ite ?_ ?_)
   | (with_reducible refine LeO.bind ?_ (fun _ => ?_))
def slices_BinarySearchFunc_69.l0 : Nat → List (S41) → Int → Int → Int → Bool → Int → Int → Option (Int × Bool)
 | 0,_,_,_,_,_,_,_ => none
 | k + 1,x0,x8,x9,x10,x176000,x176001,x176002 => if x9 < x10 then (if 0 ≤ (wrap64 ((IntKind.u64.wrap (wrap64 (x9 + x10))) / 2)) then (if (wrap64 ((IntKind.u64.wrap (wrap64 (x9 + x10))) / 2)) < (x0.length : Int) then ((lease_place_1.f k ((rd_T41 x0 (wrap64 ((IntKind.u64.wrap (wrap64 (x9 + x10))) / 2))).f0.f0) ((rd_T41 x0 (wrap64 ((IntKind.u64.wrap (wrap64 (x9 + x10))) / 2))).f0.f1) ((rd_T41 x0 (wrap64 ((IntKind.u64.wrap (wrap64 (x9 + x10))) / 2))).f0.f2) ((rd_T41 x0 (wrap64 ((IntKind.u64.wrap (wrap64 (x9 + x10))) / 2))).f1) ((rd_T41 x0 (wrap64 ((IntKind.u64.wrap (wrap64 (x9 + x10))) / 2))).f2) ((rd_T41 x0 (wrap64 ((IntKind.u64.wrap (wrap64 (x9 + x10))) / 2))).f3) ((rd_T41 x0 (wrap64 ((IntKind.u64.wrap (wrap64 (x9 + x10))) / 2))).f4) ((rd_T41 x0 (wrap64 ((IntKind.u64.wrap (wrap64 (x9 + x10))) / 2))).f5) ((rd_T41 x0 (wrap64 ((IntKind.u64.wrap (wrap64 (x9 + x10))) / 2))).f6) x176000 x176001 x176002).bind fun t177 => (if t177 < 0 then (slices_BinarySearchFunc_69.l0 k x0 x8 (wrap64 ((wrap64 ((IntKind.u64.wrap (wrap64 (x9 + x10))) / 2)) + 1)) x10 x176000 x176001 x176002) else (slices_BinarySearchFunc_69.l0 k x0 x8 x9 (wrap64 ((IntKind.u64.wrap (wrap64 (x9 + x10))) / 2)) x176000 x176001 x176002))) else (none)) else (none)) else (if x9 < x8 then (if 0 ≤ x9 then (if x9 < (x0.length : Int) then ((lease_place_1.f k ((rd_T41 x0 x9).f0.f0) ((rd_T41 x0 x9).f0.f1) ((rd_T41 x0 x9).f0.f2) ((rd_T41 x0 x9).f1) ((rd_T41 x0 x9).f2) ((rd_T41 x0 x9).f3) ((rd_T41 x0 x9).f4) ((rd_T41 x0 x9).f5) ((rd_T41 x0 x9).f6) x176000 x176001 x176002).bind fun t179 => (some (x9,(t179 == 0)))) else (none)) else (none)) else (some (x9,false)))
def slices_BinarySearchFunc_69.f (k : Nat) (l0 : List (S41)) (a1_0 : Bool) (a1_1 : Int) (a1_2 : Int)  : Option (Int × Bool) := slices_BinarySearchFunc_69.l0 k l0 (l0.length : Int) 0 (l0.length : Int) a1_0 a1_1 a1_2
theorem slices_BinarySearchFunc_69.mono_l : ∀ k,(∀ y0 y1 y2 y3 y4 y5 y6,LeO (slices_BinarySearchFunc_69.l0 k y0 y1 y2 y3 y4 y5 y6) (slices_BinarySearchFunc_69.l0 (k + 1) y0 y1 y2 y3 y4 y5 y6))
 | 0 => fun _ _ _ _ _ _ _ r h => by simp [slices_BinarySearchFunc_69.l0] at h
 | k + 1 => by
  have ih0 := slices_BinarySearchFunc_69.mono_l k
  ·intro y0 y1 y2 y3 y4 y5 y6
   unfold slices_BinarySearchFunc_69.l0
   repeat' first
   | (with_reducible exact ih0 _ _ _ _ _ _ _)
   | (with_reducible exact lease_place_1.mono _ _ _ _ _ _ _ _ _ _ _ _ _)
   | (with_reducible exact LeO.refl _)
   | (with_reducible exact LeO.none _)
   | (with_reducible refine LeO.ite ?_ ?_)
   | (with_reducible refine LeO.bind ?_ (fun _ => ?_))
theorem slices_BinarySearchFunc_69.mono : ∀ a0 a1 a2 a3 k,LeO (slices_BinarySearchFunc_69.f k a0 a1 a2 a3) (slices_BinarySearchFunc_69.f (k + 1) a0 a1 a2 a3) := by
 intro a0 a1 a2 a3 k
 have ih0 := slices_BinarySearchFunc_69.mono_l k
 unfold slices_BinarySearchFunc_69.f
 repeat' first
   | (with_reducible exact ih0 _ _ _ _ _ _ _)
   | (with_reducible exact lease_place_1.mono _ _ _ _ _ _ _ _ _ _ _ _ _)
   | (with_reducible exact LeO.refl _)
   | (with_reducible exact LeO.none _)
   | (with_reducible refine LeO.ite ?_ ?_)
   | (with_reducible refine LeO.bind ?_ (fun _ => ?_))
def lease_place.f (k : Nat) (l0 : List (S41)) (a1_0 : Bool) (a1_1 : Int) (a1_2 : Int) : Option (Int × Bool) := (slices_BinarySearchFunc_69.f k l0 a1_0 a1_1 a1_2).bind fun bt181 => (some (bt181.1,bt181.2))
theorem lease_place.mono : ∀ a0 a1 a2 a3 k,LeO (lease_place.f k a0 a1 a2 a3) (lease_place.f (k + 1) a0 a1 a2 a3) := by
 intro a0 a1 a2 a3 k
 unfold lease_place.f
 repeat' first
   | (with_reducible exact slices_BinarySearchFunc_69.mono _ _ _ _ _)
   | (with_reducible exact LeO.refl _)
   | (with_reducible exact LeO.none _)
   | (with_reducible refine LeO.ite ?_ ?_)
   | (with_reducible refine LeO.bind ?_ (fun _ => ?_))
def lease_Find.f (k : Nat) (l0 : List (S41)) (a1_0 : Bool) (a1_1 : Int) (a1_2 : Int) : Option (Bool × Int × Int × ByteArray × Int × Int × Int × ByteArray × Int × Bool) := (lease_place.f k l0 a1_0 a1_1 a1_2).bind fun bt185 => (if bt185.2 = true then (if 0 ≤ bt185.1 then (if bt185.1 < (l0.length : Int) then (some ((rd_T41 l0 bt185.1).f0.f0,(rd_T41 l0 bt185.1).f0.f1,(rd_T41 l0 bt185.1).f0.f2,(rd_T41 l0 bt185.1).f1,(rd_T41 l0 bt185.1).f2,(rd_T41 l0 bt185.1).f3,(rd_T41 l0 bt185.1).f4,(rd_T41 l0 bt185.1).f5,(rd_T41 l0 bt185.1).f6,true)) else (none)) else (none)) else (some (false,0,0,(⟨#[]⟩ : ByteArray),0,0,0,(⟨#[]⟩ : ByteArray),0,false)))
theorem lease_Find.mono : ∀ a0 a1 a2 a3 k,LeO (lease_Find.f k a0 a1 a2 a3) (lease_Find.f (k + 1) a0 a1 a2 a3) := by
 intro a0 a1 a2 a3 k
 unfold lease_Find.f
 repeat' first
   | (with_reducible exact lease_place.mono _ _ _ _ _)
   | (with_reducible exact LeO.refl _)
   | (with_reducible exact LeO.none _)
   | (with_reducible refine LeO.ite ?_ ?_)
   | (with_reducible refine LeO.bind ?_ (fun _ => ?_))
def lease_inForce.f (a0_0 : Bool) (a0_1 : Int) (a0_2 : Int) (a0_3 : ByteArray) (a0_4 : Int) (a0_5 : Int) (a0_6 : Int) (a0_7 : ByteArray) (a0_8 : Int) (a1 : Int) : Option (Bool) := if a1 < a0_6 then (if a0_4 = 1 then (some true) else (if a0_4 = 2 then (some true) else (some (a0_4 == 5)))) else (some false)
def lease_free.f (a0_0 : Bool) (a0_1 : Int) (a0_2 : Int) (a0_3 : ByteArray) (a0_4 : Int) (a0_5 : Int) (a0_6 : Int) (a0_7 : ByteArray) (a0_8 : Int) (a1 : ByteArray) (a2 : Int) : Option (Bool) := (lease_inForce.f a0_0 a0_1 a0_2 a0_3 a0_4 a0_5 a0_6 a0_7 a0_8 a2).bind fun t190 => (if t190 = true then (if a0_4 = 5 then (some false) else (some (a0_3.toList == a1.toList))) else (some true))
def lease_Free.f (k : Nat) (l0 : List (S41)) (a1_0 : Bool) (a1_1 : Int) (a1_2 : Int) (a2 : ByteArray) (a3 : Int) : Option (Bool) := (lease_Find.f k l0 a1_0 a1_1 a1_2).bind fun bt192 => (if bt192.2.2.2.2.2.2.2.2.2 = true then ((lease_free.f bt192.1 bt192.2.1 bt192.2.2.1 bt192.2.2.2.1 bt192.2.2.2.2.1 bt192.2.2.2.2.2.1 bt192.2.2.2.2.2.2.1 bt192.2.2.2.2.2.2.2.1 bt192.2.2.2.2.2.2.2.2.1 a2 a3).bind fun t203 => (some t203)) else (some true))
theorem lease_Free.mono : ∀ a0 a1 a2 a3 a4 a5 k,LeO (lease_Free.f k a0 a1 a2 a3 a4 a5) (lease_Free.f (k + 1) a0 a1 a2 a3 a4 a5) := by
 intro a0 a1 a2 a3 a4 a5 k
 unfold lease_Free.f
 repeat' first
   | (with_reducible exact lease_Find.mono _ _ _ _ _)
   | (with_reducible exact LeO.refl _)
   | (with_reducible exact LeO.none _)
   | (with_reducible refine LeO.ite ?_ ?_)
   | (with_reducible refine LeO.bind ?_ (fun _ => ?_))
def slices_Clone.f (l0 : List (S41)) : Option (List (S41)) := if l0.length * 88 ≤ 140737488355328 then some l0 else none
def lease_after.f (a0 : Int) (a1 : Int) : Option (Int) := if a1 ≥ (wrap64 (4294967295 - a0)) then (some 4294967295) else (some (wrap64 (a0 + a1)))
def lease_set_1.f (a0_0 : Bool) (a0_1 : Int) (a0_2 : Int) (a0_3 : ByteArray) (a0_4 : Int) (a0_5 : Int) (a0_6 : Int) (a0_7 : ByteArray) (a0_8 : Int) (a1_0 : Int) : Option (Bool) := (lease_inForce.f a0_0 a0_1 a0_2 a0_3 a0_4 a0_5 a0_6 a0_7 a0_8 a1_0).bind fun t205 => (some (!t205))
def slices_Delete.f (l0 : List (S41)) (a1 a2 : Int) : Option (List (S41)) :=
 if 0 ≤ a1 then (if a1 ≤ a2 then (if a2 ≤ (l0.length : Int) then some (l0.take a1.toNat ++ l0.drop a2.toNat) else none) else none) else none
def slices_Insert.f (l0 : List (S41)) (a1 : Int) (l2 : List (S41)) : Option (List (S41)) :=
 if 0 ≤ a1 then (if a1 ≤ (l0.length : Int) then (if (l0.length + l2.length) * 88 ≤ 140737488355328 then some (l0.take a1.toNat ++ l2 ++ l0.drop a1.toNat) else none) else none) else none
def slices_IndexFunc_63.l0 : Nat → List (S41) → Int → Int → Int → Option (Int)
 | 0,_,_,_,_ => none
 | k + 1,x0,x7,x8,x700101000 => if x8 < x7 then (if 0 ≤ x8 then (if x8 < (x0.length : Int) then ((lease_set_1.f ((rd_T41 x0 x8).f0.f0) ((rd_T41 x0 x8).f0.f1) ((rd_T41 x0 x8).f0.f2) ((rd_T41 x0 x8).f1) ((rd_T41 x0 x8).f2) ((rd_T41 x0 x8).f3) ((rd_T41 x0 x8).f4) ((rd_T41 x0 x8).f5) ((rd_T41 x0 x8).f6) x700101000).bind fun t215 => (if t215 = true then (some x8) else (slices_IndexFunc_63.l0 k x0 x7 (wrap64 (x8 + 1)) x700101000))) else (none)) else (none)) else (some (-1))
def slices_IndexFunc_63.f (k : Nat) (l0 : List (S41)) (a1_0 : Int) : Option (Int) := slices_IndexFunc_63.l0 k l0 (l0.length : Int) 0 a1_0
theorem slices_IndexFunc_63.mono_l : ∀ k,(∀ y0 y1 y2 y3,LeO (slices_IndexFunc_63.l0 k y0 y1 y2 y3) (slices_IndexFunc_63.l0 (k + 1) y0 y1 y2 y3))
 | 0 => fun _ _ _ _ r h => by simp [slices_IndexFunc_63.l0] at h
 | k + 1 => by
  have ih0 := slices_IndexFunc_63.mono_l k
  ·intro y0 y1 y2 y3
   unfold slices_IndexFunc_63.l0
   repeat' first
   | (with_reducible exact ih0 _ _ _ _)
   | (with_reducible exact LeO.refl _)
   | (with_reducible exact LeO.none _)
   | (with_reducible refine LeO.ite ?_ ?_)
   | (with_reducible refine LeO.bind ?_ (fun _ => ?_))
theorem slices_IndexFunc_63.mono : ∀ a0 a1 k,LeO (slices_IndexFunc_63.f k a0 a1) (slices_IndexFunc_63.f (k + 1) a0 a1) := by
 intro a0 a1 k
 have ih0 := slices_IndexFunc_63.mono_l k
 unfold slices_IndexFunc_63.f
 repeat' first
   | (with_reducible exact ih0 _ _ _ _)
   | (with_reducible exact LeO.refl _)
   | (with_reducible exact LeO.none _)
   | (with_reducible refine LeO.ite ?_ ?_)
   | (with_reducible refine LeO.bind ?_ (fun _ => ?_))
def lease_set.j0 : Nat → List (S41) → Int → Bool → Int → Int → ByteArray → Int → Int → Int → ByteArray → Int → Option ((List (S41)) × Int)
 | 0,_,_,_,_,_,_,_,_,_,_,_ => none
 | k + 1,x8,x9,x217000,x217001,x217002,x217003,x217004,x217005,x217006,x217007,x217008 => (slices_Insert.f x8 x9 (([(⟨(⟨x217000,x217001,x217002⟩ : S29),x217003,x217004,x217005,x217006,x217007,x217008⟩ : S41)] : List (S41)))).bind fun t233 => (some (t233,0))
def lease_set.f (k : Nat) (l0 : List (S41)) (a1_0 : Bool) (a1_1 : Int) (a1_2 : Int) (a1_3 : ByteArray) (a1_4 : Int) (a1_5 : Int) (a1_6 : Int) (a1_7 : ByteArray) (a1_8 : Int) (a2 : Int) : Option ((List (S41)) × Int) := (slices_Clone.f l0).bind fun t218 => ((lease_place.f k t218 a1_0 a1_1 a1_2).bind fun bt221 => (if bt221.2 = true then (if 0 ≤ bt221.1 then (if bt221.1 < (t218.length : Int) then (some ((t218.set (bt221.1 : Int).toNat (⟨(⟨a1_0,a1_1,a1_2⟩ : S29),a1_3,a1_4,a1_5,a1_6,a1_7,a1_8⟩ : S41)),0)) else (none)) else (none)) else (if (t218.length : Int) ≥ 512 then ((slices_IndexFunc_63.f k t218 a2).bind fun t224 => (if t224 < 0 then (some (([] : List (S41)),9)) else ((slices_Delete.f t218 t224 (wrap64 (t224 + 1))).bind fun t225 => ((lease_place.f k t225 a1_0 a1_1 a1_2).bind fun bt228 => (lease_set.j0 k t225 bt228.1 a1_0 a1_1 a1_2 a1_3 a1_4 a1_5 a1_6 a1_7 a1_8))))) else (lease_set.j0 k t218 bt221.1 a1_0 a1_1 a1_2 a1_3 a1_4 a1_5 a1_6 a1_7 a1_8))))
theorem lease_set.mono_l : ∀ k,(∀ y0 y1 y2 y3 y4 y5 y6 y7 y8 y9 y10,LeO (lease_set.j0 k y0 y1 y2 y3 y4 y5 y6 y7 y8 y9 y10) (lease_set.j0 (k + 1) y0 y1 y2 y3 y4 y5 y6 y7 y8 y9 y10))
 | 0 => fun _ _ _ _ _ _ _ _ _ _ _ r h => by simp [lease_set.j0] at h
 | k + 1 => by
  have ih0 := lease_set.mono_l k
  ·intro y0 y1 y2 y3 y4 y5 y6 y7 y8 y9 y10
   unfold lease_set.j0
   repeat' first
   | (with_reducible exact ih0 _ _ _ _ _ _ _ _ _ _ _)
   | (with_reducible exact lease_place.mono _ _ _ _ _)
   | (with_reducible exact slices_IndexFunc_63.mono _ _ _)
   | (with_reducible exact LeO.refl _)
   | (with_reducible exact LeO.none _)
   | (with_reducible refine LeO.ite ?_ ?_)
   | (with_reducible refine LeO.bind ?_ (fun _ => ?_))
theorem lease_set.mono : ∀ a0 a1 a2 a3 a4 a5 a6 a7 a8 a9 a10 k,LeO (lease_set.f k a0 a1 a2 a3 a4 a5 a6 a7 a8 a9 a10) (lease_set.f (k + 1) a0 a1 a2 a3 a4 a5 a6 a7 a8 a9 a10) := by
 intro a0 a1 a2 a3 a4 a5 a6 a7 a8 a9 a10 k
 have ih0 := lease_set.mono_l k
 unfold lease_set.f
 repeat' first
   | (with_reducible exact ih0 _ _ _ _ _ _ _ _ _ _ _)
   | (with_reducible exact lease_place.mono _ _ _ _ _)
   | (with_reducible exact slices_IndexFunc_63.mono _ _ _)
   | (with_reducible exact LeO.refl _)
   | (with_reducible exact LeO.none _)
   | (with_reducible refine LeO.ite ?_ ?_)
   | (with_reducible refine LeO.bind ?_ (fun _ => ?_))
mutual
def lease_Offer.j0 : Nat → List (S41) → ByteArray → Int → Int → Bool → Bool → Int → Int → Option ((List (S41)) × Int)
 | 0,_,_,_,_,_,_,_,_ => none
 | k + 1,x0,x2,x3,x4,x20,x237000,x237001,x237002 => if x20 = true then (some (([] : List (S41)),1)) else ((lease_Free.f k x0 x237000 x237001 x237002 x2 x3).bind fun t240 => (if t240 = true then ((lease_Find.f k x0 x237000 x237001 x237002).bind fun bt241 => (if bt241.2.2.2.2.2.2.2.2.2 = true then (lease_Offer.j1 k x0 x2 x3 x4 (bt241.2.2.2.1.toList == x2.toList) x237000 x237001 x237002 bt241.1 bt241.2.1 bt241.2.2.1 bt241.2.2.2.1 bt241.2.2.2.2.1 bt241.2.2.2.2.2.1 bt241.2.2.2.2.2.2.1 bt241.2.2.2.2.2.2.2.1 bt241.2.2.2.2.2.2.2.2.1) else (lease_Offer.j1 k x0 x2 x3 x4 false x237000 x237001 x237002 bt241.1 bt241.2.1 bt241.2.2.1 bt241.2.2.2.1 bt241.2.2.2.2.1 bt241.2.2.2.2.2.1 bt241.2.2.2.2.2.2.1 bt241.2.2.2.2.2.2.2.1 bt241.2.2.2.2.2.2.2.2.1))) else (some (([] : List (S41)),23))))
def lease_Offer.j1 : Nat → List (S41) → ByteArray → Int → Int → Bool → Bool → Int → Int → Bool → Int → Int → ByteArray → Int → Int → Int → ByteArray → Int → Option ((List (S41)) × Int)
 | 0,_,_,_,_,_,_,_,_,_,_,_,_,_,_,_,_,_ => none
 | k + 1,x0,x2,x3,x4,x14,x237000,x237001,x237002,x252000,x252001,x252002,x252003,x252004,x252005,x252006,x252007,x252008 => if x14 = true then (if x252004 = 2 then ((lease_inForce.f x252000 x252001 x252002 x252003 x252004 x252005 x252006 x252007 x252008 x3).bind fun t252 => (lease_Offer.j2 k x0 x2 x3 x4 x14 t252 x237000 x237001 x237002 x252000 x252001 x252002 x252003 x252004 x252005 x252006 x252007 x252008)) else (lease_Offer.j2 k x0 x2 x3 x4 x14 false x237000 x237001 x237002 x252000 x252001 x252002 x252003 x252004 x252005 x252006 x252007 x252008)) else (lease_Offer.j2 k x0 x2 x3 x4 x14 false x237000 x237001 x237002 x252000 x252001 x252002 x252003 x252004 x252005 x252006 x252007 x252008)
def lease_Offer.j2 : Nat → List (S41) → ByteArray → Int → Int → Bool → Bool → Bool → Int → Int → Bool → Int → Int → ByteArray → Int → Int → Int → ByteArray → Int → Option ((List (S41)) × Int)
 | 0,_,_,_,_,_,_,_,_,_,_,_,_,_,_,_,_,_,_ => none
 | k + 1,x0,x2,x3,x4,x14,x63,x237000,x237001,x237002,x252000,x252001,x252002,x252003,x252004,x252005,x252006,x252007,x252008 => if x63 = true then ((slices_Clone.f x0).bind fun t253 => (some (t253,0))) else ((lease_after.f x3 x4).bind fun t256 => (if x14 = true then (lease_Offer.j3 k x0 x3 x237000 x237001 x237002 x2 1 x3 t256 (⟨#[]⟩ : ByteArray) x252008) else (lease_Offer.j3 k x0 x3 x237000 x237001 x237002 x2 1 x3 t256 (⟨#[]⟩ : ByteArray) 0)))
def lease_Offer.j3 : Nat → List (S41) → Int → Bool → Int → Int → ByteArray → Int → Int → Int → ByteArray → Int → Option ((List (S41)) × Int)
 | 0,_,_,_,_,_,_,_,_,_,_,_ => none
 | k + 1,x0,x3,x258000,x258001,x258002,x258003,x258004,x258005,x258006,x258007,x258008 => (lease_set.f k x0 x258000 x258001 x258002 x258003 x258004 x258005 x258006 x258007 x258008 x3).bind fun bt258 => (some (bt258.1,bt258.2))
end
def lease_Offer.f (k : Nat) (l0 : List (S41)) (a1_0 : Bool) (a1_1 : Int) (a1_2 : Int) (a2 : ByteArray) (a3 : Int) (a4 : Int) : Option ((List (S41)) × Int) := (addr_Valid.f a1_0 a1_1 a1_2).bind fun t237 => (if t237 = true then ((lease_isClient.f k a2).bind fun t238 => (if t238 = true then ((lease_isTime.f a3).bind fun t239 => (if t239 = true then (lease_Offer.j0 k l0 a2 a3 a4 (decide (a4 < 1)) a1_0 a1_1 a1_2) else (lease_Offer.j0 k l0 a2 a3 a4 true a1_0 a1_1 a1_2))) else (lease_Offer.j0 k l0 a2 a3 a4 true a1_0 a1_1 a1_2))) else (some (([] : List (S41)),3)))
theorem lease_Offer.mono_l : ∀ k,(∀ y0 y1 y2 y3 y4 y5 y6 y7,LeO (lease_Offer.j0 k y0 y1 y2 y3 y4 y5 y6 y7) (lease_Offer.j0 (k + 1) y0 y1 y2 y3 y4 y5 y6 y7)) ∧ (∀ y0 y1 y2 y3 y4 y5 y6 y7 y8 y9 y10 y11 y12 y13 y14 y15 y16,LeO (lease_Offer.j1 k y0 y1 y2 y3 y4 y5 y6 y7 y8 y9 y10 y11 y12 y13 y14 y15 y16) (lease_Offer.j1 (k + 1) y0 y1 y2 y3 y4 y5 y6 y7 y8 y9 y10 y11 y12 y13 y14 y15 y16)) ∧ (∀ y0 y1 y2 y3 y4 y5 y6 y7 y8 y9 y10 y11 y12 y13 y14 y15 y16 y17,LeO (lease_Offer.j2 k y0 y1 y2 y3 y4 y5 y6 y7 y8 y9 y10 y11 y12 y13 y14 y15 y16 y17) (lease_Offer.j2 (k + 1) y0 y1 y2 y3 y4 y5 y6 y7 y8 y9 y10 y11 y12 y13 y14 y15 y16 y17)) ∧ (∀ y0 y1 y2 y3 y4 y5 y6 y7 y8 y9 y10,LeO (lease_Offer.j3 k y0 y1 y2 y3 y4 y5 y6 y7 y8 y9 y10) (lease_Offer.j3 (k + 1) y0 y1 y2 y3 y4 y5 y6 y7 y8 y9 y10))
 | 0 => ⟨fun _ _ _ _ _ _ _ _ r h => by simp [lease_Offer.j0] at h,fun _ _ _ _ _ _ _ _ _ _ _ _ _ _ _ _ _ r h => by simp [lease_Offer.j1] at h,fun _ _ _ _ _ _ _ _ _ _ _ _ _ _ _ _ _ _ r h => by simp [lease_Offer.j2] at h,fun _ _ _ _ _ _ _ _ _ _ _ r h => by simp [lease_Offer.j3] at h⟩
 | k + 1 => by
  obtain ⟨ih0,ih1,ih2,ih3⟩ := lease_Offer.mono_l k
  refine ⟨?_,?_,?_,?_⟩
  ·intro y0 y1 y2 y3 y4 y5 y6 y7
   unfold lease_Offer.j0
   repeat' first
   | (with_reducible exact ih0 _ _ _ _ _ _ _ _)
   | (with_reducible exact ih1 _ _ _ _ _ _ _ _ _ _ _ _ _ _ _ _ _)
   | (with_reducible exact ih2 _ _ _ _ _ _ _ _ _ _ _ _ _ _ _ _ _ _)
   | (with_reducible exact ih3 _ _ _ _ _ _ _ _ _ _ _)
   | (with_reducible exact lease_Find.mono _ _ _ _ _)
   | (with_reducible exact lease_Free.mono _ _ _ _ _ _ _)
   | (with_reducible exact lease_isClient.mono _ _)
   | (with_reducible exact lease_set.mono _ _ _ _ _ _ _ _ _ _ _ _)
   | (with_reducible exact LeO.refl _)
   | (with_reducible exact LeO.none _)
   | (with_reducible refine LeO.ite ?_ ?_)
   | (with_reducible refine LeO.bind ?_ (fun _ => ?_))
  ·intro y0 y1 y2 y3 y4 y5 y6 y7 y8 y9 y10 y11 y12 y13 y14 y15 y16
   unfold lease_Offer.j1
   repeat' first
   | (with_reducible exact ih0 _ _ _ _ _ _ _ _)
   | (with_reducible exact ih1 _ _ _ _ _ _ _ _ _ _ _ _ _ _ _ _ _)
   | (with_reducible exact ih2 _ _ _ _ _ _ _ _ _ _ _ _ _ _ _ _ _ _)
   | (with_reducible exact ih3 _ _ _ _ _ _ _ _ _ _ _)
   | (with_reducible exact lease_Find.mono _ _ _ _ _)
   | (with_reducible exact lease_Free.mono _ _ _ _ _ _ _)
   | (with_reducible exact lease_isClient.mono _ _)
   | (with_reducible exact lease_set.mono _ _ _ _ _ _ _ _ _ _ _ _)
   | (with_reducible exact LeO.refl _)
   | (with_reducible exact LeO.none _)
   | (with_reducible refine LeO.ite ?_ ?_)
   | (with_reducible refine LeO.bind ?_ (fun _ => ?_))
  ·intro y0 y1 y2 y3 y4 y5 y6 y7 y8 y9 y10 y11 y12 y13 y14 y15 y16 y17
   unfold lease_Offer.j2
   repeat' first
   | (with_reducible exact ih0 _ _ _ _ _ _ _ _)
   | (with_reducible exact ih1 _ _ _ _ _ _ _ _ _ _ _ _ _ _ _ _ _)
   | (with_reducible exact ih2 _ _ _ _ _ _ _ _ _ _ _ _ _ _ _ _ _ _)
   | (with_reducible exact ih3 _ _ _ _ _ _ _ _ _ _ _)
   | (with_reducible exact lease_Find.mono _ _ _ _ _)
   | (with_reducible exact lease_Free.mono _ _ _ _ _ _ _)
   | (with_reducible exact lease_isClient.mono _ _)
   | (with_reducible exact lease_set.mono _ _ _ _ _ _ _ _ _ _ _ _)
   | (with_reducible exact LeO.refl _)
   | (with_reducible exact LeO.none _)
   | (with_reducible refine LeO.ite ?_ ?_)
   | (with_reducible refine LeO.bind ?_ (fun _ => ?_))
  ·intro y0 y1 y2 y3 y4 y5 y6 y7 y8 y9 y10
   unfold lease_Offer.j3
   repeat' first
   | (with_reducible exact ih0 _ _ _ _ _ _ _ _)
   | (with_reducible exact ih1 _ _ _ _ _ _ _ _ _ _ _ _ _ _ _ _ _)
   | (with_reducible exact ih2 _ _ _ _ _ _ _ _ _ _ _ _ _ _ _ _ _ _)
   | (with_reducible exact ih3 _ _ _ _ _ _ _ _ _ _ _)
   | (with_reducible exact lease_Find.mono _ _ _ _ _)
   | (with_reducible exact lease_Free.mono _ _ _ _ _ _ _)
   | (with_reducible exact lease_isClient.mono _ _)
   | (with_reducible exact lease_set.mono _ _ _ _ _ _ _ _ _ _ _ _)
   | (with_reducible exact LeO.refl _)
   | (with_reducible exact LeO.none _)
   | (with_reducible refine LeO.ite ?_ ?_)
   | (with_reducible refine LeO.bind ?_ (fun _ => ?_))
theorem lease_Offer.mono : ∀ a0 a1 a2 a3 a4 a5 a6 k,LeO (lease_Offer.f k a0 a1 a2 a3 a4 a5 a6) (lease_Offer.f (k + 1) a0 a1 a2 a3 a4 a5 a6) := by
 intro a0 a1 a2 a3 a4 a5 a6 k
 obtain ⟨ih0,ih1,ih2,ih3⟩ := lease_Offer.mono_l k
 unfold lease_Offer.f
 repeat' first
   | (with_reducible exact ih0 _ _ _ _ _ _ _ _)
   | (with_reducible exact ih1 _ _ _ _ _ _ _ _ _ _ _ _ _ _ _ _ _)
   | (with_reducible exact ih2 _ _ _ _ _ _ _ _ _ _ _ _ _ _ _ _ _ _)
   | (with_reducible exact ih3 _ _ _ _ _ _ _ _ _ _ _)
   | (with_reducible exact lease_Find.mono _ _ _ _ _)
   | (with_reducible exact lease_Free.mono _ _ _ _ _ _ _)
   | (with_reducible exact lease_isClient.mono _ _)
   | (with_reducible exact lease_set.mono _ _ _ _ _ _ _ _ _ _ _ _)
   | (with_reducible exact LeO.refl _)
   | (with_reducible exact LeO.none _)
   | (with_reducible refine LeO.ite ?_ ?_)
   | (with_reducible refine LeO.bind ?_ (fun _ => ?_))
mutual
def lease_Bind.j0 : Nat → List (S41) → ByteArray → ByteArray → Int → Int → Int → Bool → Bool → Int → Int → Option ((List (S41)) × Int)
 | 0,_,_,_,_,_,_,_,_,_,_ => none
 | k + 1,x0,x2,x3,x4,x5,x6,x23,x263000,x263001,x263002 => if x23 = true then (some (([] : List (S41)),1)) else ((lease_isHost.f k x3).bind fun t267 => (if t267 = true then ((lease_Free.f k x0 x263000 x263001 x263002 x2 x5).bind fun t268 => (if t268 = true then ((lease_after.f x5 x6).bind fun t269 => ((lease_Find.f k x0 x263000 x263001 x263002).bind fun bt271 => (if bt271.2.2.2.2.2.2.2.2.2 = true then (lease_Bind.j1 k x0 x5 (bt271.2.2.2.1.toList == x2.toList) x263000 x263001 x263002 x2 2 x5 t269 x3 x4 bt271.1 bt271.2.1 bt271.2.2.1 bt271.2.2.2.1 bt271.2.2.2.2.1 bt271.2.2.2.2.2.1 bt271.2.2.2.2.2.2.1 bt271.2.2.2.2.2.2.2.1 bt271.2.2.2.2.2.2.2.2.1) else (lease_Bind.j1 k x0 x5 false x263000 x263001 x263002 x2 2 x5 t269 x3 x4 bt271.1 bt271.2.1 bt271.2.2.1 bt271.2.2.2.1 bt271.2.2.2.2.1 bt271.2.2.2.2.2.1 bt271.2.2.2.2.2.2.1 bt271.2.2.2.2.2.2.2.1 bt271.2.2.2.2.2.2.2.2.1)))) else (some (([] : List (S41)),23)))) else (some (([] : List (S41)),2))))
def lease_Bind.j1 : Nat → List (S41) → Int → Bool → Bool → Int → Int → ByteArray → Int → Int → Int → ByteArray → Int → Bool → Int → Int → ByteArray → Int → Int → Int → ByteArray → Int → Option ((List (S41)) × Int)
 | 0,_,_,_,_,_,_,_,_,_,_,_,_,_,_,_,_,_,_,_,_,_ => none
 | k + 1,x0,x5,x73,x271000,x271001,x271002,x271003,x271004,x271005,x271006,x271007,x271008,x282000,x282001,x282002,x282003,x282004,x282005,x282006,x282007,x282008 => if x73 = true then (if x282004 = 2 then ((lease_inForce.f x282000 x282001 x282002 x282003 x282004 x282005 x282006 x282007 x282008 x5).bind fun t282 => (lease_Bind.j2 k x0 x5 t282 x271000 x271001 x271002 x271003 x271004 x271005 x271006 x271007 (mx x271008 x282008) x282000 x282001 x282002 x282003 x282004 x282005 x282006 x282007 x282008)) else (lease_Bind.j2 k x0 x5 false x271000 x271001 x271002 x271003 x271004 x271005 x271006 x271007 (mx x271008 x282008) x282000 x282001 x282002 x282003 x282004 x282005 x282006 x282007 x282008)) else (lease_Bind.j3 k x0 x5 x271000 x271001 x271002 x271003 x271004 x271005 x271006 x271007 x271008)
def lease_Bind.j3 : Nat → List (S41) → Int → Bool → Int → Int → ByteArray → Int → Int → Int → ByteArray → Int → Option ((List (S41)) × Int)
 | 0,_,_,_,_,_,_,_,_,_,_,_ => none
 | k + 1,x0,x5,x271000,x271001,x271002,x271003,x271004,x271005,x271006,x271007,x271008 => (lease_set.f k x0 x271000 x271001 x271002 x271003 x271004 x271005 x271006 x271007 x271008 x5).bind fun bt283 => (some (bt283.1,bt283.2))
def lease_Bind.j2 : Nat → List (S41) → Int → Bool → Bool → Int → Int → ByteArray → Int → Int → Int → ByteArray → Int → Bool → Int → Int → ByteArray → Int → Int → Int → ByteArray → Int → Option ((List (S41)) × Int)
 | 0,_,_,_,_,_,_,_,_,_,_,_,_,_,_,_,_,_,_,_,_,_ => none
 | k + 1,x0,x5,x87,x271000,x271001,x271002,x271003,x271004,x271005,x271006,x271007,x271008,x282000,x282001,x282002,x282003,x282004,x282005,x282006,x282007,x282008 => if x87 = true then (lease_Bind.j3 k x0 x5 x271000 x271001 x271002 x271003 x271004 (mn x5 x282005) x271006 x271007 x271008) else (lease_Bind.j3 k x0 x5 x271000 x271001 x271002 x271003 x271004 x271005 x271006 x271007 x271008)
end
def lease_Bind.f (k : Nat) (l0 : List (S41)) (a1_0 : Bool) (a1_1 : Int) (a1_2 : Int) (a2 : ByteArray) (a3 : ByteArray) (a4 : Int) (a5 : Int) (a6 : Int) : Option ((List (S41)) × Int) := (addr_Valid.f a1_0 a1_1 a1_2).bind fun t263 => (if t263 = true then ((lease_isClient.f k a2).bind fun t264 => (if t264 = true then ((lease_isXID.f a4).bind fun t265 => (if t265 = true then ((lease_isTime.f a5).bind fun t266 => (if t266 = true then (lease_Bind.j0 k l0 a2 a3 a4 a5 a6 (decide (a6 < 1)) a1_0 a1_1 a1_2) else (lease_Bind.j0 k l0 a2 a3 a4 a5 a6 true a1_0 a1_1 a1_2))) else (lease_Bind.j0 k l0 a2 a3 a4 a5 a6 true a1_0 a1_1 a1_2))) else (lease_Bind.j0 k l0 a2 a3 a4 a5 a6 true a1_0 a1_1 a1_2))) else (some (([] : List (S41)),3)))
theorem lease_Bind.mono_l : ∀ k,(∀ y0 y1 y2 y3 y4 y5 y6 y7 y8 y9,LeO (lease_Bind.j0 k y0 y1 y2 y3 y4 y5 y6 y7 y8 y9) (lease_Bind.j0 (k + 1) y0 y1 y2 y3 y4 y5 y6 y7 y8 y9)) ∧ (∀ y0 y1 y2 y3 y4 y5 y6 y7 y8 y9 y10 y11 y12 y13 y14 y15 y16 y17 y18 y19 y20,LeO (lease_Bind.j1 k y0 y1 y2 y3 y4 y5 y6 y7 y8 y9 y10 y11 y12 y13 y14 y15 y16 y17 y18 y19 y20) (lease_Bind.j1 (k + 1) y0 y1 y2 y3 y4 y5 y6 y7 y8 y9 y10 y11 y12 y13 y14 y15 y16 y17 y18 y19 y20)) ∧ (∀ y0 y1 y2 y3 y4 y5 y6 y7 y8 y9 y10,LeO (lease_Bind.j3 k y0 y1 y2 y3 y4 y5 y6 y7 y8 y9 y10) (lease_Bind.j3 (k + 1) y0 y1 y2 y3 y4 y5 y6 y7 y8 y9 y10)) ∧ (∀ y0 y1 y2 y3 y4 y5 y6 y7 y8 y9 y10 y11 y12 y13 y14 y15 y16 y17 y18 y19 y20,LeO (lease_Bind.j2 k y0 y1 y2 y3 y4 y5 y6 y7 y8 y9 y10 y11 y12 y13 y14 y15 y16 y17 y18 y19 y20) (lease_Bind.j2 (k + 1) y0 y1 y2 y3 y4 y5 y6 y7 y8 y9 y10 y11 y12 y13 y14 y15 y16 y17 y18 y19 y20))
 | 0 => ⟨fun _ _ _ _ _ _ _ _ _ _ r h => by simp [lease_Bind.j0] at h,fun _ _ _ _ _ _ _ _ _ _ _ _ _ _ _ _ _ _ _ _ _ r h => by simp [lease_Bind.j1] at h,fun _ _ _ _ _ _ _ _ _ _ _ r h => by simp [lease_Bind.j3] at h,fun _ _ _ _ _ _ _ _ _ _ _ _ _ _ _ _ _ _ _ _ _ r h => by simp [lease_Bind.j2] at h⟩
 | k + 1 => by
  obtain ⟨ih0,ih1,ih2,ih3⟩ := lease_Bind.mono_l k
  refine ⟨?_,?_,?_,?_⟩
  ·intro y0 y1 y2 y3 y4 y5 y6 y7 y8 y9
   unfold lease_Bind.j0
   repeat' first
   | (with_reducible exact ih0 _ _ _ _ _ _ _ _ _ _)
   | (with_reducible exact ih1 _ _ _ _ _ _ _ _ _ _ _ _ _ _ _ _ _ _ _ _ _)
   | (with_reducible exact ih2 _ _ _ _ _ _ _ _ _ _ _)
   | (with_reducible exact ih3 _ _ _ _ _ _ _ _ _ _ _ _ _ _ _ _ _ _ _ _ _)
   | (with_reducible exact lease_Find.mono _ _ _ _ _)
   | (with_reducible exact lease_Free.mono _ _ _ _ _ _ _)
   | (with_reducible exact lease_isClient.mono _ _)
   | (with_reducible exact lease_isHost.mono _ _)
   | (with_reducible exact lease_set.mono _ _ _ _ _ _ _ _ _ _ _ _)
   | (with_reducible exact LeO.refl _)
   | (with_reducible exact LeO.none _)
   | (with_reducible refine LeO.ite ?_ ?_)
   | (with_reducible refine LeO.bind ?_ (fun _ => ?_))
  ·intro y0 y1 y2 y3 y4 y5 y6 y7 y8 y9 y10 y11 y12 y13 y14 y15 y16 y17 y18 y19 y20
   unfold lease_Bind.j1
   repeat' first
   | (with_reducible exact ih0 _ _ _ _ _ _ _ _ _ _)
   | (with_reducible exact ih1 _ _ _ _ _ _ _ _ _ _ _ _ _ _ _ _ _ _ _ _ _)
   | (with_reducible exact ih2 _ _ _ _ _ _ _ _ _ _ _)
   | (with_reducible exact ih3 _ _ _ _ _ _ _ _ _ _ _ _ _ _ _ _ _ _ _ _ _)
   | (with_reducible exact lease_Find.mono _ _ _ _ _)
   | (with_reducible exact lease_Free.mono _ _ _ _ _ _ _)
   | (with_reducible exact lease_isClient.mono _ _)
   | (with_reducible exact lease_isHost.mono _ _)
   | (with_reducible exact lease_set.mono _ _ _ _ _ _ _ _ _ _ _ _)
   | (with_reducible exact LeO.refl _)
   | (with_reducible exact LeO.none _)
   | (with_reducible refine LeO.ite ?_ ?_)
   | (with_reducible refine LeO.bind ?_ (fun _ => ?_))
  ·intro y0 y1 y2 y3 y4 y5 y6 y7 y8 y9 y10
   unfold lease_Bind.j3
   repeat' first
   | (with_reducible exact ih0 _ _ _ _ _ _ _ _ _ _)
   | (with_reducible exact ih1 _ _ _ _ _ _ _ _ _ _ _ _ _ _ _ _ _ _ _ _ _)
   | (with_reducible exact ih2 _ _ _ _ _ _ _ _ _ _ _)
   | (with_reducible exact ih3 _ _ _ _ _ _ _ _ _ _ _ _ _ _ _ _ _ _ _ _ _)
   | (with_reducible exact lease_Find.mono _ _ _ _ _)
   | (with_reducible exact lease_Free.mono _ _ _ _ _ _ _)
   | (with_reducible exact lease_isClient.mono _ _)
   | (with_reducible exact lease_isHost.mono _ _)
   | (with_reducible exact lease_set.mono _ _ _ _ _ _ _ _ _ _ _ _)
   | (with_reducible exact LeO.refl _)
   | (with_reducible exact LeO.none _)
   | (with_reducible refine LeO.ite ?_ ?_)
   | (with_reducible refine LeO.bind ?_ (fun _ => ?_))
  ·intro y0 y1 y2 y3 y4 y5 y6 y7 y8 y9 y10 y11 y12 y13 y14 y15 y16 y17 y18 y19 y20
   unfold lease_Bind.j2
   repeat' first
   | (with_reducible exact ih0 _ _ _ _ _ _ _ _ _ _)
   | (with_reducible exact ih1 _ _ _ _ _ _ _ _ _ _ _ _ _ _ _ _ _ _ _ _ _)
   | (with_reducible exact ih2 _ _ _ _ _ _ _ _ _ _ _)
   | (with_reducible exact ih3 _ _ _ _ _ _ _ _ _ _ _ _ _ _ _ _ _ _ _ _ _)
   | (with_reducible exact lease_Find.mono _ _ _ _ _)
   | (with_reducible exact lease_Free.mono _ _ _ _ _ _ _)
   | (with_reducible exact lease_isClient.mono _ _)
   | (with_reducible exact lease_isHost.mono _ _)
   | (with_reducible exact lease_set.mono _ _ _ _ _ _ _ _ _ _ _ _)
   | (with_reducible exact LeO.refl _)
   | (with_reducible exact LeO.none _)
   | (with_reducible refine LeO.ite ?_ ?_)
   | (with_reducible refine LeO.bind ?_ (fun _ => ?_))
theorem lease_Bind.mono : ∀ a0 a1 a2 a3 a4 a5 a6 a7 a8 k,LeO (lease_Bind.f k a0 a1 a2 a3 a4 a5 a6 a7 a8) (lease_Bind.f (k + 1) a0 a1 a2 a3 a4 a5 a6 a7 a8) := by
 intro a0 a1 a2 a3 a4 a5 a6 a7 a8 k
 obtain ⟨ih0,ih1,ih2,ih3⟩ := lease_Bind.mono_l k
 unfold lease_Bind.f
 repeat' first
   | (with_reducible exact ih0 _ _ _ _ _ _ _ _ _ _)
   | (with_reducible exact ih1 _ _ _ _ _ _ _ _ _ _ _ _ _ _ _ _ _ _ _ _ _)
   | (with_reducible exact ih2 _ _ _ _ _ _ _ _ _ _ _)
   | (with_reducible exact ih3 _ _ _ _ _ _ _ _ _ _ _ _ _ _ _ _ _ _ _ _ _)
   | (with_reducible exact lease_Find.mono _ _ _ _ _)
   | (with_reducible exact lease_Free.mono _ _ _ _ _ _ _)
   | (with_reducible exact lease_isClient.mono _ _)
   | (with_reducible exact lease_isHost.mono _ _)
   | (with_reducible exact lease_set.mono _ _ _ _ _ _ _ _ _ _ _ _)
   | (with_reducible exact LeO.refl _)
   | (with_reducible exact LeO.none _)
   | (with_reducible refine LeO.ite ?_ ?_)
   | (with_reducible refine LeO.bind ?_ (fun _ => ?_))
def lease_Taken.l0 : Nat → ByteArray → Int → List (S29) → List (S41) → Int → Int → Option ((List (S29)))
 | 0,_,_,_,_,_,_ => none
 | k + 1,x1,x2,x7,x10,x11,x12 => if x12 < x11 then (if 0 ≤ x12 then (if x12 < (x10.length : Int) then ((lease_free.f ((rd_T41 x10 x12).f0.f0) ((rd_T41 x10 x12).f0.f1) ((rd_T41 x10 x12).f0.f2) ((rd_T41 x10 x12).f1) ((rd_T41 x10 x12).f2) ((rd_T41 x10 x12).f3) ((rd_T41 x10 x12).f4) ((rd_T41 x10 x12).f5) ((rd_T41 x10 x12).f6) x1 x2).bind fun t289 => (if t289 = true then (lease_Taken.l0 k x1 x2 x7 x10 x11 (wrap64 (x12 + 1))) else (if x7.length < 5864062014805 then (lease_Taken.l0 k x1 x2 (x7 ++ [(⟨(rd_T41 x10 x12).f0.f0,(rd_T41 x10 x12).f0.f1,(rd_T41 x10 x12).f0.f2⟩ : S29)]) x10 x11 (wrap64 (x12 + 1))) else (none)))) else (none)) else (none)) else (some x7)
def lease_Taken.f (k : Nat) (l0 : List (S41)) (a1 : ByteArray) (a2 : Int) : Option ((List (S29))) := lease_Taken.l0 k a1 a2 ([] : List (S29)) l0 (l0.length : Int) 0
theorem lease_Taken.mono_l : ∀ k,(∀ y0 y1 y2 y3 y4 y5,LeO (lease_Taken.l0 k y0 y1 y2 y3 y4 y5) (lease_Taken.l0 (k + 1) y0 y1 y2 y3 y4 y5))
 | 0 => fun _ _ _ _ _ _ r h => by simp [lease_Taken.l0] at h
 | k + 1 => by
  have ih0 := lease_Taken.mono_l k
  ·intro y0 y1 y2 y3 y4 y5
   unfold lease_Taken.l0
   repeat' first
   | (with_reducible exact ih0 _ _ _ _ _ _)
   | (with_reducible exact LeO.refl _)
   | (with_reducible exact LeO.none _)
   | (with_reducible refine LeO.ite ?_ ?_)
   | (with_reducible refine LeO.bind ?_ (fun _ => ?_))
theorem lease_Taken.mono : ∀ a0 a1 a2 k,LeO (lease_Taken.f k a0 a1 a2) (lease_Taken.f (k + 1) a0 a1 a2) := by
 intro a0 a1 a2 k
 have ih0 := lease_Taken.mono_l k
 unfold lease_Taken.f
 repeat' first
   | (with_reducible exact ih0 _ _ _ _ _ _)
   | (with_reducible exact LeO.refl _)
   | (with_reducible exact LeO.none _)
   | (with_reducible refine LeO.ite ?_ ?_)
   | (with_reducible refine LeO.bind ?_ (fun _ => ?_))
mutual
def lease_Active.l0 : Nat → Int → List (S41) → List (S41) → Int → Int → Option ((List (S41)))
 | 0,_,_,_,_,_ => none
 | k + 1,x1,x5,x8,x9,x10 => if x10 < x9 then (if 0 ≤ x10 then (if x10 < (x8.length : Int) then (if ((rd_T41 x8 x10).f2) = 2 then ((lease_inForce.f ((rd_T41 x8 x10).f0.f0) ((rd_T41 x8 x10).f0.f1) ((rd_T41 x8 x10).f0.f2) ((rd_T41 x8 x10).f1) ((rd_T41 x8 x10).f2) ((rd_T41 x8 x10).f3) ((rd_T41 x8 x10).f4) ((rd_T41 x8 x10).f5) ((rd_T41 x8 x10).f6) x1).bind fun t295 => (lease_Active.j1 k x1 x5 x8 x9 x10 t295 ((rd_T41 x8 x10).f0.f0) ((rd_T41 x8 x10).f0.f1) ((rd_T41 x8 x10).f0.f2) ((rd_T41 x8 x10).f1) ((rd_T41 x8 x10).f2) ((rd_T41 x8 x10).f3) ((rd_T41 x8 x10).f4) ((rd_T41 x8 x10).f5) ((rd_T41 x8 x10).f6))) else (lease_Active.j1 k x1 x5 x8 x9 x10 false ((rd_T41 x8 x10).f0.f0) ((rd_T41 x8 x10).f0.f1) ((rd_T41 x8 x10).f0.f2) ((rd_T41 x8 x10).f1) ((rd_T41 x8 x10).f2) ((rd_T41 x8 x10).f3) ((rd_T41 x8 x10).f4) ((rd_T41 x8 x10).f5) ((rd_T41 x8 x10).f6))) else (none)) else (none)) else (some x5)
def lease_Active.j1 : Nat → Int → List (S41) → List (S41) → Int → Int → Bool → Bool → Int → Int → ByteArray → Int → Int → Int → ByteArray → Int → Option ((List (S41)))
 | 0,_,_,_,_,_,_,_,_,_,_,_,_,_,_,_ => none
 | k + 1,x1,x5,x8,x9,x10,x21,x295000,x295001,x295002,x295003,x295004,x295005,x295006,x295007,x295008 => if x21 = true then (if x5.length < 1599289640401 then (lease_Active.l0 k x1 (x5 ++ [(⟨(⟨x295000,x295001,x295002⟩ : S29),x295003,x295004,x295005,x295006,x295007,x295008⟩ : S41)]) x8 x9 (wrap64 (x10 + 1))) else (none)) else (lease_Active.l0 k x1 x5 x8 x9 (wrap64 (x10 + 1)))
end
def lease_Active.f (k : Nat) (l0 : List (S41)) (a1 : Int) : Option ((List (S41))) := lease_Active.l0 k a1 ([] : List (S41)) l0 (l0.length : Int) 0
theorem lease_Active.mono_l : ∀ k,(∀ y0 y1 y2 y3 y4,LeO (lease_Active.l0 k y0 y1 y2 y3 y4) (lease_Active.l0 (k + 1) y0 y1 y2 y3 y4)) ∧ (∀ y0 y1 y2 y3 y4 y5 y6 y7 y8 y9 y10 y11 y12 y13 y14,LeO (lease_Active.j1 k y0 y1 y2 y3 y4 y5 y6 y7 y8 y9 y10 y11 y12 y13 y14) (lease_Active.j1 (k + 1) y0 y1 y2 y3 y4 y5 y6 y7 y8 y9 y10 y11 y12 y13 y14))
 | 0 => ⟨fun _ _ _ _ _ r h => by simp [lease_Active.l0] at h,fun _ _ _ _ _ _ _ _ _ _ _ _ _ _ _ r h => by simp [lease_Active.j1] at h⟩
 | k + 1 => by
  obtain ⟨ih0,ih1⟩ := lease_Active.mono_l k
  refine ⟨?_,?_⟩
  ·intro y0 y1 y2 y3 y4
   unfold lease_Active.l0
   repeat' first
   | (with_reducible exact ih0 _ _ _ _ _)
   | (with_reducible exact ih1 _ _ _ _ _ _ _ _ _ _ _ _ _ _ _)
   | (with_reducible exact LeO.refl _)
   | (with_reducible exact LeO.none _)
   | (with_reducible refine LeO.ite ?_ ?_)
   | (with_reducible refine LeO.bind ?_ (fun _ => ?_))
  ·intro y0 y1 y2 y3 y4 y5 y6 y7 y8 y9 y10 y11 y12 y13 y14
   unfold lease_Active.j1
   repeat' first
   | (with_reducible exact ih0 _ _ _ _ _)
   | (with_reducible exact ih1 _ _ _ _ _ _ _ _ _ _ _ _ _ _ _)
   | (with_reducible exact LeO.refl _)
   | (with_reducible exact LeO.none _)
   | (with_reducible refine LeO.ite ?_ ?_)
   | (with_reducible refine LeO.bind ?_ (fun _ => ?_))
theorem lease_Active.mono : ∀ a0 a1 k,LeO (lease_Active.f k a0 a1) (lease_Active.f (k + 1) a0 a1) := by
 intro a0 a1 k
 obtain ⟨ih0,ih1⟩ := lease_Active.mono_l k
 unfold lease_Active.f
 repeat' first
   | (with_reducible exact ih0 _ _ _ _ _)
   | (with_reducible exact ih1 _ _ _ _ _ _ _ _ _ _ _ _ _ _ _)
   | (with_reducible exact LeO.refl _)
   | (with_reducible exact LeO.none _)
   | (with_reducible refine LeO.ite ?_ ?_)
   | (with_reducible refine LeO.bind ?_ (fun _ => ?_))
def lease_held.f (k : Nat) (l0 : List (S41)) (a1_0 : Bool) (a1_1 : Int) (a1_2 : Int) (a2 : ByteArray) (a3 : Int) (a4 : Int) : Option (Int × Bool) := (lease_place.f k l0 a1_0 a1_1 a1_2).bind fun bt300 => (if bt300.2 = true then (if 0 ≤ bt300.1 then (if bt300.1 < (l0.length : Int) then (if ((rd_T41 l0 bt300.1).f1).toList = a2.toList then (if ((rd_T41 l0 bt300.1).f2) = 1 then ((lease_inForce.f ((rd_T41 l0 bt300.1).f0.f0) ((rd_T41 l0 bt300.1).f0.f1) ((rd_T41 l0 bt300.1).f0.f2) ((rd_T41 l0 bt300.1).f1) ((rd_T41 l0 bt300.1).f2) ((rd_T41 l0 bt300.1).f3) ((rd_T41 l0 bt300.1).f4) ((rd_T41 l0 bt300.1).f5) ((rd_T41 l0 bt300.1).f6) a4).bind fun t304 => (if t304 = true then (some (bt300.1,decide (a3 ≥ ((rd_T41 l0 bt300.1).f6)))) else (some (bt300.1,false)))) else (if ((rd_T41 l0 bt300.1).f2) = 2 then ((lease_inForce.f ((rd_T41 l0 bt300.1).f0.f0) ((rd_T41 l0 bt300.1).f0.f1) ((rd_T41 l0 bt300.1).f0.f2) ((rd_T41 l0 bt300.1).f1) ((rd_T41 l0 bt300.1).f2) ((rd_T41 l0 bt300.1).f3) ((rd_T41 l0 bt300.1).f4) ((rd_T41 l0 bt300.1).f5) ((rd_T41 l0 bt300.1).f6) a4).bind fun t305 => (if t305 = true then (some (bt300.1,decide (a3 ≥ ((rd_T41 l0 bt300.1).f6)))) else (some (bt300.1,false)))) else (some (bt300.1,false)))) else (some (bt300.1,false))) else (none)) else (none)) else (some (0,false)))
theorem lease_held.mono : ∀ a0 a1 a2 a3 a4 a5 a6 k,LeO (lease_held.f k a0 a1 a2 a3 a4 a5 a6) (lease_held.f (k + 1) a0 a1 a2 a3 a4 a5 a6) := by
 intro a0 a1 a2 a3 a4 a5 a6 k
 unfold lease_held.f
 repeat' first
   | (with_reducible exact lease_place.mono _ _ _ _ _)
   | (with_reducible exact LeO.refl _)
   | (with_reducible exact LeO.none _)
   | (with_reducible refine LeO.ite ?_ ?_)
   | (with_reducible refine LeO.bind ?_ (fun _ => ?_))
def lease_Release.j0 : Nat → List (S41) → ByteArray → Int → Int → Bool → Bool → Int → Int → Option ((List (S41)) × Int)
 | 0,_,_,_,_,_,_,_,_ => none
 | k + 1,x0,x2,x3,x4,x27,x307000,x307001,x307002 => if x27 = true then (some (([] : List (S41)),1)) else ((lease_held.f k x0 x307000 x307001 x307002 x2 x3 x4).bind fun bt310 => (if bt310.2 = true then ((slices_Clone.f x0).bind fun t312 => (if 0 ≤ bt310.1 then (if bt310.1 < (t312.length : Int) then ((some (t312.set (bt310.1 : Int).toNat (⟨(⟨(rd_T41 t312 bt310.1).f0.f0,(rd_T41 t312 bt310.1).f0.f1,(rd_T41 t312 bt310.1).f0.f2⟩ : S29),(rd_T41 t312 bt310.1).f1,3,(rd_T41 t312 bt310.1).f3,(rd_T41 t312 bt310.1).f4,(rd_T41 t312 bt310.1).f5,(rd_T41 t312 bt310.1).f6⟩ : S41) : List (S41))).bind fun y315 => (some ((y315.set (bt310.1 : Int).toNat (⟨(⟨(rd_T41 y315 bt310.1).f0.f0,(rd_T41 y315 bt310.1).f0.f1,(rd_T41 y315 bt310.1).f0.f2⟩ : S29),(rd_T41 y315 bt310.1).f1,(rd_T41 y315 bt310.1).f2,(rd_T41 y315 bt310.1).f3,mx x4 ((rd_T41 y315 bt310.1).f3),(rd_T41 y315 bt310.1).f5,(rd_T41 y315 bt310.1).f6⟩ : S41)),0))) else (none)) else (none))) else (some (([] : List (S41)),11))))
def lease_Release.f (k : Nat) (l0 : List (S41)) (a1_0 : Bool) (a1_1 : Int) (a1_2 : Int) (a2 : ByteArray) (a3 : Int) (a4 : Int) : Option ((List (S41)) × Int) := (lease_isClient.f k a2).bind fun t307 => (if t307 = true then ((lease_isXID.f a3).bind fun t308 => (if t308 = true then ((lease_isTime.f a4).bind fun t309 => (lease_Release.j0 k l0 a2 a3 a4 (!t309) a1_0 a1_1 a1_2)) else (lease_Release.j0 k l0 a2 a3 a4 true a1_0 a1_1 a1_2))) else (lease_Release.j0 k l0 a2 a3 a4 true a1_0 a1_1 a1_2))
theorem lease_Release.mono_l : ∀ k,(∀ y0 y1 y2 y3 y4 y5 y6 y7,LeO (lease_Release.j0 k y0 y1 y2 y3 y4 y5 y6 y7) (lease_Release.j0 (k + 1) y0 y1 y2 y3 y4 y5 y6 y7))
 | 0 => fun _ _ _ _ _ _ _ _ r h => by simp [lease_Release.j0] at h
 | k + 1 => by
  have ih0 := lease_Release.mono_l k
  ·intro y0 y1 y2 y3 y4 y5 y6 y7
   unfold lease_Release.j0
   repeat' first
   | (with_reducible exact ih0 _ _ _ _ _ _ _ _)
   | (with_reducible exact lease_held.mono _ _ _ _ _ _ _ _)
   | (with_reducible exact lease_isClient.mono _ _)
   | (with_reducible exact LeO.refl _)
   | (with_reducible exact LeO.none _)
   | (with_reducible refine LeO.ite ?_ ?_)
   | (with_reducible refine LeO.bind ?_ (fun _ => ?_))
theorem lease_Release.mono : ∀ a0 a1 a2 a3 a4 a5 a6 k,LeO (lease_Release.f k a0 a1 a2 a3 a4 a5 a6) (lease_Release.f (k + 1) a0 a1 a2 a3 a4 a5 a6) := by
 intro a0 a1 a2 a3 a4 a5 a6 k
 have ih0 := lease_Release.mono_l k
 unfold lease_Release.f
 repeat' first
   | (with_reducible exact ih0 _ _ _ _ _ _ _ _)
   | (with_reducible exact lease_held.mono _ _ _ _ _ _ _ _)
   | (with_reducible exact lease_isClient.mono _ _)
   | (with_reducible exact LeO.refl _)
   | (with_reducible exact LeO.none _)
   | (with_reducible refine LeO.ite ?_ ?_)
   | (with_reducible refine LeO.bind ?_ (fun _ => ?_))
mutual
def lease_Expire.l0 : Nat → Int → List (S41) → List (S41) → Int → Int → Option ((List (S41)))
 | 0,_,_,_,_,_ => none
 | k + 1,x1,x5,x8,x9,x10 => if x10 < x9 then (if 0 ≤ x10 then (if x10 < (x8.length : Int) then (if ((rd_T41 x8 x10).f4) ≤ x1 then (if ((rd_T41 x8 x10).f2) = 1 then (lease_Expire.j1 k x1 x5 x8 x9 x10 ((rd_T41 x8 x10).f2) (((rd_T41 x8 x10).f2) == 1) ((rd_T41 x8 x10).f0.f0) ((rd_T41 x8 x10).f0.f1) ((rd_T41 x8 x10).f0.f2) ((rd_T41 x8 x10).f1) ((rd_T41 x8 x10).f2) ((rd_T41 x8 x10).f3) ((rd_T41 x8 x10).f4) ((rd_T41 x8 x10).f5) ((rd_T41 x8 x10).f6)) else (lease_Expire.j1 k x1 x5 x8 x9 x10 ((rd_T41 x8 x10).f2) (((rd_T41 x8 x10).f2) == 5) ((rd_T41 x8 x10).f0.f0) ((rd_T41 x8 x10).f0.f1) ((rd_T41 x8 x10).f0.f2) ((rd_T41 x8 x10).f1) ((rd_T41 x8 x10).f2) ((rd_T41 x8 x10).f3) ((rd_T41 x8 x10).f4) ((rd_T41 x8 x10).f5) ((rd_T41 x8 x10).f6))) else (if x5.length < 1599289640401 then (lease_Expire.l0 k x1 (x5 ++ [(⟨(⟨(rd_T41 x8 x10).f0.f0,(rd_T41 x8 x10).f0.f1,(rd_T41 x8 x10).f0.f2⟩ : S29),(rd_T41 x8 x10).f1,(rd_T41 x8 x10).f2,(rd_T41 x8 x10).f3,(rd_T41 x8 x10).f4,(rd_T41 x8 x10).f5,(rd_T41 x8 x10).f6⟩ : S41)]) x8 x9 (wrap64 (x10 + 1))) else (none))) else (none)) else (none)) else (some x5)
def lease_Expire.j1 : Nat → Int → List (S41) → List (S41) → Int → Int → Int → Bool → Bool → Int → Int → ByteArray → Int → Int → Int → ByteArray → Int → Option ((List (S41)))
 | 0,_,_,_,_,_,_,_,_,_,_,_,_,_,_,_,_ => none
 | k + 1,x1,x5,x8,x9,x10,x19,x20,x320000,x320001,x320002,x320003,x320004,x320005,x320006,x320007,x320008 => if x20 = true then (lease_Expire.l0 k x1 x5 x8 x9 (wrap64 (x10 + 1))) else (if x19 = 2 then (if x5.length < 1599289640401 then (lease_Expire.l0 k x1 (x5 ++ [(⟨(⟨x320000,x320001,x320002⟩ : S29),x320003,4,x320005,x320006,x320007,x320008⟩ : S41)]) x8 x9 (wrap64 (x10 + 1))) else (none)) else (if x5.length < 1599289640401 then (lease_Expire.l0 k x1 (x5 ++ [(⟨(⟨x320000,x320001,x320002⟩ : S29),x320003,x320004,x320005,x320006,x320007,x320008⟩ : S41)]) x8 x9 (wrap64 (x10 + 1))) else (none)))
end
def lease_Expire.f (k : Nat) (l0 : List (S41)) (a1 : Int) : Option ((List (S41))) := lease_Expire.l0 k a1 ([] : List (S41)) l0 (l0.length : Int) 0
theorem lease_Expire.mono_l : ∀ k,(∀ y0 y1 y2 y3 y4,LeO (lease_Expire.l0 k y0 y1 y2 y3 y4) (lease_Expire.l0 (k + 1) y0 y1 y2 y3 y4)) ∧ (∀ y0 y1 y2 y3 y4 y5 y6 y7 y8 y9 y10 y11 y12 y13 y14 y15,LeO (lease_Expire.j1 k y0 y1 y2 y3 y4 y5 y6 y7 y8 y9 y10 y11 y12 y13 y14 y15) (lease_Expire.j1 (k + 1) y0 y1 y2 y3 y4 y5 y6 y7 y8 y9 y10 y11 y12 y13 y14 y15))
 | 0 => ⟨fun _ _ _ _ _ r h => by simp [lease_Expire.l0] at h,fun _ _ _ _ _ _ _ _ _ _ _ _ _ _ _ _ r h => by simp [lease_Expire.j1] at h⟩
 | k + 1 => by
  obtain ⟨ih0,ih1⟩ := lease_Expire.mono_l k
  refine ⟨?_,?_⟩
  ·intro y0 y1 y2 y3 y4
   unfold lease_Expire.l0
   repeat' first
   | (with_reducible exact ih0 _ _ _ _ _)
   | (with_reducible exact ih1 _ _ _ _ _ _ _ _ _ _ _ _ _ _ _ _)
   | (with_reducible exact LeO.refl _)
   | (with_reducible exact LeO.none _)
   | (with_reducible refine LeO.ite ?_ ?_)
   | (with_reducible refine LeO.bind ?_ (fun _ => ?_))
  ·intro y0 y1 y2 y3 y4 y5 y6 y7 y8 y9 y10 y11 y12 y13 y14 y15
   unfold lease_Expire.j1
   repeat' first
   | (with_reducible exact ih0 _ _ _ _ _)
   | (with_reducible exact ih1 _ _ _ _ _ _ _ _ _ _ _ _ _ _ _ _)
   | (with_reducible exact LeO.refl _)
   | (with_reducible exact LeO.none _)
   | (with_reducible refine LeO.ite ?_ ?_)
   | (with_reducible refine LeO.bind ?_ (fun _ => ?_))
theorem lease_Expire.mono : ∀ a0 a1 k,LeO (lease_Expire.f k a0 a1) (lease_Expire.f (k + 1) a0 a1) := by
 intro a0 a1 k
 obtain ⟨ih0,ih1⟩ := lease_Expire.mono_l k
 unfold lease_Expire.f
 repeat' first
   | (with_reducible exact ih0 _ _ _ _ _)
   | (with_reducible exact ih1 _ _ _ _ _ _ _ _ _ _ _ _ _ _ _ _)
   | (with_reducible exact LeO.refl _)
   | (with_reducible exact LeO.none _)
   | (with_reducible refine LeO.ite ?_ ?_)
   | (with_reducible refine LeO.bind ?_ (fun _ => ?_))
def ddilaw38_ten.f (a0 : Int) : Option (Bool × Int × Int) := some (false,0,IntKind.u64.wrap (167772160 + a0))
def ddilaw38_awake.j0 : Nat → List (S41) → List (S41) → List (S41) → List (S41) → List (S41) → Bool → Option (Bool)
 | 0,_,_,_,_,_,_ => none
 | k + 1,x1,x4,x6,x10,x12,x85 => if x85 = true then (some false) else ((lease_Check.f k x1).bind fun t374 => (if t374 = 0 then (if 0 < (x1.length : Int) then ((lease_Check.f k (([(⟨(⟨(rd_T41 x1 0).f0.f0,(rd_T41 x1 0).f0.f1,(rd_T41 x1 0).f0.f2⟩ : S29),(rd_T41 x1 0).f1,(rd_T41 x1 0).f2,(rd_T41 x1 0).f3,(rd_T41 x1 0).f4,(rd_T41 x1 0).f5,(rd_T41 x1 0).f6⟩ : S41),(⟨(⟨(rd_T41 x1 0).f0.f0,(rd_T41 x1 0).f0.f1,(rd_T41 x1 0).f0.f2⟩ : S29),(rd_T41 x1 0).f1,(rd_T41 x1 0).f2,(rd_T41 x1 0).f3,(rd_T41 x1 0).f4,(rd_T41 x1 0).f5,(rd_T41 x1 0).f6⟩ : S41)] : List (S41)))).bind fun t380 => (if t380 = 7 then (if 0 < (x4.length : Int) then (if ((rd_T41 x4 0).f2) = 1 then (if ((rd_T41 x4 0).f4) = 25 then (if 0 < (x6.length : Int) then (if ((rd_T41 x6 0).f3) = 10 then (if ((rd_T41 x6 0).f4) = 25 then (if ((rd_T41 x6 0).f6) = 6 then (if 0 < (x10.length : Int) then (if ((rd_T41 x10 0).f2) = 3 then (if ((rd_T41 x10 0).f4) = 15 then (if 0 < (x12.length : Int) then (if ((rd_T41 x12 0).f2) = 4 then ((lease_Active.f k x1 19).bind fun t389 => (if (t389.length : Int) = 1 then ((lease_Taken.f k x1 (⟨#[98]⟩ : ByteArray) 19).bind fun t392 => (if (t392.length : Int) = 1 then ((ddilaw38_ten.f 1).bind fun bt395 => ((lease_Free.f k x1 bt395.1 bt395.2.1 bt395.2.2 (⟨#[97]⟩ : ByteArray) 19).bind fun t398 => (some t398))) else (some false))) else (some false))) else (some false)) else (none)) else (some false)) else (some false)) else (none)) else (some false)) else (some false)) else (some false)) else (none)) else (some false)) else (some false)) else (none)) else (some false))) else (none)) else (some false)))
def ddilaw38_awake.f (k : Nat)  : Option (Bool) := (ddilaw38_ten.f 1).bind fun bt330 => ((some (([(⟨(⟨bt330.1,bt330.2.1,bt330.2.2⟩ : S29),(⟨#[97]⟩ : ByteArray),2,10,20,(⟨#[]⟩ : ByteArray),5⟩ : S41)] : List (S41)) : List (S41))).bind fun y333 => ((ddilaw38_ten.f 1).bind fun bt336 => ((lease_Offer.f k y333 bt336.1 bt336.2.1 bt336.2.2 (⟨#[98]⟩ : ByteArray) 19 5).bind fun bt339 => ((ddilaw38_ten.f 1).bind fun bt343 => ((lease_Offer.f k y333 bt343.1 bt343.2.1 bt343.2.2 (⟨#[98]⟩ : ByteArray) 20 5).bind fun bt346 => ((ddilaw38_ten.f 1).bind fun bt350 => ((lease_Bind.f k y333 bt350.1 bt350.2.1 bt350.2.2 (⟨#[97]⟩ : ByteArray) (⟨#[]⟩ : ByteArray) 6 15 10).bind fun bt353 => ((ddilaw38_ten.f 1).bind fun bt357 => ((lease_Release.f k y333 bt357.1 bt357.2.1 bt357.2.2 (⟨#[97]⟩ : ByteArray) 4 15).bind fun bt360 => ((ddilaw38_ten.f 1).bind fun bt364 => ((lease_Release.f k y333 bt364.1 bt364.2.1 bt364.2.2 (⟨#[97]⟩ : ByteArray) 5 15).bind fun bt367 => ((lease_Expire.f k y333 20).bind fun t371 => (if bt339.2 = 23 then (if bt346.2 = 0 then (if bt353.2 = 0 then (if bt360.2 = 11 then (if bt367.2 = 0 then (if (bt346.1.length : Int) = 1 then (if (bt353.1.length : Int) = 1 then (if (bt367.1.length : Int) = 1 then (ddilaw38_awake.j0 k y333 bt346.1 bt353.1 bt367.1 t371 ((t371.length : Int) != 1)) else (ddilaw38_awake.j0 k y333 bt346.1 bt353.1 bt367.1 t371 true)) else (ddilaw38_awake.j0 k y333 bt346.1 bt353.1 bt367.1 t371 true)) else (ddilaw38_awake.j0 k y333 bt346.1 bt353.1 bt367.1 t371 true)) else (ddilaw38_awake.j0 k y333 bt346.1 bt353.1 bt367.1 t371 true)) else (ddilaw38_awake.j0 k y333 bt346.1 bt353.1 bt367.1 t371 true)) else (ddilaw38_awake.j0 k y333 bt346.1 bt353.1 bt367.1 t371 true)) else (ddilaw38_awake.j0 k y333 bt346.1 bt353.1 bt367.1 t371 true)) else (ddilaw38_awake.j0 k y333 bt346.1 bt353.1 bt367.1 t371 true))))))))))))))
theorem ddilaw38_awake.mono_l : ∀ k,(∀ y0 y1 y2 y3 y4 y5,LeO (ddilaw38_awake.j0 k y0 y1 y2 y3 y4 y5) (ddilaw38_awake.j0 (k + 1) y0 y1 y2 y3 y4 y5))
 | 0 => fun _ _ _ _ _ _ r h => by simp [ddilaw38_awake.j0] at h
 | k + 1 => by
  have ih0 := ddilaw38_awake.mono_l k
  ·intro y0 y1 y2 y3 y4 y5
   unfold ddilaw38_awake.j0
   repeat' first
   | (with_reducible exact ih0 _ _ _ _ _ _)
   | (with_reducible exact lease_Active.mono _ _ _)
   | (with_reducible exact lease_Bind.mono _ _ _ _ _ _ _ _ _ _)
   | (with_reducible exact lease_Check.mono _ _)
   | (with_reducible exact lease_Expire.mono _ _ _)
   | (with_reducible exact lease_Free.mono _ _ _ _ _ _ _)
   | (with_reducible exact lease_Offer.mono _ _ _ _ _ _ _ _)
   | (with_reducible exact lease_Release.mono _ _ _ _ _ _ _ _)
   | (with_reducible exact lease_Taken.mono _ _ _ _)
   | (with_reducible exact LeO.refl _)
   | (with_reducible exact LeO.none _)
   | (with_reducible refine LeO.ite ?_ ?_)
   | (with_reducible refine LeO.bind ?_ (fun _ => ?_))
theorem ddilaw38_awake.mono : ∀ k,LeO (ddilaw38_awake.f k ) (ddilaw38_awake.f (k + 1) ) := by
 intro  k
 have ih0 := ddilaw38_awake.mono_l k
 unfold ddilaw38_awake.f
 repeat' first
   | (with_reducible exact ih0 _ _ _ _ _ _)
   | (with_reducible exact lease_Active.mono _ _ _)
   | (with_reducible exact lease_Bind.mono _ _ _ _ _ _ _ _ _ _)
   | (with_reducible exact lease_Check.mono _ _)
   | (with_reducible exact lease_Expire.mono _ _ _)
   | (with_reducible exact lease_Free.mono _ _ _ _ _ _ _)
   | (with_reducible exact lease_Offer.mono _ _ _ _ _ _ _ _)
   | (with_reducible exact lease_Release.mono _ _ _ _ _ _ _ _)
   | (with_reducible exact lease_Taken.mono _ _ _ _)
   | (with_reducible exact LeO.refl _)
   | (with_reducible exact LeO.none _)
   | (with_reducible refine LeO.ite ?_ ?_)
   | (with_reducible refine LeO.bind ?_ (fun _ => ?_))
end Go.Proofs.YtonpcojdpfmbkaaDoor.QA
