import Derived.Test.YtioopjondjfchaaXR
import Derived.Test.YtioopjondjfchaaWMore
import Derived.Below
import Derived.Deep.Draws
import Derived.Deep.AppendLies
import Derived.Maps.AppendAt
import Derived.OwnWalk
import Derived.Laws.BytesArg
import Derived.Laws.MakeOwn
import Derived.Laws.OwnMore
import Derived.Deep.OwnRows
import Derived.Tactics
import Derived.Lib.ConvBytes
import Derived.Laws.Slices
import Derived.WalkKit
import Derived.KernelRfl
import Derived.RowKit3
import Derived.Deep.LoopGhost
import Derived.Deep.QuietTactic
import Derived.BigQuiet
import Derived.WideLaws
import Derived.Deep.DeepCutAuto
import Derived.Deep.CutBlock
import Derived.Deep.RegionHeld3
import Derived.Laws.Rows
import Derived.Lib.AppendStr
import Derived.ArgAppend
import Derived.Laws.IdiomCopy
import Derived.OrdersHeld
import Derived.Laws.BitsLemmas
import Derived.RowKit
namespace Go.Proofs.Ytioopjondjfchaa.QA
open Go.RowKit Go.Proofs.YtioopjondjfchaaW.PrintWords Go.Proofs.YtioopjondjfchaaW.PrintLast Go.Proofs.YtioopjondjfchaaW.PrintMore
set_option linter.unusedVariables false
structure S28 where
 f0 : Bool
 f1 : Int
 f2 : Int
def z28 : S28 := ⟨false,(0 : Int),(0 : Int)⟩
structure S70 where
 f0 : Int
 f1 : ByteArray
def z70 : S70 := ⟨(0 : Int),(⟨#[]⟩ : ByteArray)⟩
def rd_T70 (xs : List S70) (i : Int) : S70 := xs.getD i.toNat z70
structure S31 where
 f0 : Int
 f1 : Int
 f2 : Int
 f3 : ByteArray
 f4 : S28
 f5 : S28
 f6 : S28
 f7 : Bool
 f8 : (List S70)
def z31 : S31 := ⟨(0 : Int),(0 : Int),(0 : Int),(⟨#[]⟩ : ByteArray),z28,z28,z28,false,([] : List S70)⟩
structure S33 where
 f0 : S28
 f1 : ByteArray
 f2 : S31
 f3 : Int
def z33 : S33 := ⟨z28,(⟨#[]⟩ : ByteArray),z31,(0 : Int)⟩
def rd_T33 (xs : List S33) (i : Int) : S33 := xs.getD i.toNat z33
structure S54 where
 f0 : S28
 f1 : ByteArray
 f2 : S31
 f3 : Int
def z54 : S54 := ⟨z28,(⟨#[]⟩ : ByteArray),z31,(0 : Int)⟩
def rd_T54 (xs : List S54) (i : Int) : S54 := xs.getD i.toNat z54
structure S43 where
 f0 : Int
 f1 : S28
 f2 : S31
 f3 : Int
 f4 : Int
def z43 : S43 := ⟨(0 : Int),z28,z31,(0 : Int),(0 : Int)⟩
def rd_T43 (xs : List S43) (i : Int) : S43 := xs.getD i.toNat z43
def okS28 (x : S28) : Prop := True ∧ ((Lit.int .u64 x.f1).wf = true ∧ (Lit.int .u64 x.f2).wf = true)
def okS70 (x : S70) : Prop := (Lit.int .i64 x.f0).wf = true ∧ x.f1.size ≤ 140737488351232
def okS31 (x : S31) : Prop := (Lit.int .i64 x.f0).wf = true ∧ ((Lit.int .i64 x.f1).wf = true ∧ ((Lit.int .i64 x.f2).wf = true ∧ (x.f3.size ≤ 140737488351232 ∧ (okS28 x.f4 ∧ (okS28 x.f5 ∧ (okS28 x.f6 ∧ (True ∧ (x.f8.length * 24 ≤ 140737488351232 ∧ x.f8.length ≤ maxLen ∧ ∀ y0_ ∈ x.f8,okS70 y0_))))))))
def okS43 (x : S43) : Prop := (Lit.int .u8 x.f0).wf = true ∧ (okS28 x.f1 ∧ (okS31 x.f2 ∧ ((Lit.int .i64 x.f3).wf = true ∧ (Lit.int .i64 x.f4).wf = true)))
def addr_Valid.f (a0_0 : Bool) (a0_1 : Int) (a0_2 : Int) : Option (Bool) := if a0_0 = true then (some true) else (if a0_1 = 0 then (some (decide (a0_2 ≤ 4294967295))) else (some false))
def addr_number.f (a0 : Int) (a1 : Int) : Option (Int) := if a0 < a1 then (some (-1)) else (if a0 > a1 then (some 1) else (some 0))
def addr_Compare.j0 : Nat → Bool → Bool → Int → Int → Bool → Int → Int → Option (Int)
 | 0,_,_,_,_,_,_,_ => none
 | k + 1,x5,x103000,x103001,x103002,x104000,x104001,x104002 => if x5 = true then (some (-1)) else (if (x103000 != x104000) = true then (some 1) else (if x103001 = x104001 then ((addr_number.f x103002 x104002).bind fun t105 => (some t105)) else ((addr_number.f x103001 x104001).bind fun t104 => (some t104))))
def addr_Compare.f (k : Nat) (a0_0 : Bool) (a0_1 : Int) (a0_2 : Int) (a1_0 : Bool) (a1_1 : Int) (a1_2 : Int) : Option (Int) := if (a0_0 != a1_0) = true then (addr_Compare.j0 k a1_0 a0_0 a0_1 a0_2 a1_0 a1_1 a1_2) else (addr_Compare.j0 k false a0_0 a0_1 a0_2 a1_0 a1_1 a1_2)
theorem addr_Compare.mono_l : ∀ k,(∀ y0 y1 y2 y3 y4 y5 y6,LeO (addr_Compare.j0 k y0 y1 y2 y3 y4 y5 y6) (addr_Compare.j0 (k + 1) y0 y1 y2 y3 y4 y5 y6))
 | 0 => fun _ _ _ _ _ _ _ r h => by simp [addr_Compare.j0] at h
 | k + 1 => by
  have ih0 := addr_Compare.mono_l k
  ·intro y0 y1 y2 y3 y4 y5 y6
   unfold addr_Compare.j0
   repeat' first
   | (with_reducible exact ih0 _ _ _ _ _ _ _)
   | (with_reducible exact LeO.refl _)
   | (with_reducible exact LeO.none _)
   | (with_reducible refine LeO.ite ?_ ?_)
   | (with_reducible refine LeO.bind ?_ (fun _ => ?_))
theorem addr_Compare.mono : ∀ a0 a1 a2 a3 a4 a5 k,LeO (addr_Compare.f k a0 a1 a2 a3 a4 a5) (addr_Compare.f (k + 1) a0 a1 a2 a3 a4 a5) := by
 intro a0 a1 a2 a3 a4 a5 k
 have ih0 := addr_Compare.mono_l k
 unfold addr_Compare.f
 repeat' first
   | (with_reducible exact ih0 _ _ _ _ _ _ _)
   | (with_reducible exact LeO.refl _)
   | (with_reducible exact LeO.none _)
   | (with_reducible refine LeO.ite ?_ ?_)
   | (with_reducible refine LeO.bind ?_ (fun _ => ?_))
mutual
def probe_Check.l0 : Nat → List (S33) → List (S33) → Int → Int → Option (Int)
 | 0,_,_,_,_ => none
 | k + 1,x0,x8,x9,x10 => if x10 < x9 then (if 0 ≤ x10 then (if x10 < (x8.length : Int) then ((addr_Valid.f ((rd_T33 x8 x10).f0.f0) ((rd_T33 x8 x10).f0.f1) ((rd_T33 x8 x10).f0.f2)).bind fun t108 => (if t108 = true then (if x10 > 0 then (if 0 ≤ (wrap64 (x10 - 1)) then (if (wrap64 (x10 - 1)) < (x0.length : Int) then ((addr_Compare.f k ((rd_T33 x0 (wrap64 (x10 - 1))).f0.f0) ((rd_T33 x0 (wrap64 (x10 - 1))).f0.f1) ((rd_T33 x0 (wrap64 (x10 - 1))).f0.f2) ((rd_T33 x8 x10).f0.f0) ((rd_T33 x8 x10).f0.f1) ((rd_T33 x8 x10).f0.f2)).bind fun t110 => (probe_Check.j1 k x0 x8 x9 x10 (decide (t110 ≥ 0)))) else (none)) else (none)) else (probe_Check.j1 k x0 x8 x9 x10 false)) else (some 3))) else (none)) else (none)) else (some 0)
def probe_Check.j1 : Nat → List (S33) → List (S33) → Int → Int → Bool → Option (Int)
 | 0,_,_,_,_,_ => none
 | k + 1,x0,x8,x9,x10,x20 => if x20 = true then (some 7) else (probe_Check.l0 k x0 x8 x9 (wrap64 (x10 + 1)))
end
def probe_Check.f (k : Nat) (l0 : List (S33)) : Option (Int) := if (l0.length : Int) > 512 then (some 9) else (probe_Check.l0 k l0 l0 (l0.length : Int) 0)
theorem probe_Check.mono_l : ∀ k,(∀ y0 y1 y2 y3,LeO (probe_Check.l0 k y0 y1 y2 y3) (probe_Check.l0 (k + 1) y0 y1 y2 y3)) ∧ (∀ y0 y1 y2 y3 y4,LeO (probe_Check.j1 k y0 y1 y2 y3 y4) (probe_Check.j1 (k + 1) y0 y1 y2 y3 y4))
 | 0 => ⟨fun _ _ _ _ r h => by simp [probe_Check.l0] at h,fun _ _ _ _ _ r h => by simp [probe_Check.j1] at h⟩
 | k + 1 => by
  obtain ⟨ih0,ih1⟩ := probe_Check.mono_l k
  refine ⟨?_,?_⟩
  ·intro y0 y1 y2 y3
   unfold probe_Check.l0
   repeat' first
   | (with_reducible exact ih0 _ _ _ _)
   | (with_reducible exact ih1 _ _ _ _ _)
   | (with_reducible exact addr_Compare.mono _ _ _ _ _ _ _)
   | (with_reducible exact LeO.refl _)
   | (with_reducible exact LeO.none _)
   | (with_reducible refine LeO.ite ?_ ?_)
   | (with_reducible refine LeO.bind ?_ (fun _ => ?_))
  ·intro y0 y1 y2 y3 y4
   unfold probe_Check.j1
   repeat' first
   | (with_reducible exact ih0 _ _ _ _)
   | (with_reducible exact ih1 _ _ _ _ _)
   | (with_reducible exact addr_Compare.mono _ _ _ _ _ _ _)
   | (with_reducible exact LeO.refl _)
   | (with_reducible exact LeO.none _)
   | (with_reducible refine LeO.ite ?_ ?_)
   | (with_reducible refine LeO.bind ?_ (fun _ => ?_))
theorem probe_Check.mono : ∀ a0 k,LeO (probe_Check.f k a0) (probe_Check.f (k + 1) a0) := by
 intro a0 k
 obtain ⟨ih0,ih1⟩ := probe_Check.mono_l k
 unfold probe_Check.f
 repeat' first
   | (with_reducible exact ih0 _ _ _ _)
   | (with_reducible exact ih1 _ _ _ _ _)
   | (with_reducible exact addr_Compare.mono _ _ _ _ _ _ _)
   | (with_reducible exact LeO.refl _)
   | (with_reducible exact LeO.none _)
   | (with_reducible refine LeO.ite ?_ ?_)
   | (with_reducible refine LeO.bind ?_ (fun _ => ?_))
def probe_find_1.f (k : Nat) (a0_0 : Bool) (a0_1 : Int) (a0_2 : Int) (a0_3 : ByteArray) (a0_4 : Int) (a0_5 : Int) (a0_6 : Int) (a0_7 : ByteArray) (a0_8 : Bool) (a0_9 : Int) (a0_10 : Int) (a0_11 : Bool) (a0_12 : Int) (a0_13 : Int) (a0_14 : Bool) (a0_15 : Int) (a0_16 : Int) (a0_17 : Bool) (l0_18 : List (S70)) (a0_19 : Int) (a1_0 : Bool) (a1_1 : Int) (a1_2 : Int) : Option (Int) := (addr_Compare.f k a0_0 a0_1 a0_2 a1_0 a1_1 a1_2).bind fun t113 => (some t113)
theorem probe_find_1.mono : ∀ a0 a1 a2 a3 a4 a5 a6 a7 a8 a9 a10 a11 a12 a13 a14 a15 a16 a17 a18 a19 a20 a21 a22 k,LeO (probe_find_1.f k a0 a1 a2 a3 a4 a5 a6 a7 a8 a9 a10 a11 a12 a13 a14 a15 a16 a17 a18 a19 a20 a21 a22) (probe_find_1.f (k + 1) a0 a1 a2 a3 a4 a5 a6 a7 a8 a9 a10 a11 a12 a13 a14 a15 a16 a17 a18 a19 a20 a21 a22) := by
 intro a0 a1 a2 a3 a4 a5 a6 a7 a8 a9 a10 a11 a12 a13 a14 a15 a16 a17 a18 a19 a20 a21 a22 k
 unfold probe_find_1.f
 repeat' first
   | (with_reducible exact addr_Compare.mono _ _ _ _ _ _ _)
   | (with_reducible exact LeO.refl _)
   | (with_reducible exact LeO.none _)
   | (with_reducible refine LeO.ite ?_ ?_)
   | (with_reducible refine LeO.bind ?_ (fun _ => ?_))
def slices_BinarySearchFunc_34.l0 : Nat → List (S33) → Int → Int → Int → Bool → Int → Int → Option (Int × Bool)
 | 0,_,_,_,_,_,_,_ => none
 | k + 1,x0,x8,x9,x10,x115000,x115001,x115002 => if x9 < x10 then (if 0 ≤ (wrap64 ((IntKind.u64.wrap (wrap64 (x9 + x10))) / 2)) then (if (wrap64 ((IntKind.u64.wrap (wrap64 (x9 + x10))) / 2)) < (x0.length : Int) then ((probe_find_1.f k ((rd_T33 x0 (wrap64 ((IntKind.u64.wrap (wrap64 (x9 + x10))) / 2))).f0.f0) ((rd_T33 x0 (wrap64 ((IntKind.u64.wrap (wrap64 (x9 + x10))) / 2))).f0.f1) ((rd_T33 x0 (wrap64 ((IntKind.u64.wrap (wrap64 (x9 + x10))) / 2))).f0.f2) ((rd_T33 x0 (wrap64 ((IntKind.u64.wrap (wrap64 (x9 + x10))) / 2))).f1) ((rd_T33 x0 (wrap64 ((IntKind.u64.wrap (wrap64 (x9 + x10))) / 2))).f2.f0) ((rd_T33 x0 (wrap64 ((IntKind.u64.wrap (wrap64 (x9 + x10))) / 2))).f2.f1) ((rd_T33 x0 (wrap64 ((IntKind.u64.wrap (wrap64 (x9 + x10))) / 2))).f2.f2) ((rd_T33 x0 (wrap64 ((IntKind.u64.wrap (wrap64 (x9 + x10))) / 2))).f2.f3) ((rd_T33 x0 (wrap64 ((IntKind.u64.wrap (wrap64 (x9 + x10))) / 2))).f2.f4.f0) ((rd_T33 x0 (wrap64 ((IntKind.u64.wrap (wrap64 (x9 + x10))) / 2))).f2.f4.f1) ((rd_T33 x0 (wrap64 ((IntKind.u64.wrap (wrap64 (x9 + x10))) / 2))).f2.f4.f2) ((rd_T33 x0 (wrap64 ((IntKind.u64.wrap (wrap64 (x9 + x10))) / 2))).f2.f5.f0) ((rd_T33 x0 (wrap64 ((IntKind.u64.wrap (wrap64 (x9 + x10))) / 2))).f2.f5.f1) ((rd_T33 x0 (wrap64 ((IntKind.u64.wrap (wrap64 (x9 + x10))) / 2))).f2.f5.f2) ((rd_T33 x0 (wrap64 ((IntKind.u64.wrap (wrap64 (x9 + x10))) / 2))).f2.f6.f0) ((rd_T33 x0 (wrap64 ((IntKind.u64.wrap (wrap64 (x9 + x10))) / 2))).f2.f6.f1) ((rd_T33 x0 (wrap64 ((IntKind.u64.wrap (wrap64 (x9 + x10))) / 2))).f2.f6.f2) ((rd_T33 x0 (wrap64 ((IntKind.u64.wrap (wrap64 (x9 + x10))) / 2))).f2.f7) ((rd_T33 x0 (wrap64 ((IntKind.u64.wrap (wrap64 (x9 + x10))) / 2))).f2.f8) ((rd_T33 x0 (wrap64 ((IntKind.u64.wrap (wrap64 (x9 + x10))) / 2))).f3) x115000 x115001 x115002).bind fun t116 => (if t116 < 0 then (slices_BinarySearchFunc_34.l0 k x0 x8 (wrap64 ((wrap64 ((IntKind.u64.wrap (wrap64 (x9 + x10))) / 2)) + 1)) x10 x115000 x115001 x115002) else (slices_BinarySearchFunc_34.l0 k x0 x8 x9 (wrap64 ((IntKind.u64.wrap (wrap64 (x9 + x10))) / 2)) x115000 x115001 x115002))) else (none)) else (none)) else (if x9 < x8 then (if 0 ≤ x9 then (if x9 < (x0.length : Int) then ((probe_find_1.f k ((rd_T33 x0 x9).f0.f0) ((rd_T33 x0 x9).f0.f1) ((rd_T33 x0 x9).f0.f2) ((rd_T33 x0 x9).f1) ((rd_T33 x0 x9).f2.f0) ((rd_T33 x0 x9).f2.f1) ((rd_T33 x0 x9).f2.f2) ((rd_T33 x0 x9).f2.f3) ((rd_T33 x0 x9).f2.f4.f0) ((rd_T33 x0 x9).f2.f4.f1) ((rd_T33 x0 x9).f2.f4.f2) ((rd_T33 x0 x9).f2.f5.f0) ((rd_T33 x0 x9).f2.f5.f1) ((rd_T33 x0 x9).f2.f5.f2) ((rd_T33 x0 x9).f2.f6.f0) ((rd_T33 x0 x9).f2.f6.f1) ((rd_T33 x0 x9).f2.f6.f2) ((rd_T33 x0 x9).f2.f7) ((rd_T33 x0 x9).f2.f8) ((rd_T33 x0 x9).f3) x115000 x115001 x115002).bind fun t118 => (some (x9,(t118 == 0)))) else (none)) else (none)) else (some (x9,false)))
def slices_BinarySearchFunc_34.f (k : Nat) (l0 : List (S33)) (a1_0 : Bool) (a1_1 : Int) (a1_2 : Int)  : Option (Int × Bool) := slices_BinarySearchFunc_34.l0 k l0 (l0.length : Int) 0 (l0.length : Int) a1_0 a1_1 a1_2
theorem slices_BinarySearchFunc_34.mono_l : ∀ k,(∀ y0 y1 y2 y3 y4 y5 y6,LeO (slices_BinarySearchFunc_34.l0 k y0 y1 y2 y3 y4 y5 y6) (slices_BinarySearchFunc_34.l0 (k + 1) y0 y1 y2 y3 y4 y5 y6))
 | 0 => fun _ _ _ _ _ _ _ r h => by simp [slices_BinarySearchFunc_34.l0] at h
 | k + 1 => by
  have ih0 := slices_BinarySearchFunc_34.mono_l k
  ·intro y0 y1 y2 y3 y4 y5 y6
   unfold slices_BinarySearchFunc_34.l0
   repeat' first
   | (with_reducible exact ih0 _ _ _ _ _ _ _)
   | (with_reducible exact probe_find_1.mono _ _ _ _ _ _ _ _ _ _ _ _ _ _ _ _ _ _ _ _ _ _ _ _)
   | (with_reducible exact LeO.refl _)
   | (with_reducible exact LeO.none _)
   | (with_reducible refine LeO.ite ?_ ?_)
   | (with_reducible refine LeO.bind ?_ (fun _ => ?_))
theorem slices_BinarySearchFunc_34.mono : ∀ a0 a1 a2 a3 k,LeO (slices_BinarySearchFunc_34.f k a0 a1 a2 a3) (slices_BinarySearchFunc_34.f (k + 1) a0 a1 a2 a3) := by
 intro a0 a1 a2 a3 k
 have ih0 := slices_BinarySearchFunc_34.mono_l k
 unfold slices_BinarySearchFunc_34.f
 repeat' first
   | (with_reducible exact ih0 _ _ _ _ _ _ _)
   | (with_reducible exact probe_find_1.mono _ _ _ _ _ _ _ _ _ _ _ _ _ _ _ _ _ _ _ _ _ _ _ _)
   | (with_reducible exact LeO.refl _)
   | (with_reducible exact LeO.none _)
   | (with_reducible refine LeO.ite ?_ ?_)
   | (with_reducible refine LeO.bind ?_ (fun _ => ?_))
def probe_find.f (k : Nat) (l0 : List (S33)) (a1_0 : Bool) (a1_1 : Int) (a1_2 : Int) : Option (Int × Bool) := (slices_BinarySearchFunc_34.f k l0 a1_0 a1_1 a1_2).bind fun bt120 => (some (bt120.1,bt120.2))
theorem probe_find.mono : ∀ a0 a1 a2 a3 k,LeO (probe_find.f k a0 a1 a2 a3) (probe_find.f (k + 1) a0 a1 a2 a3) := by
 intro a0 a1 a2 a3 k
 unfold probe_find.f
 repeat' first
   | (with_reducible exact slices_BinarySearchFunc_34.mono _ _ _ _ _)
   | (with_reducible exact LeO.refl _)
   | (with_reducible exact LeO.none _)
   | (with_reducible refine LeO.ite ?_ ?_)
   | (with_reducible refine LeO.bind ?_ (fun _ => ?_))
def probe_Pending.f (k : Nat) (l0 : List (S33)) (a1_0 : Bool) (a1_1 : Int) (a1_2 : Int) : Option (Bool × Int × Int × ByteArray × Int × Int × Int × ByteArray × Bool × Int × Int × Bool × Int × Int × Bool × Int × Int × Bool × (List (S70)) × Int × Bool) := (probe_find.f k l0 a1_0 a1_1 a1_2).bind fun bt124 => (if bt124.2 = true then (if 0 ≤ bt124.1 then (if bt124.1 < (l0.length : Int) then (some ((rd_T33 l0 bt124.1).f0.f0,(rd_T33 l0 bt124.1).f0.f1,(rd_T33 l0 bt124.1).f0.f2,(rd_T33 l0 bt124.1).f1,(rd_T33 l0 bt124.1).f2.f0,(rd_T33 l0 bt124.1).f2.f1,(rd_T33 l0 bt124.1).f2.f2,(rd_T33 l0 bt124.1).f2.f3,(rd_T33 l0 bt124.1).f2.f4.f0,(rd_T33 l0 bt124.1).f2.f4.f1,(rd_T33 l0 bt124.1).f2.f4.f2,(rd_T33 l0 bt124.1).f2.f5.f0,(rd_T33 l0 bt124.1).f2.f5.f1,(rd_T33 l0 bt124.1).f2.f5.f2,(rd_T33 l0 bt124.1).f2.f6.f0,(rd_T33 l0 bt124.1).f2.f6.f1,(rd_T33 l0 bt124.1).f2.f6.f2,(rd_T33 l0 bt124.1).f2.f7,(rd_T33 l0 bt124.1).f2.f8,(rd_T33 l0 bt124.1).f3,true)) else (none)) else (none)) else (some (false,0,0,(⟨#[]⟩ : ByteArray),0,0,0,(⟨#[]⟩ : ByteArray),false,0,0,false,0,0,false,0,0,false,([] : List (S70)),0,false)))
theorem probe_Pending.mono : ∀ a0 a1 a2 a3 k,LeO (probe_Pending.f k a0 a1 a2 a3) (probe_Pending.f (k + 1) a0 a1 a2 a3) := by
 intro a0 a1 a2 a3 k
 unfold probe_Pending.f
 repeat' first
   | (with_reducible exact probe_find.mono _ _ _ _ _)
   | (with_reducible exact LeO.refl _)
   | (with_reducible exact LeO.none _)
   | (with_reducible refine LeO.ite ?_ ?_)
   | (with_reducible refine LeO.bind ?_ (fun _ => ?_))
def slices_Clone_27.f (l0 : List (S70)) : Option (List (S70)) := if l0.length * 24 ≤ 140737488355328 then some l0 else none
def slices_Insert_raw.f (l0 : List (List Value)) (a1 : Int) (l2 : List (List Value)) : Option (List (List Value)) :=
 if 0 ≤ a1 then (if a1 ≤ (l0.length : Int) then (if (l0.length + l2.length) * 192 ≤ 140737488355328 then some (l0.take a1.toNat ++ l2 ++ l0.drop a1.toNat) else none) else none) else none
def slices_Insert.f (l0 : List (S33)) (a1 : Int) (l2 : List (S33)) : Option (List (S33)) :=
 if 0 ≤ a1 then (if a1 ≤ (l0.length : Int) then (if (l0.length + l2.length) * 192 ≤ 140737488355328 then some (l0.take a1.toNat ++ l2 ++ l0.drop a1.toNat) else none) else none) else none
def slices_Clone_29.f (l0 : List (S33)) : Option (List (S33)) := if l0.length * 192 ≤ 140737488355328 then some l0 else none
def probe_until.f (a0 : Int) (a1 : Int) : Option (Int) := if a1 > (wrap64 (4294967295 - a0)) then (some 4294967295) else (some (wrap64 (a0 + a1)))
def probe_Start.j0 : Nat → List (S33) → Int → Int → Int → Bool → Bool → Int → Int → Int → Int → Int → ByteArray → Bool → Int → Int → Bool → Int → Int → Bool → Int → Int → Bool → List (S70) → Option ((List (S33)) × Int)
 | 0,_,_,_,_,_,_,_,_,_,_,_,_,_,_,_,_,_,_,_,_,_,_,_ => none
 | k + 1,x0,x3,x4,x12,x26,x134000,x134001,x134002,x135000,x135001,x135002,x135003,x135004,x135005,x135006,x135007,x135008,x135009,x135010,x135011,x135012,x135013,x135014 => if x26 = true then (some (([] : List (S33)),1)) else (if (x0.length : Int) ≥ 512 then (some (([] : List (S33)),9)) else ((slices_Clone_27.f x135014).bind fun t138 => ((slices_Clone_29.f x0).bind fun t141 => ((probe_until.f x3 x4).bind fun t144 => ((slices_Insert.f t141 x12 (([(⟨(⟨x134000,x134001,x134002⟩ : S28),x135003,(⟨x135000,x135001,x135002,x135003,(⟨x135004,x135005,x135006⟩ : S28),(⟨x135007,x135008,x135009⟩ : S28),(⟨x135010,x135011,x135012⟩ : S28),x135013,t138⟩ : S31),t144⟩ : S33)] : List (S33)))).bind fun t148 => (some (t148,0)))))))
def probe_Start.f (k : Nat) (l0 : List (S33)) (a1_0 : Bool) (a1_1 : Int) (a1_2 : Int) (a2_0 : Int) (a2_1 : Int) (a2_2 : Int) (a2_3 : ByteArray) (a2_4 : Bool) (a2_5 : Int) (a2_6 : Int) (a2_7 : Bool) (a2_8 : Int) (a2_9 : Int) (a2_10 : Bool) (a2_11 : Int) (a2_12 : Int) (a2_13 : Bool) (l2_14 : List (S70)) (a3 : Int) (a4 : Int) : Option ((List (S33)) × Int) := (probe_find.f k l0 a1_0 a1_1 a1_2).bind fun bt135 => ((addr_Valid.f a1_0 a1_1 a1_2).bind fun t137 => (if t137 = true then (if bt135.2 = true then (some (([] : List (S33)),23)) else (if a3 < 0 then (probe_Start.j0 k l0 a3 a4 bt135.1 true a1_0 a1_1 a1_2 a2_0 a2_1 a2_2 a2_3 a2_4 a2_5 a2_6 a2_7 a2_8 a2_9 a2_10 a2_11 a2_12 a2_13 l2_14) else (if a3 > 4294967295 then (probe_Start.j0 k l0 a3 a4 bt135.1 true a1_0 a1_1 a1_2 a2_0 a2_1 a2_2 a2_3 a2_4 a2_5 a2_6 a2_7 a2_8 a2_9 a2_10 a2_11 a2_12 a2_13 l2_14) else (probe_Start.j0 k l0 a3 a4 bt135.1 (decide (a4 < 0)) a1_0 a1_1 a1_2 a2_0 a2_1 a2_2 a2_3 a2_4 a2_5 a2_6 a2_7 a2_8 a2_9 a2_10 a2_11 a2_12 a2_13 l2_14)))) else (some (([] : List (S33)),3))))
theorem probe_Start.mono_l : ∀ k,(∀ y0 y1 y2 y3 y4 y5 y6 y7 y8 y9 y10 y11 y12 y13 y14 y15 y16 y17 y18 y19 y20 y21 y22,LeO (probe_Start.j0 k y0 y1 y2 y3 y4 y5 y6 y7 y8 y9 y10 y11 y12 y13 y14 y15 y16 y17 y18 y19 y20 y21 y22) (probe_Start.j0 (k + 1) y0 y1 y2 y3 y4 y5 y6 y7 y8 y9 y10 y11 y12 y13 y14 y15 y16 y17 y18 y19 y20 y21 y22))
 | 0 => fun _ _ _ _ _ _ _ _ _ _ _ _ _ _ _ _ _ _ _ _ _ _ _ r h => by simp [probe_Start.j0] at h
 | k + 1 => by
  have ih0 := probe_Start.mono_l k
  ·intro y0 y1 y2 y3 y4 y5 y6 y7 y8 y9 y10 y11 y12 y13 y14 y15 y16 y17 y18 y19 y20 y21 y22
   unfold probe_Start.j0
   repeat' first
   | (with_reducible exact ih0 _ _ _ _ _ _ _ _ _ _ _ _ _ _ _ _ _ _ _ _ _ _ _)
   | (with_reducible exact probe_find.mono _ _ _ _ _)
   | (with_reducible exact LeO.refl _)
   | (with_reducible exact LeO.none _)
   | (with_reducible refine LeO.ite ?_ ?_)
   | (with_reducible refine LeO.bind ?_ (fun _ => ?_))
theorem probe_Start.mono : ∀ a0 a1 a2 a3 a4 a5 a6 a7 a8 a9 a10 a11 a12 a13 a14 a15 a16 a17 a18 a19 a20 k,LeO (probe_Start.f k a0 a1 a2 a3 a4 a5 a6 a7 a8 a9 a10 a11 a12 a13 a14 a15 a16 a17 a18 a19 a20) (probe_Start.f (k + 1) a0 a1 a2 a3 a4 a5 a6 a7 a8 a9 a10 a11 a12 a13 a14 a15 a16 a17 a18 a19 a20) := by
 intro a0 a1 a2 a3 a4 a5 a6 a7 a8 a9 a10 a11 a12 a13 a14 a15 a16 a17 a18 a19 a20 k
 have ih0 := probe_Start.mono_l k
 unfold probe_Start.f
 repeat' first
   | (with_reducible exact ih0 _ _ _ _ _ _ _ _ _ _ _ _ _ _ _ _ _ _ _ _ _ _ _)
   | (with_reducible exact probe_find.mono _ _ _ _ _)
   | (with_reducible exact LeO.refl _)
   | (with_reducible exact LeO.none _)
   | (with_reducible refine LeO.ite ?_ ?_)
   | (with_reducible refine LeO.bind ?_ (fun _ => ?_))
def ddilaw40_awake.f (k : Nat)  : Option (Bool) := (probe_Start.f k ([] : List (S33)) false 0 1 0 0 0 (⟨#[99]⟩ : ByteArray) false 0 0 false 0 0 false 0 0 false ([] : List (S70)) 4 3).bind fun bt151 => ((probe_Pending.f k bt151.1 false 0 1).bind fun bt155 => (if bt151.2 = 0 then (if (bt151.1.length : Int) = 1 then (if bt155.2.2.2.2.2.2.2.2.2.2.2.2.2.2.2.2.2.2.2.2 = true then (if bt155.2.2.2.2.2.2.2.2.2.2.2.2.2.2.2.2.2.2.2.1 = 7 then (if bt155.2.2.2.1.toList = ([99] : List UInt8) then ((probe_Check.f k bt151.1).bind fun t179 => (some (t179 == 0))) else (some false)) else (some false)) else (some false)) else (some false)) else (some false)))
theorem ddilaw40_awake.mono : ∀ k,LeO (ddilaw40_awake.f k ) (ddilaw40_awake.f (k + 1) ) := by
 intro  k
 unfold ddilaw40_awake.f
 repeat' first
   | (with_reducible exact probe_Check.mono _ _)
   | (with_reducible exact probe_Pending.mono _ _ _ _ _)
   | (with_reducible exact probe_Start.mono _ _ _ _ _ _ _ _ _ _ _ _ _ _ _ _ _ _ _ _ _ _)
   | (with_reducible exact LeO.refl _)
   | (with_reducible exact LeO.none _)
   | (with_reducible refine LeO.ite ?_ ?_)
   | (with_reducible refine LeO.bind ?_ (fun _ => ?_))
def ddiref02_Valid.f (a0_0 : Bool) (a0_1 : Int) (a0_2 : Int) : Option (Bool) := if a0_0 = true then (some true) else (if a0_1 = 0 then (some (decide (a0_2 < 4294967296))) else (some false))
def ddiref02_Compare.f (a0_0 : Bool) (a0_1 : Int) (a0_2 : Int) (a1_0 : Bool) (a1_1 : Int) (a1_2 : Int) : Option (Int) := if (a0_0 != a1_0) = true then (if a1_0 = true then (some (-1)) else (some 1)) else (if a0_1 = a1_1 then (if a0_2 < a1_2 then (some (-1)) else (if a0_2 > a1_2 then (some 1) else (some 0))) else (if a0_1 < a1_1 then (some (-1)) else (some 1)))
end Go.Proofs.Ytioopjondjfchaa.QA
