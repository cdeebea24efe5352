import Derived.Test.YthjngcjhjnigjaaXR
import Derived.Test.YthjngcjhjnigjaaWMore
import Derived.Below
import Derived.Deep.Draws
import Derived.Deep.AppendLies
import Derived.Maps.AppendAt
import Derived.OwnWalk
import Derived.Laws.BytesArg
import Derived.Laws.MakeOwn
import Derived.Laws.OwnMore
import Derived.Deep.OwnRows
import Derived.Tactics
import Derived.Lib.ConvBytes
import Derived.Laws.Slices
import Derived.WalkKit
import Derived.KernelRfl
import Derived.RowKit3
import Derived.Deep.LoopGhost
import Derived.Deep.QuietTactic
import Derived.BigQuiet
import Derived.WideLaws
import Derived.Deep.DeepCutAuto
import Derived.Deep.CutBlock
import Derived.Deep.RegionHeld3
import Derived.Laws.Rows
import Derived.Lib.AppendStr
import Derived.ArgAppend
import Derived.Laws.IdiomCopy
import Derived.OrdersHeld
import Derived.Laws.BitsLemmas
import Derived.RowKit
namespace Go.Proofs.Ythjngcjhjnigjaa.QA
open Go.RowKit Go.Proofs.YthjngcjhjnigjaaW.PrintWords Go.Proofs.YthjngcjhjnigjaaW.PrintLast Go.Proofs.YthjngcjhjnigjaaW.PrintMore
set_option linter.unusedVariables false
structure S24 where
 f0 : Bool
 f1 : Int
 f2 : Int
def z24 : S24 := ⟨false,(0 : Int),(0 : Int)⟩
structure S26 where
 f0 : S24
 f1 : Int
def z26 : S26 := ⟨z24,(0 : Int)⟩
structure S70 where
 f0 : S26
 f1 : ByteArray
 f2 : Int
def z70 : S70 := ⟨z26,(⟨#[]⟩ : ByteArray),(0 : Int)⟩
def rd_T70 (xs : List S70) (i : Int) : S70 := xs.getD i.toNat z70
structure S61 where
 f0 : S26
 f1 : ByteArray
 f2 : Int
def z61 : S61 := ⟨z26,(⟨#[]⟩ : ByteArray),(0 : Int)⟩
def rd_T61 (xs : List S61) (i : Int) : S61 := xs.getD i.toNat z61
structure S28 where
 f0 : S26
 f1 : Int
structure S31 where
 f0 : ByteArray
 f1 : S26
 f2 : Int
 f3 : Int
def okS24 (x : S24) : Prop := True ∧ ((Lit.int .u64 x.f1).wf = true ∧ (Lit.int .u64 x.f2).wf = true)
def okS26 (x : S26) : Prop := okS24 x.f0 ∧ (Lit.int .i64 x.f1).wf = true
def okS28 (x : S28) : Prop := okS26 x.f0 ∧ (Lit.int .i64 x.f1).wf = true
def okS70 (x : S70) : Prop := okS26 x.f0 ∧ (x.f1.size ≤ 140737488351232 ∧ (Lit.int .i64 x.f2).wf = true)
def okS31 (x : S31) : Prop := x.f0.size ≤ 140737488351232 ∧ (okS26 x.f1 ∧ ((Lit.int .i64 x.f2).wf = true ∧ (Lit.int .i64 x.f3).wf = true))
mutual
def ddilaw43_own.l0 : Nat → List (S70) → List (S61) → Int → Option ((List (S61)))
 | 0,_,_,_ => none
 | k + 1,x0,x3,x4 => if x4 < (x0.length : Int) then (ddilaw43_own.j1 k x0 x3 x4 (decide (x4 < 40))) else (ddilaw43_own.j1 k x0 x3 x4 false)
def ddilaw43_own.j1 : Nat → List (S70) → List (S61) → Int → Bool → Option ((List (S61)))
 | 0,_,_,_,_ => none
 | k + 1,x0,x3,x4,x13 => if x13 = true then (if 0 ≤ x4 then (if x4 < (x0.length : Int) then (if 0 ≤ (mn (((rd_T70 x0 x4).f1).size : Int) 100) then (if (mn (((rd_T70 x0 x4).f1).size : Int) 100) ≤ (((rd_T70 x0 x4).f1).size : Int) then (if x3.length < 2513169434916 then (ddilaw43_own.l0 k x0 (x3 ++ [(⟨(⟨(⟨(rd_T70 x0 x4).f0.f0.f0,(rd_T70 x0 x4).f0.f0.f1,(rd_T70 x0 x4).f0.f0.f2⟩ : S24),(rd_T70 x0 x4).f0.f1⟩ : S26),((rd_T70 x0 x4).f1).extract 0 ((mn (((rd_T70 x0 x4).f1).size : Int) 100) : Int).toNat,(rd_T70 x0 x4).f2⟩ : S61)]) (wrap64 (x4 + 1))) else (none)) else (none)) else (none)) else (none)) else (none)) else (some x3)
end
def ddilaw43_own.f (k : Nat) (l0 : List (S70)) : Option ((List (S61))) := ddilaw43_own.l0 k l0 ([] : List (S61)) 0
def addr_Valid.f (a0_0 : Bool) (a0_1 : Int) (a0_2 : Int) : Option (Bool) := if a0_0 = true then (some true) else (if a0_1 = 0 then (some (decide (a0_2 ≤ 4294967295))) else (some false))
def prefix_length.f (a0_0 : Bool) (a0_1 : Int) (a0_2 : Int) : Option (Int) := if a0_0 = true then (some 128) else (some 32)
def prefix_later.f (a0 : Bool) (a1 : Int) : Option (Int × Int) := if a0 = true then (if a1 ≥ 64 then (if 0 ≤ (IntKind.u64.wrap (wrap64 (128 - a1))) then (some (0,IntKind.u64.wrap ((shl .u64 1 (IntKind.u64.wrap (wrap64 (128 - a1)))) - 1))) else (none)) else (if 0 ≤ (IntKind.u64.wrap (wrap64 (64 - a1))) then (some (IntKind.u64.wrap ((shl .u64 1 (IntKind.u64.wrap (wrap64 (64 - a1)))) - 1),18446744073709551615)) else (none))) else (if 0 ≤ (IntKind.u64.wrap (wrap64 (32 - a1))) then (some (0,IntKind.u64.wrap ((shl .u64 1 (IntKind.u64.wrap (wrap64 (32 - a1)))) - 1))) else (none))
def prefix_Valid.j0 : Nat → Bool → Bool → Int → Int → Int → Option (Bool)
 | 0,_,_,_,_,_ => none
 | k + 1,x21,x117000,x117001,x117002,x117003 => if x21 = true then (some false) else ((prefix_later.f x117000 x117003).bind fun bt119 => (if (Go.bits .and .u64 x117001 bt119.1) = 0 then (some ((Go.bits .and .u64 x117002 bt119.2) == 0)) else (some false)))
def prefix_Valid.f (k : Nat) (a0_0 : Bool) (a0_1 : Int) (a0_2 : Int) (a0_3 : Int) : Option (Bool) := (addr_Valid.f a0_0 a0_1 a0_2).bind fun t117 => (if t117 = true then (if a0_3 < 0 then (prefix_Valid.j0 k true a0_0 a0_1 a0_2 a0_3) else ((prefix_length.f a0_0 a0_1 a0_2).bind fun t118 => (prefix_Valid.j0 k (decide (a0_3 > t118)) a0_0 a0_1 a0_2 a0_3))) else (prefix_Valid.j0 k true a0_0 a0_1 a0_2 a0_3))
theorem prefix_Valid.mono_l : ∀ k,(∀ y0 y1 y2 y3 y4,LeO (prefix_Valid.j0 k y0 y1 y2 y3 y4) (prefix_Valid.j0 (k + 1) y0 y1 y2 y3 y4))
 | 0 => fun _ _ _ _ _ r h => by simp [prefix_Valid.j0] at h
 | k + 1 => by
  have ih0 := prefix_Valid.mono_l k
  ·intro y0 y1 y2 y3 y4
   unfold prefix_Valid.j0
   repeat' first
   | (with_reducible exact ih0 _ _ _ _ _)
   | (with_reducible exact LeO.refl _)
   | (with_reducible exact LeO.none _)
   | (with_reducible refine LeO.ite ?_ ?_)
   | (with_reducible refine LeO.bind ?_ (fun _ => ?_))
theorem prefix_Valid.mono : ∀ a0 a1 a2 a3 k,LeO (prefix_Valid.f k a0 a1 a2 a3) (prefix_Valid.f (k + 1) a0 a1 a2 a3) := by
 intro a0 a1 a2 a3 k
 have ih0 := prefix_Valid.mono_l k
 unfold prefix_Valid.f
 repeat' first
   | (with_reducible exact ih0 _ _ _ _ _)
   | (with_reducible exact LeO.refl _)
   | (with_reducible exact LeO.none _)
   | (with_reducible refine LeO.ite ?_ ?_)
   | (with_reducible refine LeO.bind ?_ (fun _ => ?_))
def prefix_Of.j0 : Nat → Int → Bool → Bool → Int → Int → Option (Bool × Int × Int × Int × Bool)
 | 0,_,_,_,_,_ => none
 | k + 1,x1,x20,x122000,x122001,x122002 => if x20 = true then (some (false,0,0,0,false)) else ((prefix_later.f x122000 x1).bind fun bt125 => (some (x122000,Go.bits .andNot .u64 x122001 bt125.1,Go.bits .andNot .u64 x122002 bt125.2,x1,true)))
def prefix_Of.f (k : Nat) (a0_0 : Bool) (a0_1 : Int) (a0_2 : Int) (a1 : Int) : Option (Bool × Int × Int × Int × Bool) := (addr_Valid.f a0_0 a0_1 a0_2).bind fun t123 => (if t123 = true then (if a1 < 0 then (prefix_Of.j0 k a1 true a0_0 a0_1 a0_2) else ((prefix_length.f a0_0 a0_1 a0_2).bind fun t124 => (prefix_Of.j0 k a1 (decide (a1 > t124)) a0_0 a0_1 a0_2))) else (prefix_Of.j0 k a1 true a0_0 a0_1 a0_2))
theorem prefix_Of.mono_l : ∀ k,(∀ y0 y1 y2 y3 y4,LeO (prefix_Of.j0 k y0 y1 y2 y3 y4) (prefix_Of.j0 (k + 1) y0 y1 y2 y3 y4))
 | 0 => fun _ _ _ _ _ r h => by simp [prefix_Of.j0] at h
 | k + 1 => by
  have ih0 := prefix_Of.mono_l k
  ·intro y0 y1 y2 y3 y4
   unfold prefix_Of.j0
   repeat' first
   | (with_reducible exact ih0 _ _ _ _ _)
   | (with_reducible exact LeO.refl _)
   | (with_reducible exact LeO.none _)
   | (with_reducible refine LeO.ite ?_ ?_)
   | (with_reducible refine LeO.bind ?_ (fun _ => ?_))
theorem prefix_Of.mono : ∀ a0 a1 a2 a3 k,LeO (prefix_Of.f k a0 a1 a2 a3) (prefix_Of.f (k + 1) a0 a1 a2 a3) := by
 intro a0 a1 a2 a3 k
 have ih0 := prefix_Of.mono_l k
 unfold prefix_Of.f
 repeat' first
   | (with_reducible exact ih0 _ _ _ _ _)
   | (with_reducible exact LeO.refl _)
   | (with_reducible exact LeO.none _)
   | (with_reducible refine LeO.ite ?_ ?_)
   | (with_reducible refine LeO.bind ?_ (fun _ => ?_))
def prefix_Contains.j0 : Nat → Bool → Bool → Int → Int → Int → Bool → Int → Int → Option (Bool)
 | 0,_,_,_,_,_,_,_,_ => none
 | k + 1,x17,x128000,x128001,x128002,x128003,x129000,x129001,x129002 => if x17 = true then (some false) else ((prefix_Of.f k x129000 x129001 x129002 x128003).bind fun bt130 => (if bt130.2.2.2.2 = true then (some ((bt130.1 == x128000 && (bt130.2.1 == x128001 && (bt130.2.2.1 == x128002))) && (bt130.2.2.2.1 == x128003))) else (some false)))
def prefix_Contains.f (k : Nat) (a0_0 : Bool) (a0_1 : Int) (a0_2 : Int) (a0_3 : Int) (a1_0 : Bool) (a1_1 : Int) (a1_2 : Int) : Option (Bool) := (prefix_Valid.f k a0_0 a0_1 a0_2 a0_3).bind fun t129 => (if t129 = true then (prefix_Contains.j0 k (a0_0 != a1_0) a0_0 a0_1 a0_2 a0_3 a1_0 a1_1 a1_2) else (prefix_Contains.j0 k true a0_0 a0_1 a0_2 a0_3 a1_0 a1_1 a1_2))
theorem prefix_Contains.mono_l : ∀ k,(∀ y0 y1 y2 y3 y4 y5 y6 y7,LeO (prefix_Contains.j0 k y0 y1 y2 y3 y4 y5 y6 y7) (prefix_Contains.j0 (k + 1) y0 y1 y2 y3 y4 y5 y6 y7))
 | 0 => fun _ _ _ _ _ _ _ _ r h => by simp [prefix_Contains.j0] at h
 | k + 1 => by
  have ih0 := prefix_Contains.mono_l k
  ·intro y0 y1 y2 y3 y4 y5 y6 y7
   unfold prefix_Contains.j0
   repeat' first
   | (with_reducible exact ih0 _ _ _ _ _ _ _ _)
   | (with_reducible exact prefix_Of.mono _ _ _ _ _)
   | (with_reducible exact prefix_Valid.mono _ _ _ _ _)
   | (with_reducible exact LeO.refl _)
   | (with_reducible exact LeO.none _)
   | (with_reducible refine LeO.ite ?_ ?_)
   | (with_reducible refine LeO.bind ?_ (fun _ => ?_))
theorem prefix_Contains.mono : ∀ a0 a1 a2 a3 a4 a5 a6 k,LeO (prefix_Contains.f k a0 a1 a2 a3 a4 a5 a6) (prefix_Contains.f (k + 1) a0 a1 a2 a3 a4 a5 a6) := by
 intro a0 a1 a2 a3 a4 a5 a6 k
 have ih0 := prefix_Contains.mono_l k
 unfold prefix_Contains.f
 repeat' first
   | (with_reducible exact ih0 _ _ _ _ _ _ _ _)
   | (with_reducible exact prefix_Of.mono _ _ _ _ _)
   | (with_reducible exact prefix_Valid.mono _ _ _ _ _)
   | (with_reducible exact LeO.refl _)
   | (with_reducible exact LeO.none _)
   | (with_reducible refine LeO.ite ?_ ?_)
   | (with_reducible refine LeO.bind ?_ (fun _ => ?_))
mutual
def delegate_Route.l0 : Nat → Int → List (S61) → Int → Int → Bool → Int → Int → Option (ByteArray × Bool)
 | 0,_,_,_,_,_,_,_ => none
 | k + 1,x2,x10,x11,x12,x137000,x137001,x137002 => if x12 < x11 then (if 0 ≤ x12 then (if x12 < (x10.length : Int) then (if x2 < ((rd_T61 x10 x12).f2) then ((prefix_Contains.f k ((rd_T61 x10 x12).f0.f0.f0) ((rd_T61 x10 x12).f0.f0.f1) ((rd_T61 x10 x12).f0.f0.f2) ((rd_T61 x10 x12).f0.f1) x137000 x137001 x137002).bind fun t139 => (delegate_Route.j1 k x2 x10 x11 x12 t139 x137000 x137001 x137002 ((rd_T61 x10 x12).f0.f0.f0) ((rd_T61 x10 x12).f0.f0.f1) ((rd_T61 x10 x12).f0.f0.f2) ((rd_T61 x10 x12).f0.f1) ((rd_T61 x10 x12).f1) ((rd_T61 x10 x12).f2))) else (delegate_Route.j1 k x2 x10 x11 x12 false x137000 x137001 x137002 ((rd_T61 x10 x12).f0.f0.f0) ((rd_T61 x10 x12).f0.f0.f1) ((rd_T61 x10 x12).f0.f0.f2) ((rd_T61 x10 x12).f0.f1) ((rd_T61 x10 x12).f1) ((rd_T61 x10 x12).f2))) else (none)) else (none)) else (some ((⟨#[]⟩ : ByteArray),false))
def delegate_Route.j1 : Nat → Int → List (S61) → Int → Int → Bool → Bool → Int → Int → Bool → Int → Int → Int → ByteArray → Int → Option (ByteArray × Bool)
 | 0,_,_,_,_,_,_,_,_,_,_,_,_,_,_ => none
 | k + 1,x2,x10,x11,x12,x25,x137000,x137001,x137002,x139000,x139001,x139002,x139003,x139004,x139005 => if x25 = true then (some (x139004,true)) else (delegate_Route.l0 k x2 x10 x11 (wrap64 (x12 + 1)) x137000 x137001 x137002)
end
def delegate_Route.f (k : Nat) (l0 : List (S61)) (a1_0 : Bool) (a1_1 : Int) (a1_2 : Int) (a2 : Int) : Option (ByteArray × Bool) := delegate_Route.l0 k a2 l0 (l0.length : Int) 0 a1_0 a1_1 a1_2
theorem delegate_Route.mono_l : ∀ k,(∀ y0 y1 y2 y3 y4 y5 y6,LeO (delegate_Route.l0 k y0 y1 y2 y3 y4 y5 y6) (delegate_Route.l0 (k + 1) y0 y1 y2 y3 y4 y5 y6)) ∧ (∀ y0 y1 y2 y3 y4 y5 y6 y7 y8 y9 y10 y11 y12 y13,LeO (delegate_Route.j1 k y0 y1 y2 y3 y4 y5 y6 y7 y8 y9 y10 y11 y12 y13) (delegate_Route.j1 (k + 1) y0 y1 y2 y3 y4 y5 y6 y7 y8 y9 y10 y11 y12 y13))
 | 0 => ⟨fun _ _ _ _ _ _ _ r h => by simp [delegate_Route.l0] at h,fun _ _ _ _ _ _ _ _ _ _ _ _ _ _ r h => by simp [delegate_Route.j1] at h⟩
 | k + 1 => by
  obtain ⟨ih0,ih1⟩ := delegate_Route.mono_l k
  refine ⟨?_,?_⟩
  ·intro y0 y1 y2 y3 y4 y5 y6
   unfold delegate_Route.l0
   repeat' first
   | (with_reducible exact ih0 _ _ _ _ _ _ _)
   | (with_reducible exact ih1 _ _ _ _ _ _ _ _ _ _ _ _ _ _)
   | (with_reducible exact prefix_Contains.mono _ _ _ _ _ _ _ _)
   | (with_reducible exact LeO.refl _)
   | (with_reducible exact LeO.none _)
   | (with_reducible refine LeO.ite ?_ ?_)
   | (with_reducible refine LeO.bind ?_ (fun _ => ?_))
  ·intro y0 y1 y2 y3 y4 y5 y6 y7 y8 y9 y10 y11 y12 y13
   unfold delegate_Route.j1
   repeat' first
   | (with_reducible exact ih0 _ _ _ _ _ _ _)
   | (with_reducible exact ih1 _ _ _ _ _ _ _ _ _ _ _ _ _ _)
   | (with_reducible exact prefix_Contains.mono _ _ _ _ _ _ _ _)
   | (with_reducible exact LeO.refl _)
   | (with_reducible exact LeO.none _)
   | (with_reducible refine LeO.ite ?_ ?_)
   | (with_reducible refine LeO.bind ?_ (fun _ => ?_))
theorem delegate_Route.mono : ∀ a0 a1 a2 a3 a4 k,LeO (delegate_Route.f k a0 a1 a2 a3 a4) (delegate_Route.f (k + 1) a0 a1 a2 a3 a4) := by
 intro a0 a1 a2 a3 a4 k
 obtain ⟨ih0,ih1⟩ := delegate_Route.mono_l k
 unfold delegate_Route.f
 repeat' first
   | (with_reducible exact ih0 _ _ _ _ _ _ _)
   | (with_reducible exact ih1 _ _ _ _ _ _ _ _ _ _ _ _ _ _)
   | (with_reducible exact prefix_Contains.mono _ _ _ _ _ _ _ _)
   | (with_reducible exact LeO.refl _)
   | (with_reducible exact LeO.none _)
   | (with_reducible refine LeO.ite ?_ ?_)
   | (with_reducible refine LeO.bind ?_ (fun _ => ?_))
def delegate_right.j0 : Nat → Int → Bool → Int → Int → Int → Int → Option (Bool)
 | 0,_,_,_,_,_,_ => none
 | k + 1,x3,x171000,x171001,x171002,x171003,x171004 => (prefix_Valid.f k x171000 x171001 x171002 x171003).bind fun t171 => (if t171 = true then (if x171004 ≥ x171003 then (if x171004 ≤ x3 then (some (decide (x171004 ≤ (wrap64 (x171003 + 32))))) else (some false)) else (some false)) else (some false))
def delegate_right.f (k : Nat) (a0_0 : Bool) (a0_1 : Int) (a0_2 : Int) (a0_3 : Int) (a0_4 : Int) : Option (Bool) := if a0_0 = true then (delegate_right.j0 k 128 a0_0 a0_1 a0_2 a0_3 a0_4) else (delegate_right.j0 k 32 a0_0 a0_1 a0_2 a0_3 a0_4)
theorem delegate_right.mono_l : ∀ k,(∀ y0 y1 y2 y3 y4 y5,LeO (delegate_right.j0 k y0 y1 y2 y3 y4 y5) (delegate_right.j0 (k + 1) y0 y1 y2 y3 y4 y5))
 | 0 => fun _ _ _ _ _ _ r h => by simp [delegate_right.j0] at h
 | k + 1 => by
  have ih0 := delegate_right.mono_l k
  ·intro y0 y1 y2 y3 y4 y5
   unfold delegate_right.j0
   repeat' first
   | (with_reducible exact ih0 _ _ _ _ _ _)
   | (with_reducible exact prefix_Valid.mono _ _ _ _ _)
   | (with_reducible exact LeO.refl _)
   | (with_reducible exact LeO.none _)
   | (with_reducible refine LeO.ite ?_ ?_)
   | (with_reducible refine LeO.bind ?_ (fun _ => ?_))
theorem delegate_right.mono : ∀ a0 a1 a2 a3 a4 k,LeO (delegate_right.f k a0 a1 a2 a3 a4) (delegate_right.f (k + 1) a0 a1 a2 a3 a4) := by
 intro a0 a1 a2 a3 a4 k
 have ih0 := delegate_right.mono_l k
 unfold delegate_right.f
 repeat' first
   | (with_reducible exact ih0 _ _ _ _ _ _)
   | (with_reducible exact prefix_Valid.mono _ _ _ _ _)
   | (with_reducible exact LeO.refl _)
   | (with_reducible exact LeO.none _)
   | (with_reducible refine LeO.ite ?_ ?_)
   | (with_reducible refine LeO.bind ?_ (fun _ => ?_))
def prefix_Within.f (k : Nat) (a0_0 : Bool) (a0_1 : Int) (a0_2 : Int) (a0_3 : Int) (a1_0 : Bool) (a1_1 : Int) (a1_2 : Int) (a1_3 : Int) : Option (Bool) := (prefix_Valid.f k a0_0 a0_1 a0_2 a0_3).bind fun t174 => (if t174 = true then ((prefix_Valid.f k a1_0 a1_1 a1_2 a1_3).bind fun t175 => (if t175 = true then (if a0_3 ≥ a1_3 then ((prefix_Contains.f k a1_0 a1_1 a1_2 a1_3 a0_0 a0_1 a0_2).bind fun t176 => (some t176)) else (some false)) else (some false))) else (some false))
theorem prefix_Within.mono : ∀ a0 a1 a2 a3 a4 a5 a6 a7 k,LeO (prefix_Within.f k a0 a1 a2 a3 a4 a5 a6 a7) (prefix_Within.f (k + 1) a0 a1 a2 a3 a4 a5 a6 a7) := by
 intro a0 a1 a2 a3 a4 a5 a6 a7 k
 unfold prefix_Within.f
 repeat' first
   | (with_reducible exact prefix_Contains.mono _ _ _ _ _ _ _ _)
   | (with_reducible exact prefix_Valid.mono _ _ _ _ _)
   | (with_reducible exact LeO.refl _)
   | (with_reducible exact LeO.none _)
   | (with_reducible refine LeO.ite ?_ ?_)
   | (with_reducible refine LeO.bind ?_ (fun _ => ?_))
def delegate_belongs.f (k : Nat) (a0_0 : Bool) (a0_1 : Int) (a0_2 : Int) (a0_3 : Int) (a0_4 : Int) (a1_0 : Bool) (a1_1 : Int) (a1_2 : Int) (a1_3 : Int) : Option (Bool) := if a1_3 = a0_4 then ((prefix_Within.f k a1_0 a1_1 a1_2 a1_3 a0_0 a0_1 a0_2 a0_3).bind fun t179 => (some t179)) else (some false)
theorem delegate_belongs.mono : ∀ a0 a1 a2 a3 a4 a5 a6 a7 a8 k,LeO (delegate_belongs.f k a0 a1 a2 a3 a4 a5 a6 a7 a8) (delegate_belongs.f (k + 1) a0 a1 a2 a3 a4 a5 a6 a7 a8) := by
 intro a0 a1 a2 a3 a4 a5 a6 a7 a8 k
 unfold delegate_belongs.f
 repeat' first
   | (with_reducible exact prefix_Within.mono _ _ _ _ _ _ _ _ _)
   | (with_reducible exact LeO.refl _)
   | (with_reducible exact LeO.none _)
   | (with_reducible refine LeO.ite ?_ ?_)
   | (with_reducible refine LeO.bind ?_ (fun _ => ?_))
def addr_number.f (a0 : Int) (a1 : Int) : Option (Int) := if a0 < a1 then (some (-1)) else (if a0 > a1 then (some 1) else (some 0))
def addr_Compare.j0 : Nat → Bool → Bool → Int → Int → Bool → Int → Int → Option (Int)
 | 0,_,_,_,_,_,_,_ => none
 | k + 1,x5,x181000,x181001,x181002,x182000,x182001,x182002 => if x5 = true then (some (-1)) else (if (x181000 != x182000) = true then (some 1) else (if x181001 = x182001 then ((addr_number.f x181002 x182002).bind fun t183 => (some t183)) else ((addr_number.f x181001 x182001).bind fun t182 => (some t182))))
def addr_Compare.f (k : Nat) (a0_0 : Bool) (a0_1 : Int) (a0_2 : Int) (a1_0 : Bool) (a1_1 : Int) (a1_2 : Int) : Option (Int) := if (a0_0 != a1_0) = true then (addr_Compare.j0 k a1_0 a0_0 a0_1 a0_2 a1_0 a1_1 a1_2) else (addr_Compare.j0 k false a0_0 a0_1 a0_2 a1_0 a1_1 a1_2)
theorem addr_Compare.mono_l : ∀ k,(∀ y0 y1 y2 y3 y4 y5 y6,LeO (addr_Compare.j0 k y0 y1 y2 y3 y4 y5 y6) (addr_Compare.j0 (k + 1) y0 y1 y2 y3 y4 y5 y6))
 | 0 => fun _ _ _ _ _ _ _ r h => by simp [addr_Compare.j0] at h
 | k + 1 => by
  have ih0 := addr_Compare.mono_l k
  ·intro y0 y1 y2 y3 y4 y5 y6
   unfold addr_Compare.j0
   repeat' first
   | (with_reducible exact ih0 _ _ _ _ _ _ _)
   | (with_reducible exact LeO.refl _)
   | (with_reducible exact LeO.none _)
   | (with_reducible refine LeO.ite ?_ ?_)
   | (with_reducible refine LeO.bind ?_ (fun _ => ?_))
theorem addr_Compare.mono : ∀ a0 a1 a2 a3 a4 a5 k,LeO (addr_Compare.f k a0 a1 a2 a3 a4 a5) (addr_Compare.f (k + 1) a0 a1 a2 a3 a4 a5) := by
 intro a0 a1 a2 a3 a4 a5 k
 have ih0 := addr_Compare.mono_l k
 unfold addr_Compare.f
 repeat' first
   | (with_reducible exact ih0 _ _ _ _ _ _ _)
   | (with_reducible exact LeO.refl _)
   | (with_reducible exact LeO.none _)
   | (with_reducible refine LeO.ite ?_ ?_)
   | (with_reducible refine LeO.bind ?_ (fun _ => ?_))
def prefix_Compare.f (k : Nat) (a0_0 : Bool) (a0_1 : Int) (a0_2 : Int) (a0_3 : Int) (a1_0 : Bool) (a1_1 : Int) (a1_2 : Int) (a1_3 : Int) : Option (Int) := (addr_Compare.f k a0_0 a0_1 a0_2 a1_0 a1_1 a1_2).bind fun t186 => (if t186 = 0 then (if a0_3 < a1_3 then (some (-1)) else (if a0_3 > a1_3 then (some 1) else (some 0))) else (some t186))
theorem prefix_Compare.mono : ∀ a0 a1 a2 a3 a4 a5 a6 a7 k,LeO (prefix_Compare.f k a0 a1 a2 a3 a4 a5 a6 a7) (prefix_Compare.f (k + 1) a0 a1 a2 a3 a4 a5 a6 a7) := by
 intro a0 a1 a2 a3 a4 a5 a6 a7 k
 unfold prefix_Compare.f
 repeat' first
   | (with_reducible exact addr_Compare.mono _ _ _ _ _ _ _)
   | (with_reducible exact LeO.refl _)
   | (with_reducible exact LeO.none _)
   | (with_reducible refine LeO.ite ?_ ?_)
   | (with_reducible refine LeO.bind ?_ (fun _ => ?_))
mutual
def delegate_named.j0 : Nat → ByteArray → Bool → Option (Bool)
 | 0,_,_ => none
 | k + 1,x0,x10 => if x10 = true then (some false) else (delegate_named.l0 k x0 (x0.size : Int) 0)
def delegate_named.l0 : Nat → ByteArray → Int → Int → Option (Bool)
 | 0,_,_,_ => none
 | k + 1,x0,x12,x13 => if x13 < x12 then (if 0 ≤ x13 then (if x13 < (x0.size : Int) then (if (bt x0 x13) < 33 then (delegate_named.j2 k x0 x12 x13 true) else (delegate_named.j2 k x0 x12 x13 (decide ((bt x0 x13) > 126)))) else (none)) else (none)) else (some true)
def delegate_named.j2 : Nat → ByteArray → Int → Int → Bool → Option (Bool)
 | 0,_,_,_,_ => none
 | k + 1,x0,x12,x13,x25 => if x25 = true then (some false) else (delegate_named.l0 k x0 x12 (wrap64 (x13 + 1)))
end
def delegate_named.f (k : Nat) (a0 : ByteArray) : Option (Bool) := if a0.toList = ([] : List UInt8) then (delegate_named.j0 k a0 true) else (delegate_named.j0 k a0 (decide ((a0.size : Int) > 32)))
theorem delegate_named.mono_l : ∀ k,(∀ y0 y1,LeO (delegate_named.j0 k y0 y1) (delegate_named.j0 (k + 1) y0 y1)) ∧ (∀ y0 y1 y2,LeO (delegate_named.l0 k y0 y1 y2) (delegate_named.l0 (k + 1) y0 y1 y2)) ∧ (∀ y0 y1 y2 y3,LeO (delegate_named.j2 k y0 y1 y2 y3) (delegate_named.j2 (k + 1) y0 y1 y2 y3))
 | 0 => ⟨fun _ _ r h => by simp [delegate_named.j0] at h,fun _ _ _ r h => by simp [delegate_named.l0] at h,fun _ _ _ _ r h => by simp [delegate_named.j2] at h⟩
 | k + 1 => by
  obtain ⟨ih0,ih1,ih2⟩ := delegate_named.mono_l k
  refine ⟨?_,?_,?_⟩
  ·intro y0 y1
   unfold delegate_named.j0
   repeat' first
   | (with_reducible exact ih0 _ _)
   | (with_reducible exact ih1 _ _ _)
   | (with_reducible exact ih2 _ _ _ _)
   | (with_reducible exact LeO.refl _)
   | (with_reducible exact LeO.none _)
   | (with_reducible refine LeO.ite ?_ ?_)
   | (with_reducible refine LeO.bind ?_ (fun _ => ?_))
  ·intro y0 y1 y2
   unfold delegate_named.l0
   repeat' first
   | (with_reducible exact ih0 _ _)
   | (with_reducible exact ih1 _ _ _)
   | (with_reducible exact ih2 _ _ _ _)
   | (with_reducible exact LeO.refl _)
   | (with_reducible exact LeO.none _)
   | (with_reducible refine LeO.ite ?_ ?_)
   | (with_reducible refine LeO.bind ?_ (fun _ => ?_))
  ·intro y0 y1 y2 y3
   unfold delegate_named.j2
   repeat' first
   | (with_reducible exact ih0 _ _)
   | (with_reducible exact ih1 _ _ _)
   | (with_reducible exact ih2 _ _ _ _)
   | (with_reducible exact LeO.refl _)
   | (with_reducible exact LeO.none _)
   | (with_reducible refine LeO.ite ?_ ?_)
   | (with_reducible refine LeO.bind ?_ (fun _ => ?_))
theorem delegate_named.mono : ∀ a0 k,LeO (delegate_named.f k a0) (delegate_named.f (k + 1) a0) := by
 intro a0 k
 obtain ⟨ih0,ih1,ih2⟩ := delegate_named.mono_l k
 unfold delegate_named.f
 repeat' first
   | (with_reducible exact ih0 _ _)
   | (with_reducible exact ih1 _ _ _)
   | (with_reducible exact ih2 _ _ _ _)
   | (with_reducible exact LeO.refl _)
   | (with_reducible exact LeO.none _)
   | (with_reducible refine LeO.ite ?_ ?_)
   | (with_reducible refine LeO.bind ?_ (fun _ => ?_))
def delegate_Check_1.f (a0_0 : Bool) (a0_1 : Int) (a0_2 : Int) (a0_3 : Int) (a0_4 : ByteArray) (a0_5 : Int) (a1_0 : Bool) (a1_1 : Int) (a1_2 : Int) (a1_3 : Int) (a1_4 : ByteArray) (a1_5 : Int) : Option (Bool) := some (a0_4.toList == a1_4.toList)
def slices_IndexFunc_37.l0 : Nat → List (S61) → Int → Int → Bool → Int → Int → Int → ByteArray → Int → Option (Int)
 | 0,_,_,_,_,_,_,_,_,_ => none
 | k + 1,x0,x7,x8,x700101000,x700101001,x700101002,x700101003,x700101004,x700101005 => if x8 < x7 then (if 0 ≤ x8 then (if x8 < (x0.length : Int) then ((delegate_Check_1.f ((rd_T61 x0 x8).f0.f0.f0) ((rd_T61 x0 x8).f0.f0.f1) ((rd_T61 x0 x8).f0.f0.f2) ((rd_T61 x0 x8).f0.f1) ((rd_T61 x0 x8).f1) ((rd_T61 x0 x8).f2) x700101000 x700101001 x700101002 x700101003 x700101004 x700101005).bind fun t189 => (if t189 = true then (some x8) else (slices_IndexFunc_37.l0 k x0 x7 (wrap64 (x8 + 1)) x700101000 x700101001 x700101002 x700101003 x700101004 x700101005))) else (none)) else (none)) else (some (-1))
def slices_IndexFunc_37.f (k : Nat) (l0 : List (S61)) (a1_0 : Bool) (a1_1 : Int) (a1_2 : Int) (a1_3 : Int) (a1_4 : ByteArray) (a1_5 : Int) : Option (Int) := slices_IndexFunc_37.l0 k l0 (l0.length : Int) 0 a1_0 a1_1 a1_2 a1_3 a1_4 a1_5
theorem slices_IndexFunc_37.mono_l : ∀ k,(∀ y0 y1 y2 y3 y4 y5 y6 y7 y8,LeO (slices_IndexFunc_37.l0 k y0 y1 y2 y3 y4 y5 y6 y7 y8) (slices_IndexFunc_37.l0 (k + 1) y0 y1 y2 y3 y4 y5 y6 y7 y8))
 | 0 => fun _ _ _ _ _ _ _ _ _ r h => by simp [slices_IndexFunc_37.l0] at h
 | k + 1 => by
  have ih0 := slices_IndexFunc_37.mono_l k
  ·intro y0 y1 y2 y3 y4 y5 y6 y7 y8
   unfold slices_IndexFunc_37.l0
   repeat' first
   | (with_reducible exact ih0 _ _ _ _ _ _ _ _ _)
   | (with_reducible exact LeO.refl _)
   | (with_reducible exact LeO.none _)
   | (with_reducible refine LeO.ite ?_ ?_)
   | (with_reducible refine LeO.bind ?_ (fun _ => ?_))
theorem slices_IndexFunc_37.mono : ∀ a0 a1 a2 a3 a4 a5 a6 k,LeO (slices_IndexFunc_37.f k a0 a1 a2 a3 a4 a5 a6) (slices_IndexFunc_37.f (k + 1) a0 a1 a2 a3 a4 a5 a6) := by
 intro a0 a1 a2 a3 a4 a5 a6 k
 have ih0 := slices_IndexFunc_37.mono_l k
 unfold slices_IndexFunc_37.f
 repeat' first
   | (with_reducible exact ih0 _ _ _ _ _ _ _ _ _)
   | (with_reducible exact LeO.refl _)
   | (with_reducible exact LeO.none _)
   | (with_reducible refine LeO.ite ?_ ?_)
   | (with_reducible refine LeO.bind ?_ (fun _ => ?_))
def slices_ContainsFunc_37.f (k : Nat) (l0 : List (S61)) (a1_0 : Bool) (a1_1 : Int) (a1_2 : Int) (a1_3 : Int) (a1_4 : ByteArray) (a1_5 : Int) : Option (Bool) := (slices_IndexFunc_37.f k l0 a1_0 a1_1 a1_2 a1_3 a1_4 a1_5).bind fun t190 => (some (decide (t190 ≥ 0)))
theorem slices_ContainsFunc_37.mono : ∀ a0 a1 a2 a3 a4 a5 a6 k,LeO (slices_ContainsFunc_37.f k a0 a1 a2 a3 a4 a5 a6) (slices_ContainsFunc_37.f (k + 1) a0 a1 a2 a3 a4 a5 a6) := by
 intro a0 a1 a2 a3 a4 a5 a6 k
 unfold slices_ContainsFunc_37.f
 repeat' first
   | (with_reducible exact slices_IndexFunc_37.mono _ _ _ _ _ _ _ _)
   | (with_reducible exact LeO.refl _)
   | (with_reducible exact LeO.none _)
   | (with_reducible refine LeO.ite ?_ ?_)
   | (with_reducible refine LeO.bind ?_ (fun _ => ?_))
mutual
def delegate_Check.l0 : Nat → List (S61) → List (S61) → Int → Int → Bool → Int → Int → Int → Int → Option (Int)
 | 0,_,_,_,_,_,_,_,_,_ => none
 | k + 1,x1,x13,x14,x15,x192000,x192001,x192002,x192003,x192004 => if x15 < x14 then (if 0 ≤ x15 then (if x15 < (x13.length : Int) then ((delegate_belongs.f k x192000 x192001 x192002 x192003 x192004 ((rd_T61 x13 x15).f0.f0.f0) ((rd_T61 x13 x15).f0.f0.f1) ((rd_T61 x13 x15).f0.f0.f2) ((rd_T61 x13 x15).f0.f1)).bind fun t195 => (if t195 = true then (if x15 > 0 then (if 0 ≤ (wrap64 (x15 - 1)) then (if (wrap64 (x15 - 1)) < (x1.length : Int) then ((prefix_Compare.f k ((rd_T61 x1 (wrap64 (x15 - 1))).f0.f0.f0) ((rd_T61 x1 (wrap64 (x15 - 1))).f0.f0.f1) ((rd_T61 x1 (wrap64 (x15 - 1))).f0.f0.f2) ((rd_T61 x1 (wrap64 (x15 - 1))).f0.f1) ((rd_T61 x13 x15).f0.f0.f0) ((rd_T61 x13 x15).f0.f0.f1) ((rd_T61 x13 x15).f0.f0.f2) ((rd_T61 x13 x15).f0.f1)).bind fun t197 => (delegate_Check.j1 k x1 x15 x13 x14 x15 (decide (t197 ≥ 0)) x192000 x192001 x192002 x192003 x192004 ((rd_T61 x13 x15).f0.f0.f0) ((rd_T61 x13 x15).f0.f0.f1) ((rd_T61 x13 x15).f0.f0.f2) ((rd_T61 x13 x15).f0.f1) ((rd_T61 x13 x15).f1) ((rd_T61 x13 x15).f2))) else (none)) else (none)) else (delegate_Check.j1 k x1 x15 x13 x14 x15 false x192000 x192001 x192002 x192003 x192004 ((rd_T61 x13 x15).f0.f0.f0) ((rd_T61 x13 x15).f0.f0.f1) ((rd_T61 x13 x15).f0.f0.f2) ((rd_T61 x13 x15).f0.f1) ((rd_T61 x13 x15).f1) ((rd_T61 x13 x15).f2))) else (some 3))) else (none)) else (none)) else (some 0)
def delegate_Check.j1 : Nat → List (S61) → Int → List (S61) → Int → Int → Bool → Bool → Int → Int → Int → Int → Bool → Int → Int → Int → ByteArray → Int → Option (Int)
 | 0,_,_,_,_,_,_,_,_,_,_,_,_,_,_,_,_,_ => none
 | k + 1,x1,x5,x13,x14,x15,x38,x192000,x192001,x192002,x192003,x192004,x195000,x195001,x195002,x195003,x195004,x195005 => if x38 = true then (some 7) else ((delegate_named.f k x195004).bind fun t198 => (if t198 = true then (if x195005 < 0 then (delegate_Check.j2 k x1 x5 x13 x14 x15 true x192000 x192001 x192002 x192003 x192004 x195000 x195001 x195002 x195003 x195004 x195005) else (delegate_Check.j2 k x1 x5 x13 x14 x15 (decide (x195005 > 4294967295)) x192000 x192001 x192002 x192003 x192004 x195000 x195001 x195002 x195003 x195004 x195005)) else (delegate_Check.j2 k x1 x5 x13 x14 x15 true x192000 x192001 x192002 x192003 x192004 x195000 x195001 x195002 x195003 x195004 x195005)))
def delegate_Check.j2 : Nat → List (S61) → Int → List (S61) → Int → Int → Bool → Bool → Int → Int → Int → Int → Bool → Int → Int → Int → ByteArray → Int → Option (Int)
 | 0,_,_,_,_,_,_,_,_,_,_,_,_,_,_,_,_,_ => none
 | k + 1,x1,x5,x13,x14,x15,x52,x192000,x192001,x192002,x192003,x192004,x195000,x195001,x195002,x195003,x195004,x195005 => if x52 = true then (some 1) else (if 0 ≤ x5 then (if x5 ≤ (x1.length : Int) then ((slices_ContainsFunc_37.f k (x1.take (x5 : Int).toNat) x195000 x195001 x195002 x195003 x195004 x195005).bind fun t203 => (if t203 = true then (some 12) else (delegate_Check.l0 k x1 x13 x14 (wrap64 (x15 + 1)) x192000 x192001 x192002 x192003 x192004))) else (none)) else (none))
end
def delegate_Check.f (k : Nat) (a0_0 : Bool) (a0_1 : Int) (a0_2 : Int) (a0_3 : Int) (a0_4 : Int) (l1 : List (S61)) : Option (Int) := (delegate_right.f k a0_0 a0_1 a0_2 a0_3 a0_4).bind fun t192 => (if t192 = true then (if (l1.length : Int) > 512 then (some 9) else (delegate_Check.l0 k l1 l1 (l1.length : Int) 0 a0_0 a0_1 a0_2 a0_3 a0_4)) else (some 3))
theorem delegate_Check.mono_l : ∀ k,(∀ y0 y1 y2 y3 y4 y5 y6 y7 y8,LeO (delegate_Check.l0 k y0 y1 y2 y3 y4 y5 y6 y7 y8) (delegate_Check.l0 (k + 1) y0 y1 y2 y3 y4 y5 y6 y7 y8)) ∧ (∀ y0 y1 y2 y3 y4 y5 y6 y7 y8 y9 y10 y11 y12 y13 y14 y15 y16,LeO (delegate_Check.j1 k y0 y1 y2 y3 y4 y5 y6 y7 y8 y9 y10 y11 y12 y13 y14 y15 y16) (delegate_Check.j1 (k + 1) y0 y1 y2 y3 y4 y5 y6 y7 y8 y9 y10 y11 y12 y13 y14 y15 y16)) ∧ (∀ y0 y1 y2 y3 y4 y5 y6 y7 y8 y9 y10 y11 y12 y13 y14 y15 y16,LeO (delegate_Check.j2 k y0 y1 y2 y3 y4 y5 y6 y7 y8 y9 y10 y11 y12 y13 y14 y15 y16) (delegate_Check.j2 (k + 1) y0 y1 y2 y3 y4 y5 y6 y7 y8 y9 y10 y11 y12 y13 y14 y15 y16))
 | 0 => ⟨fun _ _ _ _ _ _ _ _ _ r h => by simp [delegate_Check.l0] at h,fun _ _ _ _ _ _ _ _ _ _ _ _ _ _ _ _ _ r h => by simp [delegate_Check.j1] at h,fun _ _ _ _ _ _ _ _ _ _ _ _ _ _ _ _ _ r h => by simp [delegate_Check.j2] at h⟩
 | k + 1 => by
  obtain ⟨ih0,ih1,ih2⟩ := delegate_Check.mono_l k
  refine ⟨?_,?_,?_⟩
  ·intro y0 y1 y2 y3 y4 y5 y6 y7 y8
   unfold delegate_Check.l0
   repeat' first
   | (with_reducible exact ih0 _ _ _ _ _ _ _ _ _)
   | (with_reducible exact ih1 _ _ _ _ _ _ _ _ _ _ _ _ _ _ _ _ _)
   | (with_reducible exact ih2 _ _ _ _ _ _ _ _ _ _ _ _ _ _ _ _ _)
   | (with_reducible exact delegate_belongs.mono _ _ _ _ _ _ _ _ _ _)
   | (with_reducible exact delegate_named.mono _ _)
   | (with_reducible exact delegate_right.mono _ _ _ _ _ _)
   | (with_reducible exact prefix_Compare.mono _ _ _ _ _ _ _ _ _)
   | (with_reducible exact slices_ContainsFunc_37.mono _ _ _ _ _ _ _ _)
   | (with_reducible exact LeO.refl _)
   | (with_reducible exact LeO.none _)
   | (with_reducible refine LeO.ite ?_ ?_)
   | (with_reducible refine LeO.bind ?_ (fun _ => ?_))
  ·intro y0 y1 y2 y3 y4 y5 y6 y7 y8 y9 y10 y11 y12 y13 y14 y15 y16
   unfold delegate_Check.j1
   repeat' first
   | (with_reducible exact ih0 _ _ _ _ _ _ _ _ _)
   | (with_reducible exact ih1 _ _ _ _ _ _ _ _ _ _ _ _ _ _ _ _ _)
   | (with_reducible exact ih2 _ _ _ _ _ _ _ _ _ _ _ _ _ _ _ _ _)
   | (with_reducible exact delegate_belongs.mono _ _ _ _ _ _ _ _ _ _)
   | (with_reducible exact delegate_named.mono _ _)
   | (with_reducible exact delegate_right.mono _ _ _ _ _ _)
   | (with_reducible exact prefix_Compare.mono _ _ _ _ _ _ _ _ _)
   | (with_reducible exact slices_ContainsFunc_37.mono _ _ _ _ _ _ _ _)
   | (with_reducible exact LeO.refl _)
   | (with_reducible exact LeO.none _)
   | (with_reducible refine LeO.ite ?_ ?_)
   | (with_reducible refine LeO.bind ?_ (fun _ => ?_))
  ·intro y0 y1 y2 y3 y4 y5 y6 y7 y8 y9 y10 y11 y12 y13 y14 y15 y16
   unfold delegate_Check.j2
   repeat' first
   | (with_reducible exact ih0 _ _ _ _ _ _ _ _ _)
   | (with_reducible exact ih1 _ _ _ _ _ _ _ _ _ _ _ _ _ _ _ _ _)
   | (with_reducible exact ih2 _ _ _ _ _ _ _ _ _ _ _ _ _ _ _ _ _)
   | (with_reducible exact delegate_belongs.mono _ _ _ _ _ _ _ _ _ _)
   | (with_reducible exact delegate_named.mono _ _)
   | (with_reducible exact delegate_right.mono _ _ _ _ _ _)
   | (with_reducible exact prefix_Compare.mono _ _ _ _ _ _ _ _ _)
   | (with_reducible exact slices_ContainsFunc_37.mono _ _ _ _ _ _ _ _)
   | (with_reducible exact LeO.refl _)
   | (with_reducible exact LeO.none _)
   | (with_reducible refine LeO.ite ?_ ?_)
   | (with_reducible refine LeO.bind ?_ (fun _ => ?_))
theorem delegate_Check.mono : ∀ a0 a1 a2 a3 a4 a5 k,LeO (delegate_Check.f k a0 a1 a2 a3 a4 a5) (delegate_Check.f (k + 1) a0 a1 a2 a3 a4 a5) := by
 intro a0 a1 a2 a3 a4 a5 k
 obtain ⟨ih0,ih1,ih2⟩ := delegate_Check.mono_l k
 unfold delegate_Check.f
 repeat' first
   | (with_reducible exact ih0 _ _ _ _ _ _ _ _ _)
   | (with_reducible exact ih1 _ _ _ _ _ _ _ _ _ _ _ _ _ _ _ _ _)
   | (with_reducible exact ih2 _ _ _ _ _ _ _ _ _ _ _ _ _ _ _ _ _)
   | (with_reducible exact delegate_belongs.mono _ _ _ _ _ _ _ _ _ _)
   | (with_reducible exact delegate_named.mono _ _)
   | (with_reducible exact delegate_right.mono _ _ _ _ _ _)
   | (with_reducible exact prefix_Compare.mono _ _ _ _ _ _ _ _ _)
   | (with_reducible exact slices_ContainsFunc_37.mono _ _ _ _ _ _ _ _)
   | (with_reducible exact LeO.refl _)
   | (with_reducible exact LeO.none _)
   | (with_reducible refine LeO.ite ?_ ?_)
   | (with_reducible refine LeO.bind ?_ (fun _ => ?_))
def slices_Clone.f (l0 : List (S61)) : Option (List (S61)) := if l0.length * 56 ≤ 140737488355328 then some l0 else none
def delegate_Expire_1.f (a0_0 : Bool) (a0_1 : Int) (a0_2 : Int) (a0_3 : Int) (a0_4 : ByteArray) (a0_5 : Int) (a1_0 : Int) : Option (Bool) := some (decide (a0_5 ≤ a1_0))
def slices_IndexFunc_45.l0 : Nat → List (S61) → Int → Int → Int → Option (Int)
 | 0,_,_,_,_ => none
 | k + 1,x0,x7,x8,x700101000 => if x8 < x7 then (if 0 ≤ x8 then (if x8 < (x0.length : Int) then ((delegate_Expire_1.f ((rd_T61 x0 x8).f0.f0.f0) ((rd_T61 x0 x8).f0.f0.f1) ((rd_T61 x0 x8).f0.f0.f2) ((rd_T61 x0 x8).f0.f1) ((rd_T61 x0 x8).f1) ((rd_T61 x0 x8).f2) x700101000).bind fun t230 => (if t230 = true then (some x8) else (slices_IndexFunc_45.l0 k x0 x7 (wrap64 (x8 + 1)) x700101000))) else (none)) else (none)) else (some (-1))
def slices_IndexFunc_45.f (k : Nat) (l0 : List (S61)) (a1_0 : Int) : Option (Int) := slices_IndexFunc_45.l0 k l0 (l0.length : Int) 0 a1_0
theorem slices_IndexFunc_45.mono_l : ∀ k,(∀ y0 y1 y2 y3,LeO (slices_IndexFunc_45.l0 k y0 y1 y2 y3) (slices_IndexFunc_45.l0 (k + 1) y0 y1 y2 y3))
 | 0 => fun _ _ _ _ r h => by simp [slices_IndexFunc_45.l0] at h
 | k + 1 => by
  have ih0 := slices_IndexFunc_45.mono_l k
  ·intro y0 y1 y2 y3
   unfold slices_IndexFunc_45.l0
   repeat' first
   | (with_reducible exact ih0 _ _ _ _)
   | (with_reducible exact LeO.refl _)
   | (with_reducible exact LeO.none _)
   | (with_reducible refine LeO.ite ?_ ?_)
   | (with_reducible refine LeO.bind ?_ (fun _ => ?_))
theorem slices_IndexFunc_45.mono : ∀ a0 a1 k,LeO (slices_IndexFunc_45.f k a0 a1) (slices_IndexFunc_45.f (k + 1) a0 a1) := by
 intro a0 a1 k
 have ih0 := slices_IndexFunc_45.mono_l k
 unfold slices_IndexFunc_45.f
 repeat' first
   | (with_reducible exact ih0 _ _ _ _)
   | (with_reducible exact LeO.refl _)
   | (with_reducible exact LeO.none _)
   | (with_reducible refine LeO.ite ?_ ?_)
   | (with_reducible refine LeO.bind ?_ (fun _ => ?_))
def slices_DeleteFunc_45.l0 : Nat → List (S61) → Int → Int → Int → Option ((List (S61)))
 | 0,_,_,_,_ => none
 | k + 1,x0,x5,x6,x700101000 => if x6 < (x0.length : Int) then (if 0 ≤ x6 then ((delegate_Expire_1.f ((rd_T61 x0 x6).f0.f0.f0) ((rd_T61 x0 x6).f0.f0.f1) ((rd_T61 x0 x6).f0.f0.f2) ((rd_T61 x0 x6).f0.f1) ((rd_T61 x0 x6).f1) ((rd_T61 x0 x6).f2) x700101000).bind fun t242 => (if t242 = true then (slices_DeleteFunc_45.l0 k x0 x5 (wrap64 (x6 + 1)) x700101000) else (if 0 ≤ x5 then (if x5 < (x0.length : Int) then (slices_DeleteFunc_45.l0 k (x0.set (x5 : Int).toNat (⟨(⟨(⟨(rd_T61 x0 x6).f0.f0.f0,(rd_T61 x0 x6).f0.f0.f1,(rd_T61 x0 x6).f0.f0.f2⟩ : S24),(rd_T61 x0 x6).f0.f1⟩ : S26),(rd_T61 x0 x6).f1,(rd_T61 x0 x6).f2⟩ : S61)) (wrap64 (x5 + 1)) (wrap64 (x6 + 1)) x700101000) else (none)) else (none)))) else (none)) else (if 0 ≤ x5 then (if x5 ≤ (x0.length : Int) then (some ((x0.take (x5 : Int).toNat ++ List.replicate (x0.length - (x5 : Int).toNat) z61).take (x5 : Int).toNat)) else (none)) else (none))
def slices_DeleteFunc_45.f (k : Nat) (l0 : List (S61)) (a1_0 : Int) : Option ((List (S61))) := (slices_IndexFunc_45.f k l0 a1_0).bind fun t231 => (if t231 = (-1) then (some l0) else (slices_DeleteFunc_45.l0 k l0 t231 (wrap64 (t231 + 1)) a1_0))
theorem slices_DeleteFunc_45.mono_l : ∀ k,(∀ y0 y1 y2 y3,LeO (slices_DeleteFunc_45.l0 k y0 y1 y2 y3) (slices_DeleteFunc_45.l0 (k + 1) y0 y1 y2 y3))
 | 0 => fun _ _ _ _ r h => by simp [slices_DeleteFunc_45.l0] at h
 | k + 1 => by
  have ih0 := slices_DeleteFunc_45.mono_l k
  ·intro y0 y1 y2 y3
   unfold slices_DeleteFunc_45.l0
   repeat' first
   | (with_reducible exact ih0 _ _ _ _)
   | (with_reducible exact slices_IndexFunc_45.mono _ _ _)
   | (with_reducible exact LeO.refl _)
   | (with_reducible exact LeO.none _)
   | (with_reducible refine LeO.ite ?_ ?_)
   | (with_reducible refine LeO.bind ?_ (fun _ => ?_))
theorem slices_DeleteFunc_45.mono : ∀ a0 a1 k,LeO (slices_DeleteFunc_45.f k a0 a1) (slices_DeleteFunc_45.f (k + 1) a0 a1) := by
 intro a0 a1 k
 have ih0 := slices_DeleteFunc_45.mono_l k
 unfold slices_DeleteFunc_45.f
 repeat' first
   | (with_reducible exact ih0 _ _ _ _)
   | (with_reducible exact slices_IndexFunc_45.mono _ _ _)
   | (with_reducible exact LeO.refl _)
   | (with_reducible exact LeO.none _)
   | (with_reducible refine LeO.ite ?_ ?_)
   | (with_reducible refine LeO.bind ?_ (fun _ => ?_))
def delegate_Expire.f (k : Nat) (l0 : List (S61)) (a1 : Int) : Option ((List (S61))) := (slices_Clone.f l0).bind fun t245 => ((slices_DeleteFunc_45.f k t245 a1).bind fun t248 => (some t248))
theorem delegate_Expire.mono : ∀ a0 a1 k,LeO (delegate_Expire.f k a0 a1) (delegate_Expire.f (k + 1) a0 a1) := by
 intro a0 a1 k
 unfold delegate_Expire.f
 repeat' first
   | (with_reducible exact slices_DeleteFunc_45.mono _ _ _)
   | (with_reducible exact LeO.refl _)
   | (with_reducible exact LeO.none _)
   | (with_reducible refine LeO.ite ?_ ?_)
   | (with_reducible refine LeO.bind ?_ (fun _ => ?_))
def delegate_Free.f (k : Nat) (a0_0 : Bool) (a0_1 : Int) (a0_2 : Int) (a0_3 : Int) (a0_4 : Int) (l1 : List (S61)) (a2 : Int) : Option (Int) := (delegate_Check.f k a0_0 a0_1 a0_2 a0_3 a0_4 l1).bind fun t252 => (if t252 = 0 then (if 0 ≤ (IntKind.u64.wrap (wrap64 (a0_4 - a0_3))) then ((delegate_Expire.f k l1 a2).bind fun t253 => (some (IntKind.u64.wrap ((shl .u64 1 (IntKind.u64.wrap (wrap64 (a0_4 - a0_3)))) - (IntKind.u64.wrap ((t253.length : Int))))))) else (none)) else (some 0))
theorem delegate_Free.mono : ∀ a0 a1 a2 a3 a4 a5 a6 k,LeO (delegate_Free.f k a0 a1 a2 a3 a4 a5 a6) (delegate_Free.f (k + 1) a0 a1 a2 a3 a4 a5 a6) := by
 intro a0 a1 a2 a3 a4 a5 a6 k
 unfold delegate_Free.f
 repeat' first
   | (with_reducible exact delegate_Check.mono _ _ _ _ _ _ _)
   | (with_reducible exact delegate_Expire.mono _ _ _)
   | (with_reducible exact LeO.refl _)
   | (with_reducible exact LeO.none _)
   | (with_reducible refine LeO.ite ?_ ?_)
   | (with_reducible refine LeO.bind ?_ (fun _ => ?_))
def delegate_Assign_1.f (a0_0 : Bool) (a0_1 : Int) (a0_2 : Int) (a0_3 : Int) (a0_4 : ByteArray) (a0_5 : Int) (a1_0 : ByteArray) : Option (Bool) := some (a0_4.toList == a1_0.toList)
mutual
def prefix_Part.j0 : Nat → Int → Int → Bool → Bool → Int → Int → Int → Option (Bool × Int × Int × Int × Bool)
 | 0,_,_,_,_,_,_,_ => none
 | k + 1,x1,x2,x28,x272000,x272001,x272002,x272003 => if x28 = true then (some (false,0,0,0,false)) else (if (wrap64 (x1 - x272003)) < 64 then (if 0 ≤ (IntKind.u64.wrap (wrap64 (x1 - x272003))) then (prefix_Part.j1 k x1 x2 ((shr .u64 x2 (IntKind.u64.wrap (wrap64 (x1 - x272003)))) != 0) x272000 x272001 x272002 x272003) else (none)) else (prefix_Part.j1 k x1 x2 false x272000 x272001 x272002 x272003))
def prefix_Part.j1 : Nat → Int → Int → Bool → Bool → Int → Int → Int → Option (Bool × Int × Int × Int × Bool)
 | 0,_,_,_,_,_,_,_ => none
 | k + 1,x1,x2,x42,x272000,x272001,x272002,x272003 => if x42 = true then (some (false,0,0,0,false)) else ((prefix_length.f x272000 x272001 x272002).bind fun t275 => (if (IntKind.u64.wrap (wrap64 (t275 - x1))) ≥ 64 then (if 0 ≤ (IntKind.u64.wrap ((IntKind.u64.wrap (wrap64 (t275 - x1))) - 64)) then (some (x272000,Go.bits .or .u64 x272001 (shl .u64 x2 (IntKind.u64.wrap ((IntKind.u64.wrap (wrap64 (t275 - x1))) - 64))),Go.bits .or .u64 x272002 0,x1,true)) else (none)) else (if (IntKind.u64.wrap (wrap64 (t275 - x1))) > 0 then (if 0 ≤ (IntKind.u64.wrap (64 - (IntKind.u64.wrap (wrap64 (t275 - x1))))) then (if 0 ≤ (IntKind.u64.wrap (wrap64 (t275 - x1))) then (some (x272000,Go.bits .or .u64 x272001 (shr .u64 x2 (IntKind.u64.wrap (64 - (IntKind.u64.wrap (wrap64 (t275 - x1)))))),Go.bits .or .u64 x272002 (shl .u64 x2 (IntKind.u64.wrap (wrap64 (t275 - x1)))),x1,true)) else (none)) else (none)) else (some (x272000,Go.bits .or .u64 x272001 0,Go.bits .or .u64 x272002 x2,x1,true)))))
end
def prefix_Part.f (k : Nat) (a0_0 : Bool) (a0_1 : Int) (a0_2 : Int) (a0_3 : Int) (a1 : Int) (a2 : Int) : Option (Bool × Int × Int × Int × Bool) := (prefix_Valid.f k a0_0 a0_1 a0_2 a0_3).bind fun t273 => (if t273 = true then (if a1 < a0_3 then (prefix_Part.j0 k a1 a2 true a0_0 a0_1 a0_2 a0_3) else ((prefix_length.f a0_0 a0_1 a0_2).bind fun t274 => (prefix_Part.j0 k a1 a2 (decide (a1 > t274)) a0_0 a0_1 a0_2 a0_3))) else (prefix_Part.j0 k a1 a2 true a0_0 a0_1 a0_2 a0_3))
theorem prefix_Part.mono_l : ∀ k,(∀ y0 y1 y2 y3 y4 y5 y6,LeO (prefix_Part.j0 k y0 y1 y2 y3 y4 y5 y6) (prefix_Part.j0 (k + 1) y0 y1 y2 y3 y4 y5 y6)) ∧ (∀ y0 y1 y2 y3 y4 y5 y6,LeO (prefix_Part.j1 k y0 y1 y2 y3 y4 y5 y6) (prefix_Part.j1 (k + 1) y0 y1 y2 y3 y4 y5 y6))
 | 0 => ⟨fun _ _ _ _ _ _ _ r h => by simp [prefix_Part.j0] at h,fun _ _ _ _ _ _ _ r h => by simp [prefix_Part.j1] at h⟩
 | k + 1 => by
  obtain ⟨ih0,ih1⟩ := prefix_Part.mono_l k
  refine ⟨?_,?_⟩
  ·intro y0 y1 y2 y3 y4 y5 y6
   unfold prefix_Part.j0
   repeat' first
   | (with_reducible exact ih0 _ _ _ _ _ _ _)
   | (with_reducible exact ih1 _ _ _ _ _ _ _)
   | (with_reducible exact prefix_Valid.mono _ _ _ _ _)
   | (with_reducible exact LeO.refl _)
   | (with_reducible exact LeO.none _)
   | (with_reducible refine LeO.ite ?_ ?_)
   | (with_reducible refine LeO.bind ?_ (fun _ => ?_))
  ·intro y0 y1 y2 y3 y4 y5 y6
   unfold prefix_Part.j1
   repeat' first
   | (with_reducible exact ih0 _ _ _ _ _ _ _)
   | (with_reducible exact ih1 _ _ _ _ _ _ _)
   | (with_reducible exact prefix_Valid.mono _ _ _ _ _)
   | (with_reducible exact LeO.refl _)
   | (with_reducible exact LeO.none _)
   | (with_reducible refine LeO.ite ?_ ?_)
   | (with_reducible refine LeO.bind ?_ (fun _ => ?_))
theorem prefix_Part.mono : ∀ a0 a1 a2 a3 a4 a5 k,LeO (prefix_Part.f k a0 a1 a2 a3 a4 a5) (prefix_Part.f (k + 1) a0 a1 a2 a3 a4 a5) := by
 intro a0 a1 a2 a3 a4 a5 k
 obtain ⟨ih0,ih1⟩ := prefix_Part.mono_l k
 unfold prefix_Part.f
 repeat' first
   | (with_reducible exact ih0 _ _ _ _ _ _ _)
   | (with_reducible exact ih1 _ _ _ _ _ _ _)
   | (with_reducible exact prefix_Valid.mono _ _ _ _ _)
   | (with_reducible exact LeO.refl _)
   | (with_reducible exact LeO.none _)
   | (with_reducible refine LeO.ite ?_ ?_)
   | (with_reducible refine LeO.bind ?_ (fun _ => ?_))
def delegate_granted_1.f (a0_0 : Bool) (a0_1 : Int) (a0_2 : Int) (a0_3 : Int) (a0_4 : ByteArray) (a0_5 : Int) (a1_0 : Bool) (a1_1 : Int) (a1_2 : Int) (a1_3 : Int) : Option (Bool) := some ((a0_0 == a1_0 && (a0_1 == a1_1 && (a0_2 == a1_2))) && (a0_3 == a1_3))
def slices_IndexFunc_73.l0 : Nat → List (S61) → Int → Int → Bool → Int → Int → Int → Option (Int)
 | 0,_,_,_,_,_,_,_ => none
 | k + 1,x0,x7,x8,x700101000,x700101001,x700101002,x700101003 => if x8 < x7 then (if 0 ≤ x8 then (if x8 < (x0.length : Int) then ((delegate_granted_1.f ((rd_T61 x0 x8).f0.f0.f0) ((rd_T61 x0 x8).f0.f0.f1) ((rd_T61 x0 x8).f0.f0.f2) ((rd_T61 x0 x8).f0.f1) ((rd_T61 x0 x8).f1) ((rd_T61 x0 x8).f2) x700101000 x700101001 x700101002 x700101003).bind fun t281 => (if t281 = true then (some x8) else (slices_IndexFunc_73.l0 k x0 x7 (wrap64 (x8 + 1)) x700101000 x700101001 x700101002 x700101003))) else (none)) else (none)) else (some (-1))
def slices_IndexFunc_73.f (k : Nat) (l0 : List (S61)) (a1_0 : Bool) (a1_1 : Int) (a1_2 : Int) (a1_3 : Int) : Option (Int) := slices_IndexFunc_73.l0 k l0 (l0.length : Int) 0 a1_0 a1_1 a1_2 a1_3
theorem slices_IndexFunc_73.mono_l : ∀ k,(∀ y0 y1 y2 y3 y4 y5 y6,LeO (slices_IndexFunc_73.l0 k y0 y1 y2 y3 y4 y5 y6) (slices_IndexFunc_73.l0 (k + 1) y0 y1 y2 y3 y4 y5 y6))
 | 0 => fun _ _ _ _ _ _ _ r h => by simp [slices_IndexFunc_73.l0] at h
 | k + 1 => by
  have ih0 := slices_IndexFunc_73.mono_l k
  ·intro y0 y1 y2 y3 y4 y5 y6
   unfold slices_IndexFunc_73.l0
   repeat' first
   | (with_reducible exact ih0 _ _ _ _ _ _ _)
   | (with_reducible exact LeO.refl _)
   | (with_reducible exact LeO.none _)
   | (with_reducible refine LeO.ite ?_ ?_)
   | (with_reducible refine LeO.bind ?_ (fun _ => ?_))
theorem slices_IndexFunc_73.mono : ∀ a0 a1 a2 a3 a4 k,LeO (slices_IndexFunc_73.f k a0 a1 a2 a3 a4) (slices_IndexFunc_73.f (k + 1) a0 a1 a2 a3 a4) := by
 intro a0 a1 a2 a3 a4 k
 have ih0 := slices_IndexFunc_73.mono_l k
 unfold slices_IndexFunc_73.f
 repeat' first
   | (with_reducible exact ih0 _ _ _ _ _ _ _)
   | (with_reducible exact LeO.refl _)
   | (with_reducible exact LeO.none _)
   | (with_reducible refine LeO.ite ?_ ?_)
   | (with_reducible refine LeO.bind ?_ (fun _ => ?_))
def slices_ContainsFunc_73.f (k : Nat) (l0 : List (S61)) (a1_0 : Bool) (a1_1 : Int) (a1_2 : Int) (a1_3 : Int) : Option (Bool) := (slices_IndexFunc_73.f k l0 a1_0 a1_1 a1_2 a1_3).bind fun t282 => (some (decide (t282 ≥ 0)))
theorem slices_ContainsFunc_73.mono : ∀ a0 a1 a2 a3 a4 k,LeO (slices_ContainsFunc_73.f k a0 a1 a2 a3 a4) (slices_ContainsFunc_73.f (k + 1) a0 a1 a2 a3 a4) := by
 intro a0 a1 a2 a3 a4 k
 unfold slices_ContainsFunc_73.f
 repeat' first
   | (with_reducible exact slices_IndexFunc_73.mono _ _ _ _ _ _)
   | (with_reducible exact LeO.refl _)
   | (with_reducible exact LeO.none _)
   | (with_reducible refine LeO.ite ?_ ?_)
   | (with_reducible refine LeO.bind ?_ (fun _ => ?_))
def delegate_granted.f (k : Nat) (l0 : List (S61)) (a1_0 : Bool) (a1_1 : Int) (a1_2 : Int) (a1_3 : Int) : Option (Bool) := (slices_ContainsFunc_73.f k l0 a1_0 a1_1 a1_2 a1_3).bind fun t284 => (some t284)
theorem delegate_granted.mono : ∀ a0 a1 a2 a3 a4 k,LeO (delegate_granted.f k a0 a1 a2 a3 a4) (delegate_granted.f (k + 1) a0 a1 a2 a3 a4) := by
 intro a0 a1 a2 a3 a4 k
 unfold delegate_granted.f
 repeat' first
   | (with_reducible exact slices_ContainsFunc_73.mono _ _ _ _ _ _)
   | (with_reducible exact LeO.refl _)
   | (with_reducible exact LeO.none _)
   | (with_reducible refine LeO.ite ?_ ?_)
   | (with_reducible refine LeO.bind ?_ (fun _ => ?_))
mutual
def delegate_choose.j0 : Nat → List (S61) → Bool → Bool → Int → Int → Int → Int → Bool → Int → Int → Int → Option (Bool × Int × Int × Int × Bool)
 | 0,_,_,_,_,_,_,_,_,_,_,_ => none
 | k + 1,x1,x19,x286000,x286001,x286002,x286003,x286004,x287000,x287001,x287002,x287003 => if x19 = true then (some (x287000,x287001,x287002,x287003,true)) else (delegate_choose.l0 k x1 (IntKind.u64.wrap (wrap64 ((x1.length : Int) + 1))) 0 x286000 x286001 x286002 x286003 x286004)
def delegate_choose.l0 : Nat → List (S61) → Int → Int → Bool → Int → Int → Int → Int → Option (Bool × Int × Int × Int × Bool)
 | 0,_,_,_,_,_,_,_,_ => none
 | k + 1,x1,x24,x25,x286000,x286001,x286002,x286003,x286004 => if x25 < x24 then ((prefix_Part.f k x286000 x286001 x286002 x286003 x286004 x25).bind fun bt290 => (if bt290.2.2.2.2 = true then ((delegate_granted.f k x1 bt290.1 bt290.2.1 bt290.2.2.1 bt290.2.2.2.1).bind fun t296 => (if t296 = true then (delegate_choose.l0 k x1 x24 (IntKind.u64.wrap (x25 + 1)) x286000 x286001 x286002 x286003 x286004) else (some (bt290.1,bt290.2.1,bt290.2.2.1,bt290.2.2.2.1,true)))) else (some (false,0,0,0,false)))) else (some (false,0,0,0,false))
end
def delegate_choose.f (k : Nat) (a0_0 : Bool) (a0_1 : Int) (a0_2 : Int) (a0_3 : Int) (a0_4 : Int) (l1 : List (S61)) (a2_0 : Bool) (a2_1 : Int) (a2_2 : Int) (a2_3 : Int) : Option (Bool × Int × Int × Int × Bool) := (delegate_belongs.f k a0_0 a0_1 a0_2 a0_3 a0_4 a2_0 a2_1 a2_2 a2_3).bind fun t288 => (if t288 = true then ((delegate_granted.f k l1 a2_0 a2_1 a2_2 a2_3).bind fun t289 => (delegate_choose.j0 k l1 (!t289) a0_0 a0_1 a0_2 a0_3 a0_4 a2_0 a2_1 a2_2 a2_3)) else (delegate_choose.j0 k l1 false a0_0 a0_1 a0_2 a0_3 a0_4 a2_0 a2_1 a2_2 a2_3))
theorem delegate_choose.mono_l : ∀ k,(∀ y0 y1 y2 y3 y4 y5 y6 y7 y8 y9 y10,LeO (delegate_choose.j0 k y0 y1 y2 y3 y4 y5 y6 y7 y8 y9 y10) (delegate_choose.j0 (k + 1) y0 y1 y2 y3 y4 y5 y6 y7 y8 y9 y10)) ∧ (∀ y0 y1 y2 y3 y4 y5 y6 y7,LeO (delegate_choose.l0 k y0 y1 y2 y3 y4 y5 y6 y7) (delegate_choose.l0 (k + 1) y0 y1 y2 y3 y4 y5 y6 y7))
 | 0 => ⟨fun _ _ _ _ _ _ _ _ _ _ _ r h => by simp [delegate_choose.j0] at h,fun _ _ _ _ _ _ _ _ r h => by simp [delegate_choose.l0] at h⟩
 | k + 1 => by
  obtain ⟨ih0,ih1⟩ := delegate_choose.mono_l k
  refine ⟨?_,?_⟩
  ·intro y0 y1 y2 y3 y4 y5 y6 y7 y8 y9 y10
   unfold delegate_choose.j0
   repeat' first
   | (with_reducible exact ih0 _ _ _ _ _ _ _ _ _ _ _)
   | (with_reducible exact ih1 _ _ _ _ _ _ _ _)
   | (with_reducible exact delegate_belongs.mono _ _ _ _ _ _ _ _ _ _)
   | (with_reducible exact delegate_granted.mono _ _ _ _ _ _)
   | (with_reducible exact prefix_Part.mono _ _ _ _ _ _ _)
   | (with_reducible exact LeO.refl _)
   | (with_reducible exact LeO.none _)
   | (with_reducible refine LeO.ite ?_ ?_)
   | (with_reducible refine LeO.bind ?_ (fun _ => ?_))
  ·intro y0 y1 y2 y3 y4 y5 y6 y7
   unfold delegate_choose.l0
   repeat' first
   | (with_reducible exact ih0 _ _ _ _ _ _ _ _ _ _ _)
   | (with_reducible exact ih1 _ _ _ _ _ _ _ _)
   | (with_reducible exact delegate_belongs.mono _ _ _ _ _ _ _ _ _ _)
   | (with_reducible exact delegate_granted.mono _ _ _ _ _ _)
   | (with_reducible exact prefix_Part.mono _ _ _ _ _ _ _)
   | (with_reducible exact LeO.refl _)
   | (with_reducible exact LeO.none _)
   | (with_reducible refine LeO.ite ?_ ?_)
   | (with_reducible refine LeO.bind ?_ (fun _ => ?_))
theorem delegate_choose.mono : ∀ a0 a1 a2 a3 a4 a5 a6 a7 a8 a9 k,LeO (delegate_choose.f k a0 a1 a2 a3 a4 a5 a6 a7 a8 a9) (delegate_choose.f (k + 1) a0 a1 a2 a3 a4 a5 a6 a7 a8 a9) := by
 intro a0 a1 a2 a3 a4 a5 a6 a7 a8 a9 k
 obtain ⟨ih0,ih1⟩ := delegate_choose.mono_l k
 unfold delegate_choose.f
 repeat' first
   | (with_reducible exact ih0 _ _ _ _ _ _ _ _ _ _ _)
   | (with_reducible exact ih1 _ _ _ _ _ _ _ _)
   | (with_reducible exact delegate_belongs.mono _ _ _ _ _ _ _ _ _ _)
   | (with_reducible exact delegate_granted.mono _ _ _ _ _ _)
   | (with_reducible exact prefix_Part.mono _ _ _ _ _ _ _)
   | (with_reducible exact LeO.refl _)
   | (with_reducible exact LeO.none _)
   | (with_reducible refine LeO.ite ?_ ?_)
   | (with_reducible refine LeO.bind ?_ (fun _ => ?_))
def delegate_Assign_2.f (k : Nat) (a0_0 : Bool) (a0_1 : Int) (a0_2 : Int) (a0_3 : Int) (a0_4 : ByteArray) (a0_5 : Int) (a1_0 : Bool) (a1_1 : Int) (a1_2 : Int) (a1_3 : Int) : Option (Bool) := (prefix_Compare.f k a0_0 a0_1 a0_2 a0_3 a1_0 a1_1 a1_2 a1_3).bind fun t298 => (some (decide (t298 > 0)))
theorem delegate_Assign_2.mono : ∀ a0 a1 a2 a3 a4 a5 a6 a7 a8 a9 k,LeO (delegate_Assign_2.f k a0 a1 a2 a3 a4 a5 a6 a7 a8 a9) (delegate_Assign_2.f (k + 1) a0 a1 a2 a3 a4 a5 a6 a7 a8 a9) := by
 intro a0 a1 a2 a3 a4 a5 a6 a7 a8 a9 k
 unfold delegate_Assign_2.f
 repeat' first
   | (with_reducible exact prefix_Compare.mono _ _ _ _ _ _ _ _ _)
   | (with_reducible exact LeO.refl _)
   | (with_reducible exact LeO.none _)
   | (with_reducible refine LeO.ite ?_ ?_)
   | (with_reducible refine LeO.bind ?_ (fun _ => ?_))
def slices_Insert.f (l0 : List (S61)) (a1 : Int) (l2 : List (S61)) : Option (List (S61)) :=
 if 0 ≤ a1 then (if a1 ≤ (l0.length : Int) then (if (l0.length + l2.length) * 56 ≤ 140737488355328 then some (l0.take a1.toNat ++ l2 ++ l0.drop a1.toNat) else none) else none) else none
def slices_IndexFunc_47.l0 : Nat → List (S61) → Int → Int → ByteArray → Option (Int)
 | 0,_,_,_,_ => none
 | k + 1,x0,x7,x8,x700101000 => if x8 < x7 then (if 0 ≤ x8 then (if x8 < (x0.length : Int) then ((delegate_Assign_1.f ((rd_T61 x0 x8).f0.f0.f0) ((rd_T61 x0 x8).f0.f0.f1) ((rd_T61 x0 x8).f0.f0.f2) ((rd_T61 x0 x8).f0.f1) ((rd_T61 x0 x8).f1) ((rd_T61 x0 x8).f2) x700101000).bind fun t308 => (if t308 = true then (some x8) else (slices_IndexFunc_47.l0 k x0 x7 (wrap64 (x8 + 1)) x700101000))) else (none)) else (none)) else (some (-1))
def slices_IndexFunc_47.f (k : Nat) (l0 : List (S61)) (a1_0 : ByteArray) : Option (Int) := slices_IndexFunc_47.l0 k l0 (l0.length : Int) 0 a1_0
theorem slices_IndexFunc_47.mono_l : ∀ k,(∀ y0 y1 y2 y3,LeO (slices_IndexFunc_47.l0 k y0 y1 y2 y3) (slices_IndexFunc_47.l0 (k + 1) y0 y1 y2 y3))
 | 0 => fun _ _ _ _ r h => by simp [slices_IndexFunc_47.l0] at h
 | k + 1 => by
  have ih0 := slices_IndexFunc_47.mono_l k
  ·intro y0 y1 y2 y3
   unfold slices_IndexFunc_47.l0
   repeat' first
   | (with_reducible exact ih0 _ _ _ _)
   | (with_reducible exact LeO.refl _)
   | (with_reducible exact LeO.none _)
   | (with_reducible refine LeO.ite ?_ ?_)
   | (with_reducible refine LeO.bind ?_ (fun _ => ?_))
theorem slices_IndexFunc_47.mono : ∀ a0 a1 k,LeO (slices_IndexFunc_47.f k a0 a1) (slices_IndexFunc_47.f (k + 1) a0 a1) := by
 intro a0 a1 k
 have ih0 := slices_IndexFunc_47.mono_l k
 unfold slices_IndexFunc_47.f
 repeat' first
   | (with_reducible exact ih0 _ _ _ _)
   | (with_reducible exact LeO.refl _)
   | (with_reducible exact LeO.none _)
   | (with_reducible refine LeO.ite ?_ ?_)
   | (with_reducible refine LeO.bind ?_ (fun _ => ?_))
def slices_IndexFunc_49.l0 : Nat → List (S61) → Int → Int → Bool → Int → Int → Int → Option (Int)
 | 0,_,_,_,_,_,_,_ => none
 | k + 1,x0,x7,x8,x700101000,x700101001,x700101002,x700101003 => if x8 < x7 then (if 0 ≤ x8 then (if x8 < (x0.length : Int) then ((delegate_Assign_2.f k ((rd_T61 x0 x8).f0.f0.f0) ((rd_T61 x0 x8).f0.f0.f1) ((rd_T61 x0 x8).f0.f0.f2) ((rd_T61 x0 x8).f0.f1) ((rd_T61 x0 x8).f1) ((rd_T61 x0 x8).f2) x700101000 x700101001 x700101002 x700101003).bind fun t310 => (if t310 = true then (some x8) else (slices_IndexFunc_49.l0 k x0 x7 (wrap64 (x8 + 1)) x700101000 x700101001 x700101002 x700101003))) else (none)) else (none)) else (some (-1))
def slices_IndexFunc_49.f (k : Nat) (l0 : List (S61)) (a1_0 : Bool) (a1_1 : Int) (a1_2 : Int) (a1_3 : Int) : Option (Int) := slices_IndexFunc_49.l0 k l0 (l0.length : Int) 0 a1_0 a1_1 a1_2 a1_3
theorem slices_IndexFunc_49.mono_l : ∀ k,(∀ y0 y1 y2 y3 y4 y5 y6,LeO (slices_IndexFunc_49.l0 k y0 y1 y2 y3 y4 y5 y6) (slices_IndexFunc_49.l0 (k + 1) y0 y1 y2 y3 y4 y5 y6))
 | 0 => fun _ _ _ _ _ _ _ r h => by simp [slices_IndexFunc_49.l0] at h
 | k + 1 => by
  have ih0 := slices_IndexFunc_49.mono_l k
  ·intro y0 y1 y2 y3 y4 y5 y6
   unfold slices_IndexFunc_49.l0
   repeat' first
   | (with_reducible exact ih0 _ _ _ _ _ _ _)
   | (with_reducible exact delegate_Assign_2.mono _ _ _ _ _ _ _ _ _ _ _)
   | (with_reducible exact LeO.refl _)
   | (with_reducible exact LeO.none _)
   | (with_reducible refine LeO.ite ?_ ?_)
   | (with_reducible refine LeO.bind ?_ (fun _ => ?_))
theorem slices_IndexFunc_49.mono : ∀ a0 a1 a2 a3 a4 k,LeO (slices_IndexFunc_49.f k a0 a1 a2 a3 a4) (slices_IndexFunc_49.f (k + 1) a0 a1 a2 a3 a4) := by
 intro a0 a1 a2 a3 a4 k
 have ih0 := slices_IndexFunc_49.mono_l k
 unfold slices_IndexFunc_49.f
 repeat' first
   | (with_reducible exact ih0 _ _ _ _ _ _ _)
   | (with_reducible exact delegate_Assign_2.mono _ _ _ _ _ _ _ _ _ _ _)
   | (with_reducible exact LeO.refl _)
   | (with_reducible exact LeO.none _)
   | (with_reducible refine LeO.ite ?_ ?_)
   | (with_reducible refine LeO.bind ?_ (fun _ => ?_))
mutual
def delegate_Assign.j0 : Nat → List (S61) → Int → Int → Bool → Bool → Int → Int → Int → Int → ByteArray → Bool → Int → Int → Int → Option ((List (S61)) × Bool × Int × Int × Int × Int)
 | 0,_,_,_,_,_,_,_,_,_,_,_,_,_,_ => none
 | k + 1,x1,x4,x5,x43,x312000,x312001,x312002,x312003,x312004,x313000,x314000,x314001,x314002,x314003 => if x43 = true then (some (([] : List (S61)),false,0,0,0,1)) else (if x5 < (wrap64 (4294967295 - x4)) then (delegate_Assign.j1 k x1 x4 (wrap64 (x4 + x5)) x312000 x312001 x312002 x312003 x312004 x313000 x314000 x314001 x314002 x314003) else (delegate_Assign.j1 k x1 x4 4294967295 x312000 x312001 x312002 x312003 x312004 x313000 x314000 x314001 x314002 x314003))
def delegate_Assign.j1 : Nat → List (S61) → Int → Int → Bool → Int → Int → Int → Int → ByteArray → Bool → Int → Int → Int → Option ((List (S61)) × Bool × Int × Int × Int × Int)
 | 0,_,_,_,_,_,_,_,_,_,_,_,_,_ => none
 | k + 1,x1,x4,x16,x312000,x312001,x312002,x312003,x312004,x313000,x314000,x314001,x314002,x314003 => (delegate_Expire.f k x1 x4).bind fun t317 => ((slices_IndexFunc_47.f k t317 x313000).bind fun t320 => (if t320 ≥ 0 then (if 0 ≤ t320 then (if t320 < (t317.length : Int) then ((some (t317.set (t320 : Int).toNat (⟨(⟨(⟨(rd_T61 t317 t320).f0.f0.f0,(rd_T61 t317 t320).f0.f0.f1,(rd_T61 t317 t320).f0.f0.f2⟩ : S24),(rd_T61 t317 t320).f0.f1⟩ : S26),(rd_T61 t317 t320).f1,mx ((rd_T61 t317 t320).f2) x16⟩ : S61) : List (S61))).bind fun y322 => (some (y322,(rd_T61 y322 t320).f0.f0.f0,(rd_T61 y322 t320).f0.f0.f1,(rd_T61 y322 t320).f0.f0.f2,(rd_T61 y322 t320).f0.f1,0))) else (none)) else (none)) else ((delegate_choose.f k x312000 x312001 x312002 x312003 x312004 t317 x314000 x314001 x314002 x314003).bind fun bt324 => (if bt324.2.2.2.2 = true then (if (t317.length : Int) ≥ 512 then (some (([] : List (S61)),false,0,0,0,9)) else ((slices_IndexFunc_49.f k t317 bt324.1 bt324.2.1 bt324.2.2.1 bt324.2.2.2.1).bind fun t330 => (if t330 < 0 then (delegate_Assign.j2 k x16 t317 (t317.length : Int) x313000 bt324.1 bt324.2.1 bt324.2.2.1 bt324.2.2.2.1) else (delegate_Assign.j2 k x16 t317 t330 x313000 bt324.1 bt324.2.1 bt324.2.2.1 bt324.2.2.2.1)))) else (some (([] : List (S61)),false,0,0,0,22))))))
def delegate_Assign.j2 : Nat → Int → List (S61) → Int → ByteArray → Bool → Int → Int → Int → Option ((List (S61)) × Bool × Int × Int × Int × Int)
 | 0,_,_,_,_,_,_,_,_ => none
 | k + 1,x16,x17,x21,x313000,x330000,x330001,x330002,x330003 => (slices_Insert.f x17 x21 (([(⟨(⟨(⟨x330000,x330001,x330002⟩ : S24),x330003⟩ : S26),x313000,x16⟩ : S61)] : List (S61)))).bind fun t334 => (some (t334,x330000,x330001,x330002,x330003,0))
end
def delegate_Assign.f (k : Nat) (a0_0 : Bool) (a0_1 : Int) (a0_2 : Int) (a0_3 : Int) (a0_4 : Int) (l1 : List (S61)) (a2 : ByteArray) (a3_0 : Bool) (a3_1 : Int) (a3_2 : Int) (a3_3 : Int) (a4 : Int) (a5 : Int) : Option ((List (S61)) × Bool × Int × Int × Int × Int) := (delegate_Check.f k a0_0 a0_1 a0_2 a0_3 a0_4 l1).bind fun t315 => (if t315 = 0 then ((delegate_named.f k a2).bind fun t316 => (if t316 = true then (if a4 < 0 then (delegate_Assign.j0 k l1 a4 a5 true a0_0 a0_1 a0_2 a0_3 a0_4 a2 a3_0 a3_1 a3_2 a3_3) else (if a4 > 4294967295 then (delegate_Assign.j0 k l1 a4 a5 true a0_0 a0_1 a0_2 a0_3 a0_4 a2 a3_0 a3_1 a3_2 a3_3) else (delegate_Assign.j0 k l1 a4 a5 (decide (a5 < 1)) a0_0 a0_1 a0_2 a0_3 a0_4 a2 a3_0 a3_1 a3_2 a3_3))) else (delegate_Assign.j0 k l1 a4 a5 true a0_0 a0_1 a0_2 a0_3 a0_4 a2 a3_0 a3_1 a3_2 a3_3))) else (some (([] : List (S61)),false,0,0,0,t315)))
theorem delegate_Assign.mono_l : ∀ k,(∀ y0 y1 y2 y3 y4 y5 y6 y7 y8 y9 y10 y11 y12 y13,LeO (delegate_Assign.j0 k y0 y1 y2 y3 y4 y5 y6 y7 y8 y9 y10 y11 y12 y13) (delegate_Assign.j0 (k + 1) y0 y1 y2 y3 y4 y5 y6 y7 y8 y9 y10 y11 y12 y13)) ∧ (∀ y0 y1 y2 y3 y4 y5 y6 y7 y8 y9 y10 y11 y12,LeO (delegate_Assign.j1 k y0 y1 y2 y3 y4 y5 y6 y7 y8 y9 y10 y11 y12) (delegate_Assign.j1 (k + 1) y0 y1 y2 y3 y4 y5 y6 y7 y8 y9 y10 y11 y12)) ∧ (∀ y0 y1 y2 y3 y4 y5 y6 y7,LeO (delegate_Assign.j2 k y0 y1 y2 y3 y4 y5 y6 y7) (delegate_Assign.j2 (k + 1) y0 y1 y2 y3 y4 y5 y6 y7))
 | 0 => ⟨fun _ _ _ _ _ _ _ _ _ _ _ _ _ _ r h => by simp [delegate_Assign.j0] at h,fun _ _ _ _ _ _ _ _ _ _ _ _ _ r h => by simp [delegate_Assign.j1] at h,fun _ _ _ _ _ _ _ _ r h => by simp [delegate_Assign.j2] at h⟩
 | k + 1 => by
  obtain ⟨ih0,ih1,ih2⟩ := delegate_Assign.mono_l k
  refine ⟨?_,?_,?_⟩
  ·intro y0 y1 y2 y3 y4 y5 y6 y7 y8 y9 y10 y11 y12 y13
   unfold delegate_Assign.j0
   repeat' first
   | (with_reducible exact ih0 _ _ _ _ _ _ _ _ _ _ _ _ _ _)
   | (with_reducible exact ih1 _ _ _ _ _ _ _ _ _ _ _ _ _)
   | (with_reducible exact ih2 _ _ _ _ _ _ _ _)
   | (with_reducible exact delegate_Check.mono _ _ _ _ _ _ _)
   | (with_reducible exact delegate_Expire.mono _ _ _)
   | (with_reducible exact delegate_choose.mono _ _ _ _ _ _ _ _ _ _ _)
   | (with_reducible exact delegate_named.mono _ _)
   | (with_reducible exact slices_IndexFunc_47.mono _ _ _)
   | (with_reducible exact slices_IndexFunc_49.mono _ _ _ _ _ _)
   | (with_reducible exact LeO.refl _)
   | (with_reducible exact LeO.none _)
   | (with_reducible refine LeO.ite ?_ ?_)
   | (with_reducible refine LeO.bind ?_ (fun _ => ?_))
  ·intro y0 y1 y2 y3 y4 y5 y6 y7 y8 y9 y10 y11 y12
   unfold delegate_Assign.j1
   repeat' first
   | (with_reducible exact ih0 _ _ _ _ _ _ _ _ _ _ _ _ _ _)
   | (with_reducible exact ih1 _ _ _ _ _ _ _ _ _ _ _ _ _)
   | (with_reducible exact ih2 _ _ _ _ _ _ _ _)
   | (with_reducible exact delegate_Check.mono _ _ _ _ _ _ _)
   | (with_reducible exact delegate_Expire.mono _ _ _)
   | (with_reducible exact delegate_choose.mono _ _ _ _ _ _ _ _ _ _ _)
   | (with_reducible exact delegate_named.mono _ _)
   | (with_reducible exact slices_IndexFunc_47.mono _ _ _)
   | (with_reducible exact slices_IndexFunc_49.mono _ _ _ _ _ _)
   | (with_reducible exact LeO.refl _)
   | (with_reducible exact LeO.none _)
   | (with_reducible refine LeO.ite ?_ ?_)
   | (with_reducible refine LeO.bind ?_ (fun _ => ?_))
  ·intro y0 y1 y2 y3 y4 y5 y6 y7
   unfold delegate_Assign.j2
   repeat' first
   | (with_reducible exact ih0 _ _ _ _ _ _ _ _ _ _ _ _ _ _)
   | (with_reducible exact ih1 _ _ _ _ _ _ _ _ _ _ _ _ _)
   | (with_reducible exact ih2 _ _ _ _ _ _ _ _)
   | (with_reducible exact delegate_Check.mono _ _ _ _ _ _ _)
   | (with_reducible exact delegate_Expire.mono _ _ _)
   | (with_reducible exact delegate_choose.mono _ _ _ _ _ _ _ _ _ _ _)
   | (with_reducible exact delegate_named.mono _ _)
   | (with_reducible exact slices_IndexFunc_47.mono _ _ _)
   | (with_reducible exact slices_IndexFunc_49.mono _ _ _ _ _ _)
   | (with_reducible exact LeO.refl _)
   | (with_reducible exact LeO.none _)
   | (with_reducible refine LeO.ite ?_ ?_)
   | (with_reducible refine LeO.bind ?_ (fun _ => ?_))
theorem delegate_Assign.mono : ∀ a0 a1 a2 a3 a4 a5 a6 a7 a8 a9 a10 a11 a12 k,LeO (delegate_Assign.f k a0 a1 a2 a3 a4 a5 a6 a7 a8 a9 a10 a11 a12) (delegate_Assign.f (k + 1) a0 a1 a2 a3 a4 a5 a6 a7 a8 a9 a10 a11 a12) := by
 intro a0 a1 a2 a3 a4 a5 a6 a7 a8 a9 a10 a11 a12 k
 obtain ⟨ih0,ih1,ih2⟩ := delegate_Assign.mono_l k
 unfold delegate_Assign.f
 repeat' first
   | (with_reducible exact ih0 _ _ _ _ _ _ _ _ _ _ _ _ _ _)
   | (with_reducible exact ih1 _ _ _ _ _ _ _ _ _ _ _ _ _)
   | (with_reducible exact ih2 _ _ _ _ _ _ _ _)
   | (with_reducible exact delegate_Check.mono _ _ _ _ _ _ _)
   | (with_reducible exact delegate_Expire.mono _ _ _)
   | (with_reducible exact delegate_choose.mono _ _ _ _ _ _ _ _ _ _ _)
   | (with_reducible exact delegate_named.mono _ _)
   | (with_reducible exact slices_IndexFunc_47.mono _ _ _)
   | (with_reducible exact slices_IndexFunc_49.mono _ _ _ _ _ _)
   | (with_reducible exact LeO.refl _)
   | (with_reducible exact LeO.none _)
   | (with_reducible refine LeO.ite ?_ ?_)
   | (with_reducible refine LeO.bind ?_ (fun _ => ?_))
def delegate_Release_1.f (a0_0 : Bool) (a0_1 : Int) (a0_2 : Int) (a0_3 : Int) (a0_4 : ByteArray) (a0_5 : Int) (a1_0 : Bool) (a1_1 : Int) (a1_2 : Int) (a1_3 : Int) (a1_4 : ByteArray) : Option (Bool) := if ((a0_0 == a1_0 && (a0_1 == a1_1 && (a0_2 == a1_2))) && (a0_3 == a1_3)) = true then (some (a0_4.toList == a1_4.toList)) else (some false)
def slices_Delete.f (l0 : List (S61)) (a1 a2 : Int) : Option (List (S61)) :=
 if 0 ≤ a1 then (if a1 ≤ a2 then (if a2 ≤ (l0.length : Int) then some (l0.take a1.toNat ++ l0.drop a2.toNat) else none) else none) else none
def slices_IndexFunc_53.l0 : Nat → List (S61) → Int → Int → Bool → Int → Int → Int → ByteArray → Option (Int)
 | 0,_,_,_,_,_,_,_,_ => none
 | k + 1,x0,x7,x8,x700101000,x700101001,x700101002,x700101003,x700102000 => if x8 < x7 then (if 0 ≤ x8 then (if x8 < (x0.length : Int) then ((delegate_Release_1.f ((rd_T61 x0 x8).f0.f0.f0) ((rd_T61 x0 x8).f0.f0.f1) ((rd_T61 x0 x8).f0.f0.f2) ((rd_T61 x0 x8).f0.f1) ((rd_T61 x0 x8).f1) ((rd_T61 x0 x8).f2) x700101000 x700101001 x700101002 x700101003 x700102000).bind fun t339 => (if t339 = true then (some x8) else (slices_IndexFunc_53.l0 k x0 x7 (wrap64 (x8 + 1)) x700101000 x700101001 x700101002 x700101003 x700102000))) else (none)) else (none)) else (some (-1))
def slices_IndexFunc_53.f (k : Nat) (l0 : List (S61)) (a1_0 : Bool) (a1_1 : Int) (a1_2 : Int) (a1_3 : Int) (a1_4 : ByteArray) : Option (Int) := slices_IndexFunc_53.l0 k l0 (l0.length : Int) 0 a1_0 a1_1 a1_2 a1_3 a1_4
theorem slices_IndexFunc_53.mono_l : ∀ k,(∀ y0 y1 y2 y3 y4 y5 y6 y7,LeO (slices_IndexFunc_53.l0 k y0 y1 y2 y3 y4 y5 y6 y7) (slices_IndexFunc_53.l0 (k + 1) y0 y1 y2 y3 y4 y5 y6 y7))
 | 0 => fun _ _ _ _ _ _ _ _ r h => by simp [slices_IndexFunc_53.l0] at h
 | k + 1 => by
  have ih0 := slices_IndexFunc_53.mono_l k
  ·intro y0 y1 y2 y3 y4 y5 y6 y7
   unfold slices_IndexFunc_53.l0
   repeat' first
   | (with_reducible exact ih0 _ _ _ _ _ _ _ _)
   | (with_reducible exact LeO.refl _)
   | (with_reducible exact LeO.none _)
   | (with_reducible refine LeO.ite ?_ ?_)
   | (with_reducible refine LeO.bind ?_ (fun _ => ?_))
theorem slices_IndexFunc_53.mono : ∀ a0 a1 a2 a3 a4 a5 k,LeO (slices_IndexFunc_53.f k a0 a1 a2 a3 a4 a5) (slices_IndexFunc_53.f (k + 1) a0 a1 a2 a3 a4 a5) := by
 intro a0 a1 a2 a3 a4 a5 k
 have ih0 := slices_IndexFunc_53.mono_l k
 unfold slices_IndexFunc_53.f
 repeat' first
   | (with_reducible exact ih0 _ _ _ _ _ _ _ _)
   | (with_reducible exact LeO.refl _)
   | (with_reducible exact LeO.none _)
   | (with_reducible refine LeO.ite ?_ ?_)
   | (with_reducible refine LeO.bind ?_ (fun _ => ?_))
def delegate_Release.f (k : Nat) (a0_0 : Bool) (a0_1 : Int) (a0_2 : Int) (a0_3 : Int) (a0_4 : Int) (l1 : List (S61)) (a2 : ByteArray) (a3_0 : Bool) (a3_1 : Int) (a3_2 : Int) (a3_3 : Int) : Option ((List (S61)) × Int) := (delegate_Check.f k a0_0 a0_1 a0_2 a0_3 a0_4 l1).bind fun t343 => (if t343 = 0 then ((slices_IndexFunc_53.f k l1 a3_0 a3_1 a3_2 a3_3 a2).bind fun t344 => (if t344 < 0 then (some (([] : List (S61)),11)) else ((slices_Clone.f l1).bind fun t345 => ((slices_Delete.f t345 t344 (wrap64 (t344 + 1))).bind fun t348 => (some (t348,0)))))) else (some (([] : List (S61)),t343)))
theorem delegate_Release.mono : ∀ a0 a1 a2 a3 a4 a5 a6 a7 a8 a9 a10 k,LeO (delegate_Release.f k a0 a1 a2 a3 a4 a5 a6 a7 a8 a9 a10) (delegate_Release.f (k + 1) a0 a1 a2 a3 a4 a5 a6 a7 a8 a9 a10) := by
 intro a0 a1 a2 a3 a4 a5 a6 a7 a8 a9 a10 k
 unfold delegate_Release.f
 repeat' first
   | (with_reducible exact delegate_Check.mono _ _ _ _ _ _ _)
   | (with_reducible exact slices_IndexFunc_53.mono _ _ _ _ _ _ _)
   | (with_reducible exact LeO.refl _)
   | (with_reducible exact LeO.none _)
   | (with_reducible refine LeO.ite ?_ ?_)
   | (with_reducible refine LeO.bind ?_ (fun _ => ?_))
def ddilaw43_pool.f  : Option (Bool × Int × Int × Int × Int) := some (true,2306139568115548160,0,48,56)
def ddilaw43_awake.f (k : Nat)  : Option (Bool) := (ddilaw43_pool.f).bind fun bt352 => ((delegate_Assign.f k bt352.1 bt352.2.1 bt352.2.2.1 bt352.2.2.2.1 bt352.2.2.2.2 ([] : List (S61)) (⟨#[97]⟩ : ByteArray) false 0 0 0 0 100).bind fun bt358 => ((delegate_Assign.f k bt352.1 bt352.2.1 bt352.2.2.1 bt352.2.2.2.1 bt352.2.2.2.2 bt358.1 (⟨#[98]⟩ : ByteArray) bt358.2.1 bt358.2.2.1 bt358.2.2.2.1 bt358.2.2.2.2.1 0 100).bind fun bt367 => ((delegate_Release.f k bt352.1 bt352.2.1 bt352.2.2.1 bt352.2.2.2.1 bt352.2.2.2.2 bt367.1 (⟨#[98]⟩ : ByteArray) bt358.2.1 bt358.2.2.1 bt358.2.2.2.1 bt358.2.2.2.2.1).bind fun bt376 => ((delegate_Route.f k bt367.1 true 2306139568115548416 5 50).bind fun bt380 => (if bt358.2.2.2.2.2 = 0 then (if bt367.2.2.2.2.2 = 0 then (if ((bt358.2.1 == bt352.1 && (bt358.2.2.1 == bt352.2.1 && (bt358.2.2.2.1 == bt352.2.2.1))) && (bt358.2.2.2.2.1 == 56)) = true then (if ((bt367.2.1 && (bt367.2.2.1 == 2306139568115548416 && (bt367.2.2.2.1 == 0))) && (bt367.2.2.2.2.1 == 56)) = true then (if bt376.2 = 11 then (if bt380.1.toList = ([98] : List UInt8) then (if bt380.2 = true then ((delegate_Free.f k bt352.1 bt352.2.1 bt352.2.2.1 bt352.2.2.2.1 bt352.2.2.2.2 bt367.1 50).bind fun t383 => (if t383 = 254 then ((delegate_Expire.f k bt367.1 100).bind fun t384 => (if (t384.length : Int) = 0 then (if 0 < (bt367.1.length : Int) then ((delegate_Check.f k bt352.1 bt352.2.1 bt352.2.2.1 bt352.2.2.2.1 bt352.2.2.2.2 (([(⟨(⟨(⟨(rd_T61 bt367.1 0).f0.f0.f0,(rd_T61 bt367.1 0).f0.f0.f1,(rd_T61 bt367.1 0).f0.f0.f2⟩ : S24),(rd_T61 bt367.1 0).f0.f1⟩ : S26),(rd_T61 bt367.1 0).f1,(rd_T61 bt367.1 0).f2⟩ : S61),(⟨(⟨(⟨(rd_T61 bt367.1 0).f0.f0.f0,(rd_T61 bt367.1 0).f0.f0.f1,(rd_T61 bt367.1 0).f0.f0.f2⟩ : S24),(rd_T61 bt367.1 0).f0.f1⟩ : S26),(rd_T61 bt367.1 0).f1,(rd_T61 bt367.1 0).f2⟩ : S61)] : List (S61)))).bind fun t392 => (some (t392 == 7))) else (none)) else (some false))) else (some false))) else (some false)) else (some false)) else (some false)) else (some false)) else (some false)) else (some false)) else (some false))))))
theorem ddilaw43_awake.mono : ∀ k,LeO (ddilaw43_awake.f k ) (ddilaw43_awake.f (k + 1) ) := by
 intro  k
 unfold ddilaw43_awake.f
 repeat' first
   | (with_reducible exact delegate_Assign.mono _ _ _ _ _ _ _ _ _ _ _ _ _ _)
   | (with_reducible exact delegate_Check.mono _ _ _ _ _ _ _)
   | (with_reducible exact delegate_Expire.mono _ _ _)
   | (with_reducible exact delegate_Free.mono _ _ _ _ _ _ _ _)
   | (with_reducible exact delegate_Release.mono _ _ _ _ _ _ _ _ _ _ _ _)
   | (with_reducible exact delegate_Route.mono _ _ _ _ _ _)
   | (with_reducible exact LeO.refl _)
   | (with_reducible exact LeO.none _)
   | (with_reducible refine LeO.ite ?_ ?_)
   | (with_reducible refine LeO.bind ?_ (fun _ => ?_))
end Go.Proofs.Ythjngcjhjnigjaa.QA
