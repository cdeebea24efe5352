import Derived.Test.YtpcjablkjaiapaaXC
import Derived.Test.YtpcjablkjaiapaaXR
import Derived.Test.YtpcjablkjaiapaaWMore
import Derived.Below
import Derived.Deep.Draws
import Derived.Deep.AppendLies
import Derived.Maps.AppendAt
import Derived.OwnWalk
import Derived.Laws.BytesArg
import Derived.Laws.MakeOwn
import Derived.Laws.OwnMore
import Derived.Deep.OwnRows
import Derived.Tactics
import Derived.Lib.ConvBytes
import Derived.Laws.Slices
import Derived.WalkKit
import Derived.KernelRfl
import Derived.RowKit3
import Derived.Deep.LoopGhost
import Derived.Deep.QuietTactic
import Derived.BigQuiet
import Derived.WideLaws
import Derived.Deep.DeepCutAuto
import Derived.Deep.CutBlock
import Derived.Deep.RegionHeld3
import Derived.Laws.Rows
import Derived.Lib.AppendStr
import Derived.ArgAppend
import Derived.Laws.IdiomCopy
import Derived.OrdersHeld
import Derived.Laws.BitsLemmas
import Derived.RowKit
namespace Go.Proofs.Ytpcjablkjaiapaa.QA
open Go.RowKit Go.Proofs.YtpcjablkjaiapaaW.PrintWords Go.Proofs.YtpcjablkjaiapaaW.PrintLast Go.Proofs.YtpcjablkjaiapaaW.PrintMore
set_option linter.unusedVariables false
structure S26 where
 f0 : Bool
 f1 : Int
 f2 : Int
def z26 : S26 := ⟨false,(0 : Int),(0 : Int)⟩
structure S64 where
 f0 : S26
 f1 : S26
def z64 : S64 := ⟨z26,z26⟩
def rd_T64 (xs : List S64) (i : Int) : S64 := xs.getD i.toNat z64
structure S55 where
 f0 : ByteArray
 f1 : S26
 f2 : ByteArray
def z55 : S55 := ⟨(⟨#[]⟩ : ByteArray),z26,(⟨#[]⟩ : ByteArray)⟩
def rd_T55 (xs : List S55) (i : Int) : S55 := xs.getD i.toNat z55
structure S57 where
 f0 : Int
 f1 : ByteArray
def z57 : S57 := ⟨(0 : Int),(⟨#[]⟩ : ByteArray)⟩
def rd_T57 (xs : List S57) (i : Int) : S57 := xs.getD i.toNat z57
structure S23 where
 f0 : Bool
 f1 : Int
 f2 : Int
 f3 : Int
structure S28 where
 f0 : S26
 f1 : Int
structure S33 where
 f0 : S28
 f1 : ByteArray
 f2 : (List S64)
 f3 : (List S55)
 f4 : (List S57)
 f5 : Int
structure S35 where
 f0 : S26
 f1 : Int
def okS23 (x : S23) : Prop := True ∧ ((Lit.int .i64 x.f1).wf = true ∧ ((Lit.int .i64 x.f2).wf = true ∧ (Lit.int .i64 x.f3).wf = true))
def okS26 (x : S26) : Prop := True ∧ ((Lit.int .u64 x.f1).wf = true ∧ (Lit.int .u64 x.f2).wf = true)
def okS28 (x : S28) : Prop := okS26 x.f0 ∧ (Lit.int .i64 x.f1).wf = true
def okS64 (x : S64) : Prop := okS26 x.f0 ∧ okS26 x.f1
def okS55 (x : S55) : Prop := x.f0.size ≤ 140737488351232 ∧ (okS26 x.f1 ∧ x.f2.size ≤ 140737488351232)
def okS57 (x : S57) : Prop := (Lit.int .i64 x.f0).wf = true ∧ x.f1.size ≤ 140737488351232
def okS33 (x : S33) : Prop := okS28 x.f0 ∧ (x.f1.size ≤ 140737488351232 ∧ ((x.f2.length * 48 ≤ 140737488351232 ∧ x.f2.length ≤ maxLen ∧ ∀ y0_ ∈ x.f2,okS64 y0_) ∧ ((x.f3.length * 56 ≤ 140737488351232 ∧ x.f3.length ≤ maxLen ∧ ∀ y0_ ∈ x.f3,okS55 y0_) ∧ ((x.f4.length * 24 ≤ 140737488351232 ∧ x.f4.length ≤ maxLen ∧ ∀ y0_ ∈ x.f4,okS57 y0_) ∧ (Lit.int .i64 x.f5).wf = true))))
def okS35 (x : S35) : Prop := okS26 x.f0 ∧ (Lit.int .i64 x.f1).wf = true
def addr_Valid.f (a0_0 : Bool) (a0_1 : Int) (a0_2 : Int) : Option (Bool) := if a0_0 = true then (some true) else (if a0_1 = 0 then (some (decide (a0_2 ≤ 4294967295))) else (some false))
def bits_Sub64.f (a0 : Int) (a1 : Int) (a2 : Int) : Option (Int × Int) := XC.sub64 a0 a1 a2
mutual
def addr_Sub.j0 : Nat → Bool → Bool → Int → Int → Bool → Int → Int → Option (Int × Bool)
 | 0,_,_,_,_,_,_,_ => none
 | k + 1,x24,x103000,x103001,x103002,x104000,x104001,x104002 => if x24 = true then (some (0,false)) else ((bits_Sub64.f x103002 x104002 0).bind fun bt106 => ((bits_Sub64.f x103001 x104001 bt106.2).bind fun bt108 => (if bt108.2 = 0 then (addr_Sub.j1 k bt106.1 (bt108.1 != 0)) else (addr_Sub.j1 k bt106.1 true))))
def addr_Sub.j1 : Nat → Int → Bool → Option (Int × Bool)
 | 0,_,_ => none
 | k + 1,x6,x47 => if x47 = true then (some (0,false)) else (some (x6,true))
end
def addr_Sub.f (k : Nat) (a0_0 : Bool) (a0_1 : Int) (a0_2 : Int) (a1_0 : Bool) (a1_1 : Int) (a1_2 : Int) : Option (Int × Bool) := (addr_Valid.f a0_0 a0_1 a0_2).bind fun t104 => (if t104 = true then ((addr_Valid.f a1_0 a1_1 a1_2).bind fun t105 => (if t105 = true then (addr_Sub.j0 k (a0_0 != a1_0) a0_0 a0_1 a0_2 a1_0 a1_1 a1_2) else (addr_Sub.j0 k true a0_0 a0_1 a0_2 a1_0 a1_1 a1_2))) else (addr_Sub.j0 k true a0_0 a0_1 a0_2 a1_0 a1_1 a1_2))
theorem addr_Sub.mono_l : ∀ k,(∀ y0 y1 y2 y3 y4 y5 y6,LeO (addr_Sub.j0 k y0 y1 y2 y3 y4 y5 y6) (addr_Sub.j0 (k + 1) y0 y1 y2 y3 y4 y5 y6)) ∧ (∀ y0 y1,LeO (addr_Sub.j1 k y0 y1) (addr_Sub.j1 (k + 1) y0 y1))
 | 0 => ⟨fun _ _ _ _ _ _ _ r h => by simp [addr_Sub.j0] at h,fun _ _ r h => by simp [addr_Sub.j1] at h⟩
 | k + 1 => by
  obtain ⟨ih0,ih1⟩ := addr_Sub.mono_l k
  refine ⟨?_,?_⟩
  ·intro y0 y1 y2 y3 y4 y5 y6
   unfold addr_Sub.j0
   repeat' first
   | (with_reducible exact ih0 _ _ _ _ _ _ _)
   | (with_reducible exact ih1 _ _)
   | (with_reducible exact LeO.refl _)
   | (with_reducible exact LeO.none _)
   | (with_reducible refine LeO.ite ?_ ?_)
   | (with_reducible refine LeO.bind ?_ (fun _ => ?_))
  ·intro y0 y1
   unfold addr_Sub.j1
   repeat' first
   | (with_reducible exact ih0 _ _ _ _ _ _ _)
   | (with_reducible exact ih1 _ _)
   | (with_reducible exact LeO.refl _)
   | (with_reducible exact LeO.none _)
   | (with_reducible refine LeO.ite ?_ ?_)
   | (with_reducible refine LeO.bind ?_ (fun _ => ?_))
theorem addr_Sub.mono : ∀ a0 a1 a2 a3 a4 a5 k,LeO (addr_Sub.f k a0 a1 a2 a3 a4 a5) (addr_Sub.f (k + 1) a0 a1 a2 a3 a4 a5) := by
 intro a0 a1 a2 a3 a4 a5 k
 obtain ⟨ih0,ih1⟩ := addr_Sub.mono_l k
 unfold addr_Sub.f
 repeat' first
   | (with_reducible exact ih0 _ _ _ _ _ _ _)
   | (with_reducible exact ih1 _ _)
   | (with_reducible exact LeO.refl _)
   | (with_reducible exact LeO.none _)
   | (with_reducible refine LeO.ite ?_ ?_)
   | (with_reducible refine LeO.bind ?_ (fun _ => ?_))
def bits_Add64.f (a0 : Int) (a1 : Int) (a2 : Int) : Option (Int × Int) := XC.add64 a0 a1 a2
def addr_Add.j0 : Nat → Bool → Bool → Int → Int → Option (Bool × Int × Int × Bool)
 | 0,_,_,_,_ => none
 | k + 1,x40,x118000,x118001,x118002 => if x40 = true then (some (false,0,0,false)) else (some (x118000,x118001,x118002,true))
def addr_Add.f (k : Nat) (a0_0 : Bool) (a0_1 : Int) (a0_2 : Int) (a1 : Int) : Option (Bool × Int × Int × Bool) := (addr_Valid.f a0_0 a0_1 a0_2).bind fun t112 => (if t112 = true then ((bits_Add64.f a0_2 a1 0).bind fun bt113 => ((bits_Add64.f a0_1 0 bt113.2).bind fun bt115 => (if bt115.2 = 0 then ((addr_Valid.f a0_0 bt115.1 bt113.1).bind fun t118 => (addr_Add.j0 k (!t118) a0_0 bt115.1 bt113.1)) else (addr_Add.j0 k true a0_0 bt115.1 bt113.1)))) else (some (false,0,0,false)))
theorem addr_Add.mono_l : ∀ k,(∀ y0 y1 y2 y3,LeO (addr_Add.j0 k y0 y1 y2 y3) (addr_Add.j0 (k + 1) y0 y1 y2 y3))
 | 0 => fun _ _ _ _ r h => by simp [addr_Add.j0] at h
 | k + 1 => by
  have ih0 := addr_Add.mono_l k
  ·intro y0 y1 y2 y3
   unfold addr_Add.j0
   repeat' first
   | (with_reducible exact ih0 _ _ _ _)
   | (with_reducible exact LeO.refl _)
   | (with_reducible exact LeO.none _)
   | (with_reducible refine LeO.ite ?_ ?_)
   | (with_reducible refine LeO.bind ?_ (fun _ => ?_))
theorem addr_Add.mono : ∀ a0 a1 a2 a3 k,LeO (addr_Add.f k a0 a1 a2 a3) (addr_Add.f (k + 1) a0 a1 a2 a3) := by
 intro a0 a1 a2 a3 k
 have ih0 := addr_Add.mono_l k
 unfold addr_Add.f
 repeat' first
   | (with_reducible exact ih0 _ _ _ _)
   | (with_reducible exact LeO.refl _)
   | (with_reducible exact LeO.none _)
   | (with_reducible refine LeO.ite ?_ ?_)
   | (with_reducible refine LeO.bind ?_ (fun _ => ?_))
def failover_part.f (k : Nat) (a0 : Bool) (a1_0 : Bool) (a1_1 : Int) (a1_2 : Int) (a1_3 : Bool) (a1_4 : Int) (a1_5 : Int) : Option (Bool × Int × Int × Bool × Int × Int × Bool) := (addr_Sub.f k a1_3 a1_4 a1_5 a1_0 a1_1 a1_2).bind fun bt121 => (if bt121.2 = true then (if a0 = true then ((addr_Add.f k a1_0 a1_1 a1_2 (IntKind.u64.wrap ((IntKind.u64.wrap ((IntKind.u64.wrap (Int.tdiv bt121.1 2)) + 1)) - 1))).bind fun bt123 => (some (a1_0,a1_1,a1_2,bt123.1,bt123.2.1,bt123.2.2.1,true))) else (if (IntKind.u64.wrap ((IntKind.u64.wrap (Int.tdiv bt121.1 2)) + 1)) > bt121.1 then (some (false,0,0,false,0,0,false)) else ((addr_Add.f k a1_0 a1_1 a1_2 (IntKind.u64.wrap ((IntKind.u64.wrap (Int.tdiv bt121.1 2)) + 1))).bind fun bt128 => (some (bt128.1,bt128.2.1,bt128.2.2.1,a1_3,a1_4,a1_5,true))))) else (some (false,0,0,false,0,0,false)))
theorem failover_part.mono : ∀ a0 a1 a2 a3 a4 a5 a6 k,LeO (failover_part.f k a0 a1 a2 a3 a4 a5 a6) (failover_part.f (k + 1) a0 a1 a2 a3 a4 a5 a6) := by
 intro a0 a1 a2 a3 a4 a5 a6 k
 unfold failover_part.f
 repeat' first
   | (with_reducible exact addr_Add.mono _ _ _ _ _)
   | (with_reducible exact addr_Sub.mono _ _ _ _ _ _ _)
   | (with_reducible exact LeO.refl _)
   | (with_reducible exact LeO.none _)
   | (with_reducible refine LeO.ite ?_ ?_)
   | (with_reducible refine LeO.bind ?_ (fun _ => ?_))
def failover_parts.l0 : Nat → List (S64) → List (S64) → Int → Int → Bool → Int → Int → Int → Option ((List (S64)))
 | 0,_,_,_,_,_,_,_,_ => none
 | k + 1,x5,x11,x12,x13,x134000,x134001,x134002,x134003 => if x13 < x12 then (if 0 ≤ x13 then (if x13 < (x11.length : Int) then ((failover_part.f k x134000 ((rd_T64 x11 x13).f0.f0) ((rd_T64 x11 x13).f0.f1) ((rd_T64 x11 x13).f0.f2) ((rd_T64 x11 x13).f1.f0) ((rd_T64 x11 x13).f1.f1) ((rd_T64 x11 x13).f1.f2)).bind fun bt137 => (if bt137.2.2.2.2.2.2 = true then (if x5.length < 2932031007402 then (failover_parts.l0 k (x5 ++ [(⟨(⟨bt137.1,bt137.2.1,bt137.2.2.1⟩ : S26),(⟨bt137.2.2.2.1,bt137.2.2.2.2.1,bt137.2.2.2.2.2.1⟩ : S26)⟩ : S64)]) x11 x12 (wrap64 (x13 + 1)) x134000 x134001 x134002 x134003) else (none)) else (failover_parts.l0 k x5 x11 x12 (wrap64 (x13 + 1)) x134000 x134001 x134002 x134003))) else (none)) else (none)) else (some x5)
def failover_parts.f (k : Nat) (a0_0 : Bool) (a0_1 : Int) (a0_2 : Int) (a0_3 : Int) (a1_0 : Bool) (a1_1 : Int) (a1_2 : Int) (a1_3 : Int) (a1_4 : ByteArray) (l1_5 : List (S64)) (l1_6 : List (S55)) (l1_7 : List (S57)) (a1_8 : Int) : Option ((List (S64))) := failover_parts.l0 k ([] : List (S64)) l1_5 (l1_5.length : Int) 0 a0_0 a0_1 a0_2 a0_3
theorem failover_parts.mono_l : ∀ k,(∀ y0 y1 y2 y3 y4 y5 y6 y7,LeO (failover_parts.l0 k y0 y1 y2 y3 y4 y5 y6 y7) (failover_parts.l0 (k + 1) y0 y1 y2 y3 y4 y5 y6 y7))
 | 0 => fun _ _ _ _ _ _ _ _ r h => by simp [failover_parts.l0] at h
 | k + 1 => by
  have ih0 := failover_parts.mono_l k
  ·intro y0 y1 y2 y3 y4 y5 y6 y7
   unfold failover_parts.l0
   repeat' first
   | (with_reducible exact ih0 _ _ _ _ _ _ _ _)
   | (with_reducible exact failover_part.mono _ _ _ _ _ _ _ _)
   | (with_reducible exact LeO.refl _)
   | (with_reducible exact LeO.none _)
   | (with_reducible refine LeO.ite ?_ ?_)
   | (with_reducible refine LeO.bind ?_ (fun _ => ?_))
theorem failover_parts.mono : ∀ a0 a1 a2 a3 a4 a5 a6 a7 a8 a9 a10 a11 a12 k,LeO (failover_parts.f k a0 a1 a2 a3 a4 a5 a6 a7 a8 a9 a10 a11 a12) (failover_parts.f (k + 1) a0 a1 a2 a3 a4 a5 a6 a7 a8 a9 a10 a11 a12) := by
 intro a0 a1 a2 a3 a4 a5 a6 a7 a8 a9 a10 a11 a12 k
 have ih0 := failover_parts.mono_l k
 unfold failover_parts.f
 repeat' first
   | (with_reducible exact ih0 _ _ _ _ _ _ _ _)
   | (with_reducible exact failover_part.mono _ _ _ _ _ _ _ _)
   | (with_reducible exact LeO.refl _)
   | (with_reducible exact LeO.none _)
   | (with_reducible refine LeO.ite ?_ ?_)
   | (with_reducible refine LeO.bind ?_ (fun _ => ?_))
def slices_Clone_40.f (l0 : List (S57)) : Option (List (S57)) := if l0.length * 24 ≤ 140737488355328 then some l0 else none
def slices_Index.l0 : Nat → List Int → Int → Int → Int → Option (Int)
 | 0,_,_,_,_ => none
 | k + 1,x0,x1,x7,x8 => if x8 < x7 then (if 0 ≤ x8 then (if x8 < (x0.length : Int) then (if x1 = (rd x0 x8) then (some x8) else (slices_Index.l0 k x0 x1 x7 (wrap64 (x8 + 1)))) else (none)) else (none)) else (some (-1))
def slices_Index.f (k : Nat) (l0 : List Int) (a1 : Int) : Option (Int) := slices_Index.l0 k l0 a1 (l0.length : Int) 0
theorem slices_Index.mono_l : ∀ k,(∀ y0 y1 y2 y3,LeO (slices_Index.l0 k y0 y1 y2 y3) (slices_Index.l0 (k + 1) y0 y1 y2 y3))
 | 0 => fun _ _ _ _ r h => by simp [slices_Index.l0] at h
 | k + 1 => by
  have ih0 := slices_Index.mono_l k
  ·intro y0 y1 y2 y3
   unfold slices_Index.l0
   repeat' first
   | (with_reducible exact ih0 _ _ _ _)
   | (with_reducible exact LeO.refl _)
   | (with_reducible exact LeO.none _)
   | (with_reducible refine LeO.ite ?_ ?_)
   | (with_reducible refine LeO.bind ?_ (fun _ => ?_))
theorem slices_Index.mono : ∀ a0 a1 k,LeO (slices_Index.f k a0 a1) (slices_Index.f (k + 1) a0 a1) := by
 intro a0 a1 k
 have ih0 := slices_Index.mono_l k
 unfold slices_Index.f
 repeat' first
   | (with_reducible exact ih0 _ _ _ _)
   | (with_reducible exact LeO.refl _)
   | (with_reducible exact LeO.none _)
   | (with_reducible refine LeO.ite ?_ ?_)
   | (with_reducible refine LeO.bind ?_ (fun _ => ?_))
def slices_Contains.f (k : Nat) (l0 : List Int) (a1 : Int) : Option (Bool) := (slices_Index.f k l0 a1).bind fun t149 => (some (decide (t149 ≥ 0)))
theorem slices_Contains.mono : ∀ a0 a1 k,LeO (slices_Contains.f k a0 a1) (slices_Contains.f (k + 1) a0 a1) := by
 intro a0 a1 k
 unfold slices_Contains.f
 repeat' first
   | (with_reducible exact slices_Index.mono _ _ _)
   | (with_reducible exact LeO.refl _)
   | (with_reducible exact LeO.none _)
   | (with_reducible refine LeO.ite ?_ ?_)
   | (with_reducible refine LeO.bind ?_ (fun _ => ?_))
def failover_state.j0 : Nat → Bool → Bool → Int → Int → Int → Option (Int)
 | 0,_,_,_,_,_ => none
 | k + 1,x10,x151000,x151001,x151002,x151003 => if x10 = true then (some 0) else (some x151001)
def failover_state.f (k : Nat) (a0_0 : Bool) (a0_1 : Int) (a0_2 : Int) (a0_3 : Int) : Option (Int) := if a0_1 < 0 then (failover_state.j0 k true a0_0 a0_1 a0_2 a0_3) else (failover_state.j0 k (decide (a0_1 > 4)) a0_0 a0_1 a0_2 a0_3)
theorem failover_state.mono_l : ∀ k,(∀ y0 y1 y2 y3 y4,LeO (failover_state.j0 k y0 y1 y2 y3 y4) (failover_state.j0 (k + 1) y0 y1 y2 y3 y4))
 | 0 => fun _ _ _ _ _ r h => by simp [failover_state.j0] at h
 | k + 1 => by
  have ih0 := failover_state.mono_l k
  ·intro y0 y1 y2 y3 y4
   unfold failover_state.j0
   repeat' first
   | (with_reducible exact ih0 _ _ _ _ _)
   | (with_reducible exact LeO.refl _)
   | (with_reducible exact LeO.none _)
   | (with_reducible refine LeO.ite ?_ ?_)
   | (with_reducible refine LeO.bind ?_ (fun _ => ?_))
theorem failover_state.mono : ∀ a0 a1 a2 a3 k,LeO (failover_state.f k a0 a1 a2 a3) (failover_state.f (k + 1) a0 a1 a2 a3) := by
 intro a0 a1 a2 a3 k
 have ih0 := failover_state.mono_l k
 unfold failover_state.f
 repeat' first
   | (with_reducible exact ih0 _ _ _ _ _)
   | (with_reducible exact LeO.refl _)
   | (with_reducible exact LeO.none _)
   | (with_reducible refine LeO.ite ?_ ?_)
   | (with_reducible refine LeO.bind ?_ (fun _ => ?_))
def failover_is.f (k : Nat) (a0_0 : Bool) (a0_1 : Int) (a0_2 : Int) (a0_3 : Int) (l1 : List Int) : Option (Bool) := (failover_state.f k a0_0 a0_1 a0_2 a0_3).bind fun t152 => ((slices_Contains.f k l1 t152).bind fun t153 => (some t153))
theorem failover_is.mono : ∀ a0 a1 a2 a3 a4 k,LeO (failover_is.f k a0 a1 a2 a3 a4) (failover_is.f (k + 1) a0 a1 a2 a3 a4) := by
 intro a0 a1 a2 a3 a4 k
 unfold failover_is.f
 repeat' first
   | (with_reducible exact failover_state.mono _ _ _ _ _)
   | (with_reducible exact slices_Contains.mono _ _ _)
   | (with_reducible exact LeO.refl _)
   | (with_reducible exact LeO.none _)
   | (with_reducible refine LeO.ite ?_ ?_)
   | (with_reducible refine LeO.bind ?_ (fun _ => ?_))
def slices_Clone_42.f (l0 : List (S64)) : Option (List (S64)) := if l0.length * 48 ≤ 140737488355328 then some l0 else none
def slices_Clone_43.f (l0 : List (S55)) : Option (List (S55)) := if l0.length * 56 ≤ 140737488355328 then some l0 else none
mutual
def failover_Share.j1 : Nat → Bool → Int → Int → Int → ByteArray → List (S64) → List (S55) → List (S57) → Int → Option (Bool × Int × Int × Int × ByteArray × (List (S64)) × (List (S55)) × (List (S57)) × Int)
 | 0,_,_,_,_,_,_,_,_,_ => none
 | k + 1,x156000,x156001,x156002,x156003,x156004,x156005,x156006,x156007,x156008 => (slices_Clone_43.f x156006).bind fun t174 => (some (x156000,x156001,x156002,x156003,x156004,x156005,t174,x156007,x156008))
def failover_Share.j0 : Nat → Bool → Bool → Int → Int → Int → Bool → Int → Int → Int → ByteArray → List (S64) → List (S55) → List (S57) → Int → Option (Bool × Int × Int × Int × ByteArray × (List (S64)) × (List (S55)) × (List (S57)) × Int)
 | 0,_,_,_,_,_,_,_,_,_,_,_,_,_,_ => none
 | k + 1,x22,x155000,x155001,x155002,x155003,x156000,x156001,x156002,x156003,x156004,x156005,x156006,x156007,x156008 => if x22 = true then ((slices_Clone_42.f x156005).bind fun t168 => (failover_Share.j1 k x156000 x156001 x156002 x156003 x156004 t168 x156006 x156007 x156008)) else ((failover_parts.f k x155000 x155001 x155002 x155003 x156000 x156001 x156002 x156003 x156004 x156005 x156006 x156007 x156008).bind fun t171 => (failover_Share.j1 k x156000 x156001 x156002 x156003 x156004 t171 x156006 x156007 x156008))
end
def failover_Share.f (k : Nat) (a0_0 : Bool) (a0_1 : Int) (a0_2 : Int) (a0_3 : Int) (a1_0 : Bool) (a1_1 : Int) (a1_2 : Int) (a1_3 : Int) (a1_4 : ByteArray) (l1_5 : List (S64)) (l1_6 : List (S55)) (l1_7 : List (S57)) (a1_8 : Int) (a2 : Int) : Option (Bool × Int × Int × Int × ByteArray × (List (S64)) × (List (S55)) × (List (S57)) × Int) := (slices_Clone_40.f l1_7).bind fun t157 => ((failover_is.f k a0_0 a0_1 a0_2 a0_3 (([0,4] : List Int))).bind fun t163 => (if t163 = true then (some (a1_0,a1_1,a1_2,a1_3,a1_4,([] : List (S64)),([] : List (S55)),t157,a1_8)) else ((failover_is.f k a0_0 a0_1 a0_2 a0_3 (([3] : List Int))).bind fun t167 => (if t167 = true then (failover_Share.j0 k (decide (a2 ≥ a0_2)) a0_0 a0_1 a0_2 a0_3 a1_0 a1_1 a1_2 a1_3 a1_4 l1_5 l1_6 t157 a1_8) else (failover_Share.j0 k false a0_0 a0_1 a0_2 a0_3 a1_0 a1_1 a1_2 a1_3 a1_4 l1_5 l1_6 t157 a1_8)))))
theorem failover_Share.mono_l : ∀ k,(∀ y0 y1 y2 y3 y4 y5 y6 y7 y8,LeO (failover_Share.j1 k y0 y1 y2 y3 y4 y5 y6 y7 y8) (failover_Share.j1 (k + 1) y0 y1 y2 y3 y4 y5 y6 y7 y8)) ∧ (∀ y0 y1 y2 y3 y4 y5 y6 y7 y8 y9 y10 y11 y12 y13,LeO (failover_Share.j0 k y0 y1 y2 y3 y4 y5 y6 y7 y8 y9 y10 y11 y12 y13) (failover_Share.j0 (k + 1) y0 y1 y2 y3 y4 y5 y6 y7 y8 y9 y10 y11 y12 y13))
 | 0 => ⟨fun _ _ _ _ _ _ _ _ _ r h => by simp [failover_Share.j1] at h,fun _ _ _ _ _ _ _ _ _ _ _ _ _ _ r h => by simp [failover_Share.j0] at h⟩
 | k + 1 => by
  obtain ⟨ih0,ih1⟩ := failover_Share.mono_l k
  refine ⟨?_,?_⟩
  ·intro y0 y1 y2 y3 y4 y5 y6 y7 y8
   unfold failover_Share.j1
   repeat' first
   | (with_reducible exact ih0 _ _ _ _ _ _ _ _ _)
   | (with_reducible exact ih1 _ _ _ _ _ _ _ _ _ _ _ _ _ _)
   | (with_reducible exact failover_is.mono _ _ _ _ _ _)
   | (with_reducible exact failover_parts.mono _ _ _ _ _ _ _ _ _ _ _ _ _ _)
   | (with_reducible exact LeO.refl _)
   | (with_reducible exact LeO.none _)
   | (with_reducible refine LeO.ite ?_ ?_)
   | (with_reducible refine LeO.bind ?_ (fun _ => ?_))
  ·intro y0 y1 y2 y3 y4 y5 y6 y7 y8 y9 y10 y11 y12 y13
   unfold failover_Share.j0
   repeat' first
   | (with_reducible exact ih0 _ _ _ _ _ _ _ _ _)
   | (with_reducible exact ih1 _ _ _ _ _ _ _ _ _ _ _ _ _ _)
   | (with_reducible exact failover_is.mono _ _ _ _ _ _)
   | (with_reducible exact failover_parts.mono _ _ _ _ _ _ _ _ _ _ _ _ _ _)
   | (with_reducible exact LeO.refl _)
   | (with_reducible exact LeO.none _)
   | (with_reducible refine LeO.ite ?_ ?_)
   | (with_reducible refine LeO.bind ?_ (fun _ => ?_))
theorem failover_Share.mono : ∀ a0 a1 a2 a3 a4 a5 a6 a7 a8 a9 a10 a11 a12 a13 k,LeO (failover_Share.f k a0 a1 a2 a3 a4 a5 a6 a7 a8 a9 a10 a11 a12 a13) (failover_Share.f (k + 1) a0 a1 a2 a3 a4 a5 a6 a7 a8 a9 a10 a11 a12 a13) := by
 intro a0 a1 a2 a3 a4 a5 a6 a7 a8 a9 a10 a11 a12 a13 k
 obtain ⟨ih0,ih1⟩ := failover_Share.mono_l k
 unfold failover_Share.f
 repeat' first
   | (with_reducible exact ih0 _ _ _ _ _ _ _ _ _)
   | (with_reducible exact ih1 _ _ _ _ _ _ _ _ _ _ _ _ _ _)
   | (with_reducible exact failover_is.mono _ _ _ _ _ _)
   | (with_reducible exact failover_parts.mono _ _ _ _ _ _ _ _ _ _ _ _ _ _)
   | (with_reducible exact LeO.refl _)
   | (with_reducible exact LeO.none _)
   | (with_reducible refine LeO.ite ?_ ?_)
   | (with_reducible refine LeO.bind ?_ (fun _ => ?_))
def pool_At.l0 : Nat → List (S55) → Int → Int → Bool → Int → Int → Option (ByteArray × Bool × Int × Int × ByteArray × Bool)
 | 0,_,_,_,_,_,_ => none
 | k + 1,x9,x10,x11,x179000,x179001,x179002 => if x11 < x10 then (if 0 ≤ x11 then (if x11 < (x9.length : Int) then (if (((rd_T55 x9 x11).f1.f0) == x179000 && (((rd_T55 x9 x11).f1.f1) == x179001 && (((rd_T55 x9 x11).f1.f2) == x179002))) = true then (some ((rd_T55 x9 x11).f0,(rd_T55 x9 x11).f1.f0,(rd_T55 x9 x11).f1.f1,(rd_T55 x9 x11).f1.f2,(rd_T55 x9 x11).f2,true)) else (pool_At.l0 k x9 x10 (wrap64 (x11 + 1)) x179000 x179001 x179002)) else (none)) else (none)) else (some ((⟨#[]⟩ : ByteArray),false,0,0,(⟨#[]⟩ : ByteArray),false))
def pool_At.f (k : Nat) (a0_0 : Bool) (a0_1 : Int) (a0_2 : Int) (a0_3 : Int) (a0_4 : ByteArray) (l0_5 : List (S64)) (l0_6 : List (S55)) (l0_7 : List (S57)) (a0_8 : Int) (a1_0 : Bool) (a1_1 : Int) (a1_2 : Int) : Option (ByteArray × Bool × Int × Int × ByteArray × Bool) := pool_At.l0 k l0_6 (l0_6.length : Int) 0 a1_0 a1_1 a1_2
theorem pool_At.mono_l : ∀ k,(∀ y0 y1 y2 y3 y4 y5,LeO (pool_At.l0 k y0 y1 y2 y3 y4 y5) (pool_At.l0 (k + 1) y0 y1 y2 y3 y4 y5))
 | 0 => fun _ _ _ _ _ _ r h => by simp [pool_At.l0] at h
 | k + 1 => by
  have ih0 := pool_At.mono_l k
  ·intro y0 y1 y2 y3 y4 y5
   unfold pool_At.l0
   repeat' first
   | (with_reducible exact ih0 _ _ _ _ _ _)
   | (with_reducible exact LeO.refl _)
   | (with_reducible exact LeO.none _)
   | (with_reducible refine LeO.ite ?_ ?_)
   | (with_reducible refine LeO.bind ?_ (fun _ => ?_))
theorem pool_At.mono : ∀ a0 a1 a2 a3 a4 a5 a6 a7 a8 a9 a10 a11 k,LeO (pool_At.f k a0 a1 a2 a3 a4 a5 a6 a7 a8 a9 a10 a11) (pool_At.f (k + 1) a0 a1 a2 a3 a4 a5 a6 a7 a8 a9 a10 a11) := by
 intro a0 a1 a2 a3 a4 a5 a6 a7 a8 a9 a10 a11 k
 have ih0 := pool_At.mono_l k
 unfold pool_At.f
 repeat' first
   | (with_reducible exact ih0 _ _ _ _ _ _)
   | (with_reducible exact LeO.refl _)
   | (with_reducible exact LeO.none _)
   | (with_reducible refine LeO.ite ?_ ?_)
   | (with_reducible refine LeO.bind ?_ (fun _ => ?_))
def addr_number.f (a0 : Int) (a1 : Int) : Option (Int) := if a0 < a1 then (some (-1)) else (if a0 > a1 then (some 1) else (some 0))
def addr_Compare.j0 : Nat → Bool → Bool → Int → Int → Bool → Int → Int → Option (Int)
 | 0,_,_,_,_,_,_,_ => none
 | k + 1,x5,x183000,x183001,x183002,x184000,x184001,x184002 => if x5 = true then (some (-1)) else (if (x183000 != x184000) = true then (some 1) else (if x183001 = x184001 then ((addr_number.f x183002 x184002).bind fun t185 => (some t185)) else ((addr_number.f x183001 x184001).bind fun t184 => (some t184))))
def addr_Compare.f (k : Nat) (a0_0 : Bool) (a0_1 : Int) (a0_2 : Int) (a1_0 : Bool) (a1_1 : Int) (a1_2 : Int) : Option (Int) := if (a0_0 != a1_0) = true then (addr_Compare.j0 k a1_0 a0_0 a0_1 a0_2 a1_0 a1_1 a1_2) else (addr_Compare.j0 k false a0_0 a0_1 a0_2 a1_0 a1_1 a1_2)
theorem addr_Compare.mono_l : ∀ k,(∀ y0 y1 y2 y3 y4 y5 y6,LeO (addr_Compare.j0 k y0 y1 y2 y3 y4 y5 y6) (addr_Compare.j0 (k + 1) y0 y1 y2 y3 y4 y5 y6))
 | 0 => fun _ _ _ _ _ _ _ r h => by simp [addr_Compare.j0] at h
 | k + 1 => by
  have ih0 := addr_Compare.mono_l k
  ·intro y0 y1 y2 y3 y4 y5 y6
   unfold addr_Compare.j0
   repeat' first
   | (with_reducible exact ih0 _ _ _ _ _ _ _)
   | (with_reducible exact LeO.refl _)
   | (with_reducible exact LeO.none _)
   | (with_reducible refine LeO.ite ?_ ?_)
   | (with_reducible refine LeO.bind ?_ (fun _ => ?_))
theorem addr_Compare.mono : ∀ a0 a1 a2 a3 a4 a5 k,LeO (addr_Compare.f k a0 a1 a2 a3 a4 a5) (addr_Compare.f (k + 1) a0 a1 a2 a3 a4 a5) := by
 intro a0 a1 a2 a3 a4 a5 k
 have ih0 := addr_Compare.mono_l k
 unfold addr_Compare.f
 repeat' first
   | (with_reducible exact ih0 _ _ _ _ _ _ _)
   | (with_reducible exact LeO.refl _)
   | (with_reducible exact LeO.none _)
   | (with_reducible refine LeO.ite ?_ ?_)
   | (with_reducible refine LeO.bind ?_ (fun _ => ?_))
def pool_in.f (k : Nat) (a0_0 : Bool) (a0_1 : Int) (a0_2 : Int) (a0_3 : Bool) (a0_4 : Int) (a0_5 : Int) (a1_0 : Bool) (a1_1 : Int) (a1_2 : Int) : Option (Bool) := (addr_Compare.f k a0_0 a0_1 a0_2 a1_0 a1_1 a1_2).bind fun t188 => (if t188 ≤ 0 then ((addr_Compare.f k a1_0 a1_1 a1_2 a0_3 a0_4 a0_5).bind fun t189 => (some (decide (t189 ≤ 0)))) else (some false))
theorem pool_in.mono : ∀ a0 a1 a2 a3 a4 a5 a6 a7 a8 k,LeO (pool_in.f k a0 a1 a2 a3 a4 a5 a6 a7 a8) (pool_in.f (k + 1) a0 a1 a2 a3 a4 a5 a6 a7 a8) := by
 intro a0 a1 a2 a3 a4 a5 a6 a7 a8 k
 unfold pool_in.f
 repeat' first
   | (with_reducible exact addr_Compare.mono _ _ _ _ _ _ _)
   | (with_reducible exact LeO.refl _)
   | (with_reducible exact LeO.none _)
   | (with_reducible refine LeO.ite ?_ ?_)
   | (with_reducible refine LeO.bind ?_ (fun _ => ?_))
def pool_Has_1.f (k : Nat) (a0_0 : Bool) (a0_1 : Int) (a0_2 : Int) (a0_3 : Bool) (a0_4 : Int) (a0_5 : Int) (a1_0 : Bool) (a1_1 : Int) (a1_2 : Int) : Option (Bool) := (pool_in.f k a0_0 a0_1 a0_2 a0_3 a0_4 a0_5 a1_0 a1_1 a1_2).bind fun t191 => (some t191)
theorem pool_Has_1.mono : ∀ a0 a1 a2 a3 a4 a5 a6 a7 a8 k,LeO (pool_Has_1.f k a0 a1 a2 a3 a4 a5 a6 a7 a8) (pool_Has_1.f (k + 1) a0 a1 a2 a3 a4 a5 a6 a7 a8) := by
 intro a0 a1 a2 a3 a4 a5 a6 a7 a8 k
 unfold pool_Has_1.f
 repeat' first
   | (with_reducible exact pool_in.mono _ _ _ _ _ _ _ _ _ _)
   | (with_reducible exact LeO.refl _)
   | (with_reducible exact LeO.none _)
   | (with_reducible refine LeO.ite ?_ ?_)
   | (with_reducible refine LeO.bind ?_ (fun _ => ?_))
def slices_IndexFunc_67.l0 : Nat → List (S64) → Int → Int → Bool → Int → Int → Option (Int)
 | 0,_,_,_,_,_,_ => none
 | k + 1,x0,x7,x8,x700101000,x700101001,x700101002 => if x8 < x7 then (if 0 ≤ x8 then (if x8 < (x0.length : Int) then ((pool_Has_1.f k ((rd_T64 x0 x8).f0.f0) ((rd_T64 x0 x8).f0.f1) ((rd_T64 x0 x8).f0.f2) ((rd_T64 x0 x8).f1.f0) ((rd_T64 x0 x8).f1.f1) ((rd_T64 x0 x8).f1.f2) x700101000 x700101001 x700101002).bind fun t193 => (if t193 = true then (some x8) else (slices_IndexFunc_67.l0 k x0 x7 (wrap64 (x8 + 1)) x700101000 x700101001 x700101002))) else (none)) else (none)) else (some (-1))
def slices_IndexFunc_67.f (k : Nat) (l0 : List (S64)) (a1_0 : Bool) (a1_1 : Int) (a1_2 : Int) : Option (Int) := slices_IndexFunc_67.l0 k l0 (l0.length : Int) 0 a1_0 a1_1 a1_2
theorem slices_IndexFunc_67.mono_l : ∀ k,(∀ y0 y1 y2 y3 y4 y5,LeO (slices_IndexFunc_67.l0 k y0 y1 y2 y3 y4 y5) (slices_IndexFunc_67.l0 (k + 1) y0 y1 y2 y3 y4 y5))
 | 0 => fun _ _ _ _ _ _ r h => by simp [slices_IndexFunc_67.l0] at h
 | k + 1 => by
  have ih0 := slices_IndexFunc_67.mono_l k
  ·intro y0 y1 y2 y3 y4 y5
   unfold slices_IndexFunc_67.l0
   repeat' first
   | (with_reducible exact ih0 _ _ _ _ _ _)
   | (with_reducible exact pool_Has_1.mono _ _ _ _ _ _ _ _ _ _)
   | (with_reducible exact LeO.refl _)
   | (with_reducible exact LeO.none _)
   | (with_reducible refine LeO.ite ?_ ?_)
   | (with_reducible refine LeO.bind ?_ (fun _ => ?_))
theorem slices_IndexFunc_67.mono : ∀ a0 a1 a2 a3 k,LeO (slices_IndexFunc_67.f k a0 a1 a2 a3) (slices_IndexFunc_67.f (k + 1) a0 a1 a2 a3) := by
 intro a0 a1 a2 a3 k
 have ih0 := slices_IndexFunc_67.mono_l k
 unfold slices_IndexFunc_67.f
 repeat' first
   | (with_reducible exact ih0 _ _ _ _ _ _)
   | (with_reducible exact pool_Has_1.mono _ _ _ _ _ _ _ _ _ _)
   | (with_reducible exact LeO.refl _)
   | (with_reducible exact LeO.none _)
   | (with_reducible refine LeO.ite ?_ ?_)
   | (with_reducible refine LeO.bind ?_ (fun _ => ?_))
def slices_ContainsFunc_67.f (k : Nat) (l0 : List (S64)) (a1_0 : Bool) (a1_1 : Int) (a1_2 : Int) : Option (Bool) := (slices_IndexFunc_67.f k l0 a1_0 a1_1 a1_2).bind fun t194 => (some (decide (t194 ≥ 0)))
theorem slices_ContainsFunc_67.mono : ∀ a0 a1 a2 a3 k,LeO (slices_ContainsFunc_67.f k a0 a1 a2 a3) (slices_ContainsFunc_67.f (k + 1) a0 a1 a2 a3) := by
 intro a0 a1 a2 a3 k
 unfold slices_ContainsFunc_67.f
 repeat' first
   | (with_reducible exact slices_IndexFunc_67.mono _ _ _ _ _)
   | (with_reducible exact LeO.refl _)
   | (with_reducible exact LeO.none _)
   | (with_reducible refine LeO.ite ?_ ?_)
   | (with_reducible refine LeO.bind ?_ (fun _ => ?_))
def pool_Has.f (k : Nat) (a0_0 : Bool) (a0_1 : Int) (a0_2 : Int) (a0_3 : Int) (a0_4 : ByteArray) (l0_5 : List (S64)) (l0_6 : List (S55)) (l0_7 : List (S57)) (a0_8 : Int) (a1_0 : Bool) (a1_1 : Int) (a1_2 : Int) : Option (Bool) := (pool_At.f k a0_0 a0_1 a0_2 a0_3 a0_4 l0_5 l0_6 l0_7 a0_8 a1_0 a1_1 a1_2).bind fun bt197 => (if bt197.2.2.2.2.2 = true then (some false) else ((slices_ContainsFunc_67.f k l0_5 a1_0 a1_1 a1_2).bind fun t204 => (some t204)))
theorem pool_Has.mono : ∀ a0 a1 a2 a3 a4 a5 a6 a7 a8 a9 a10 a11 k,LeO (pool_Has.f k a0 a1 a2 a3 a4 a5 a6 a7 a8 a9 a10 a11) (pool_Has.f (k + 1) a0 a1 a2 a3 a4 a5 a6 a7 a8 a9 a10 a11) := by
 intro a0 a1 a2 a3 a4 a5 a6 a7 a8 a9 a10 a11 k
 unfold pool_Has.f
 repeat' first
   | (with_reducible exact pool_At.mono _ _ _ _ _ _ _ _ _ _ _ _ _)
   | (with_reducible exact slices_ContainsFunc_67.mono _ _ _ _ _)
   | (with_reducible exact LeO.refl _)
   | (with_reducible exact LeO.none _)
   | (with_reducible refine LeO.ite ?_ ?_)
   | (with_reducible refine LeO.bind ?_ (fun _ => ?_))
def failover_Leases.f (k : Nat) (a0_0 : Bool) (a0_1 : Int) (a0_2 : Int) (a0_3 : Int) (a1_0 : Bool) (a1_1 : Int) (a1_2 : Int) (a1_3 : Int) (a1_4 : ByteArray) (l1_5 : List (S64)) (l1_6 : List (S55)) (l1_7 : List (S57)) (a1_8 : Int) (a2_0 : Bool) (a2_1 : Int) (a2_2 : Int) (a3 : Int) : Option (Bool) := (failover_Share.f k a0_0 a0_1 a0_2 a0_3 a1_0 a1_1 a1_2 a1_3 a1_4 l1_5 l1_6 l1_7 a1_8 a3).bind fun bt208 => ((pool_At.f k bt208.1 bt208.2.1 bt208.2.2.1 bt208.2.2.2.1 bt208.2.2.2.2.1 bt208.2.2.2.2.2.1 bt208.2.2.2.2.2.2.1 bt208.2.2.2.2.2.2.2.1 bt208.2.2.2.2.2.2.2.2 a2_0 a2_1 a2_2).bind fun bt224 => (if bt224.2.2.2.2.2 = true then (some true) else ((pool_Has.f k bt208.1 bt208.2.1 bt208.2.2.1 bt208.2.2.2.1 bt208.2.2.2.2.1 bt208.2.2.2.2.2.1 bt208.2.2.2.2.2.2.1 bt208.2.2.2.2.2.2.2.1 bt208.2.2.2.2.2.2.2.2 a2_0 a2_1 a2_2).bind fun t231 => (some t231))))
theorem failover_Leases.mono : ∀ a0 a1 a2 a3 a4 a5 a6 a7 a8 a9 a10 a11 a12 a13 a14 a15 a16 k,LeO (failover_Leases.f k a0 a1 a2 a3 a4 a5 a6 a7 a8 a9 a10 a11 a12 a13 a14 a15 a16) (failover_Leases.f (k + 1) a0 a1 a2 a3 a4 a5 a6 a7 a8 a9 a10 a11 a12 a13 a14 a15 a16) := by
 intro a0 a1 a2 a3 a4 a5 a6 a7 a8 a9 a10 a11 a12 a13 a14 a15 a16 k
 unfold failover_Leases.f
 repeat' first
   | (with_reducible exact failover_Share.mono _ _ _ _ _ _ _ _ _ _ _ _ _ _ _)
   | (with_reducible exact pool_At.mono _ _ _ _ _ _ _ _ _ _ _ _ _)
   | (with_reducible exact pool_Has.mono _ _ _ _ _ _ _ _ _ _ _ _ _)
   | (with_reducible exact LeO.refl _)
   | (with_reducible exact LeO.none _)
   | (with_reducible refine LeO.ite ?_ ?_)
   | (with_reducible refine LeO.bind ?_ (fun _ => ?_))
def failover_New.j0 : Nat → Bool → Int → Bool → Option (Bool × Int × Int × Int × Int)
 | 0,_,_,_ => none
 | k + 1,x0,x1,x11 => if x11 = true then (some (false,0,0,0,1)) else (some (x0,0,0,x1,0))
def failover_New.f (k : Nat) (a0 : Bool) (a1 : Int) : Option (Bool × Int × Int × Int × Int) := if a1 < 1 then (failover_New.j0 k a0 a1 true) else (failover_New.j0 k a0 a1 (decide (a1 > 1073741824)))
theorem failover_New.mono_l : ∀ k,(∀ y0 y1 y2,LeO (failover_New.j0 k y0 y1 y2) (failover_New.j0 (k + 1) y0 y1 y2))
 | 0 => fun _ _ _ r h => by simp [failover_New.j0] at h
 | k + 1 => by
  have ih0 := failover_New.mono_l k
  ·intro y0 y1 y2
   unfold failover_New.j0
   repeat' first
   | (with_reducible exact ih0 _ _ _)
   | (with_reducible exact LeO.refl _)
   | (with_reducible exact LeO.none _)
   | (with_reducible refine LeO.ite ?_ ?_)
   | (with_reducible refine LeO.bind ?_ (fun _ => ?_))
theorem failover_New.mono : ∀ a0 a1 k,LeO (failover_New.f k a0 a1) (failover_New.f (k + 1) a0 a1) := by
 intro a0 a1 k
 have ih0 := failover_New.mono_l k
 unfold failover_New.f
 repeat' first
   | (with_reducible exact ih0 _ _ _)
   | (with_reducible exact LeO.refl _)
   | (with_reducible exact LeO.none _)
   | (with_reducible refine LeO.ite ?_ ?_)
   | (with_reducible refine LeO.bind ?_ (fun _ => ?_))
def failover_time.f (a0 : Int) : Option (Bool) := if a0 ≥ 0 then (some (decide (a0 ≤ 4294967295))) else (some false)
def failover_later.f (a0 : Int) (a1 : Int) : Option (Int) := if a1 > (wrap64 (4294967295 - a0)) then (some 4294967295) else (some (wrap64 (a0 + a1)))
def failover_normal.f (a0_0 : Bool) (a0_1 : Int) (a0_2 : Int) (a0_3 : Int) (a1 : Int) (a2 : Int) : Option (Bool × Int × Int × Int) := (failover_later.f a1 a2).bind fun t235 => (some (a0_0,1,t235,a0_3))
def failover_Exchanged.j0 : Nat → Int → Int → Bool → Bool → Int → Int → Int → Option (Bool × Int × Int × Int)
 | 0,_,_,_,_,_,_,_ => none
 | k + 1,x1,x2,x13,x237000,x237001,x237002,x237003 => if x13 = true then (some (x237000,x237001,x237002,x237003)) else ((failover_normal.f x237000 x237001 x237002 x237003 x1 x2).bind fun bt239 => (some (bt239.1,bt239.2.1,bt239.2.2.1,bt239.2.2.2)))
def failover_Exchanged.f (k : Nat) (a0_0 : Bool) (a0_1 : Int) (a0_2 : Int) (a0_3 : Int) (a1 : Int) (a2 : Int) : Option (Bool × Int × Int × Int) := (failover_time.f a1).bind fun t238 => (if t238 = true then (failover_Exchanged.j0 k a1 a2 (decide (a2 < 0)) a0_0 a0_1 a0_2 a0_3) else (failover_Exchanged.j0 k a1 a2 true a0_0 a0_1 a0_2 a0_3))
theorem failover_Exchanged.mono_l : ∀ k,(∀ y0 y1 y2 y3 y4 y5 y6,LeO (failover_Exchanged.j0 k y0 y1 y2 y3 y4 y5 y6) (failover_Exchanged.j0 (k + 1) y0 y1 y2 y3 y4 y5 y6))
 | 0 => fun _ _ _ _ _ _ _ r h => by simp [failover_Exchanged.j0] at h
 | k + 1 => by
  have ih0 := failover_Exchanged.mono_l k
  ·intro y0 y1 y2 y3 y4 y5 y6
   unfold failover_Exchanged.j0
   repeat' first
   | (with_reducible exact ih0 _ _ _ _ _ _ _)
   | (with_reducible exact LeO.refl _)
   | (with_reducible exact LeO.none _)
   | (with_reducible refine LeO.ite ?_ ?_)
   | (with_reducible refine LeO.bind ?_ (fun _ => ?_))
theorem failover_Exchanged.mono : ∀ a0 a1 a2 a3 a4 a5 k,LeO (failover_Exchanged.f k a0 a1 a2 a3 a4 a5) (failover_Exchanged.f (k + 1) a0 a1 a2 a3 a4 a5) := by
 intro a0 a1 a2 a3 a4 a5 k
 have ih0 := failover_Exchanged.mono_l k
 unfold failover_Exchanged.f
 repeat' first
   | (with_reducible exact ih0 _ _ _ _ _ _ _)
   | (with_reducible exact LeO.refl _)
   | (with_reducible exact LeO.none _)
   | (with_reducible refine LeO.ite ?_ ?_)
   | (with_reducible refine LeO.bind ?_ (fun _ => ?_))
def ddilaw44_sample.f  : Option (Bool × Int × Int × Int × ByteArray × (List (S64)) × (List (S55)) × (List (S57)) × Int) := some (false,0,256,24,(⟨#[]⟩ : ByteArray),(([(⟨(⟨false,0,261⟩ : S26),(⟨false,0,263⟩ : S26)⟩ : S64)] : List (S64))),([] : List (S55)),([] : List (S57)),60)
def ddilaw44_awake.f (k : Nat)  : Option (Bool) := (failover_New.f k true 60).bind fun bt247 => ((failover_Exchanged.f k bt247.1 bt247.2.1 bt247.2.2.1 bt247.2.2.2.1 3 5).bind fun bt253 => (if bt247.2.2.2.2 = 0 then (if bt253.2.1 = 1 then (if bt253.2.2.1 = 8 then (if bt253.2.2.2 = 60 then ((ddilaw44_sample.f).bind fun bt257 => ((failover_Leases.f k bt253.1 bt253.2.1 bt253.2.2.1 bt253.2.2.2 bt257.1 bt257.2.1 bt257.2.2.1 bt257.2.2.2.1 bt257.2.2.2.2.1 bt257.2.2.2.2.2.1 bt257.2.2.2.2.2.2.1 bt257.2.2.2.2.2.2.2.1 bt257.2.2.2.2.2.2.2.2 false 0 262 4).bind fun t272 => (if t272 = true then ((ddilaw44_sample.f).bind fun bt273 => ((failover_Leases.f k bt253.1 bt253.2.1 bt253.2.2.1 bt253.2.2.2 bt273.1 bt273.2.1 bt273.2.2.1 bt273.2.2.2.1 bt273.2.2.2.2.1 bt273.2.2.2.2.2.1 bt273.2.2.2.2.2.2.1 bt273.2.2.2.2.2.2.2.1 bt273.2.2.2.2.2.2.2.2 false 0 263 4).bind fun t288 => (some (!t288)))) else (some false)))) else (some false)) else (some false)) else (some false)) else (some false)))
theorem ddilaw44_awake.mono : ∀ k,LeO (ddilaw44_awake.f k ) (ddilaw44_awake.f (k + 1) ) := by
 intro  k
 unfold ddilaw44_awake.f
 repeat' first
   | (with_reducible exact failover_Exchanged.mono _ _ _ _ _ _ _)
   | (with_reducible exact failover_Leases.mono _ _ _ _ _ _ _ _ _ _ _ _ _ _ _ _ _ _)
   | (with_reducible exact failover_New.mono _ _ _)
   | (with_reducible exact LeO.refl _)
   | (with_reducible exact LeO.none _)
   | (with_reducible refine LeO.ite ?_ ?_)
   | (with_reducible refine LeO.bind ?_ (fun _ => ?_))
mutual
def ddilaw44_small.j0 : Nat → Bool → Bool → Int → Int → Int → ByteArray → List (S64) → List (S55) → List (S57) → Int → Option (Bool)
 | 0,_,_,_,_,_,_,_,_,_,_ => none
 | k + 1,x26,x290000,x290001,x290002,x290003,x290004,x290005,x290006,x290007,x290008 => if x26 = true then (some false) else (ddilaw44_small.l0 k 0 x290000 x290001 x290002 x290003 x290004 x290005 x290006 x290007 x290008)
def ddilaw44_small.l0 : Nat → Int → Bool → Int → Int → Int → ByteArray → List (S64) → List (S55) → List (S57) → Int → Option (Bool)
 | 0,_,_,_,_,_,_,_,_,_,_ => none
 | k + 1,x3,x290000,x290001,x290002,x290003,x290004,x290005,x290006,x290007,x290008 => if x3 < (x290006.length : Int) then (if 0 ≤ x3 then (if (((rd_T55 x290006 x3).f0).size : Int) > 300 then (ddilaw44_small.j2 k x3 true x290000 x290001 x290002 x290003 x290004 x290005 x290006 x290007 x290008) else (ddilaw44_small.j2 k x3 (decide ((((rd_T55 x290006 x3).f2).size : Int) > 300)) x290000 x290001 x290002 x290003 x290004 x290005 x290006 x290007 x290008)) else (none)) else (ddilaw44_small.l1 k 0 x290000 x290001 x290002 x290003 x290004 x290005 x290006 x290007 x290008)
def ddilaw44_small.j2 : Nat → Int → Bool → Bool → Int → Int → Int → ByteArray → List (S64) → List (S55) → List (S57) → Int → Option (Bool)
 | 0,_,_,_,_,_,_,_,_,_,_,_ => none
 | k + 1,x3,x51,x290000,x290001,x290002,x290003,x290004,x290005,x290006,x290007,x290008 => if x51 = true then (some false) else (ddilaw44_small.l0 k (wrap64 (x3 + 1)) x290000 x290001 x290002 x290003 x290004 x290005 x290006 x290007 x290008)
def ddilaw44_small.l1 : Nat → Int → Bool → Int → Int → Int → ByteArray → List (S64) → List (S55) → List (S57) → Int → Option (Bool)
 | 0,_,_,_,_,_,_,_,_,_,_ => none
 | k + 1,x4,x290000,x290001,x290002,x290003,x290004,x290005,x290006,x290007,x290008 => if x4 < (x290007.length : Int) then (if 0 ≤ x4 then (if (((rd_T57 x290007 x4).f1).size : Int) > 1100 then (some false) else (ddilaw44_small.l1 k (wrap64 (x4 + 1)) x290000 x290001 x290002 x290003 x290004 x290005 x290006 x290007 x290008)) else (none)) else (some true)
end
def ddilaw44_small.f (k : Nat) (a0_0 : Bool) (a0_1 : Int) (a0_2 : Int) (a0_3 : Int) (a0_4 : ByteArray) (l0_5 : List (S64)) (l0_6 : List (S55)) (l0_7 : List (S57)) (a0_8 : Int) : Option (Bool) := if (l0_5.length : Int) > 20 then (ddilaw44_small.j0 k true a0_0 a0_1 a0_2 a0_3 a0_4 l0_5 l0_6 l0_7 a0_8) else (if (l0_6.length : Int) > 20 then (ddilaw44_small.j0 k true a0_0 a0_1 a0_2 a0_3 a0_4 l0_5 l0_6 l0_7 a0_8) else (if (l0_7.length : Int) > 40 then (ddilaw44_small.j0 k true a0_0 a0_1 a0_2 a0_3 a0_4 l0_5 l0_6 l0_7 a0_8) else (ddilaw44_small.j0 k (decide ((a0_4.size : Int) > 300)) a0_0 a0_1 a0_2 a0_3 a0_4 l0_5 l0_6 l0_7 a0_8)))
def ddiref02_Valid.f (a0_0 : Bool) (a0_1 : Int) (a0_2 : Int) : Option (Bool) := if a0_0 = true then (some true) else (if a0_1 = 0 then (some (decide (a0_2 < 4294967296))) else (some false))
def ddiref03_Long.f (a0 : Bool) : Option (Int) := if a0 = true then (some 128) else (some 32)
mutual
def ddiref03_ones.l0 : Nat → Int → Int → Int → Int → Option (Int × Int)
 | 0,_,_,_,_ => none
 | k + 1,x0,x4,x5,x6 => if x6 < x0 then (ddiref03_ones.j1 k x0 x4 x5 x6 (decide (x6 < 128))) else (ddiref03_ones.j1 k x0 x4 x5 x6 false)
def ddiref03_ones.j1 : Nat → Int → Int → Int → Int → Bool → Option (Int × Int)
 | 0,_,_,_,_,_ => none
 | k + 1,x0,x4,x5,x6,x13 => if x13 = true then (ddiref03_ones.l0 k x0 (IntKind.u64.wrap ((IntKind.u64.wrap (x4 * 2)) + (IntKind.u64.wrap (Int.tdiv x5 9223372036854775808)))) (IntKind.u64.wrap ((IntKind.u64.wrap (x5 * 2)) + 1)) (wrap64 (x6 + 1))) else (some (x4,x5))
end
def ddiref03_ones.f (k : Nat) (a0 : Int) : Option (Int × Int) := ddiref03_ones.l0 k a0 0 0 0
def ddiref03_Valid.j0 : Nat → Bool → Bool → Int → Int → Int → Option (Bool)
 | 0,_,_,_,_,_ => none
 | k + 1,x22,x295000,x295001,x295002,x295003 => if x22 = true then (some false) else ((ddiref03_Long.f x295000).bind fun t297 => ((ddiref03_ones.f k (wrap64 (t297 - x295003))).bind fun bt298 => (if (Go.bits .and .u64 x295001 bt298.1) = 0 then (some ((Go.bits .and .u64 x295002 bt298.2) == 0)) else (some false))))
def ddiref03_Valid.f (k : Nat) (a0_0 : Bool) (a0_1 : Int) (a0_2 : Int) (a0_3 : Int) : Option (Bool) := (ddiref02_Valid.f a0_0 a0_1 a0_2).bind fun t295 => (if t295 = true then (if a0_3 < 0 then (ddiref03_Valid.j0 k true a0_0 a0_1 a0_2 a0_3) else ((ddiref03_Long.f a0_0).bind fun t296 => (ddiref03_Valid.j0 k (decide (a0_3 > t296)) a0_0 a0_1 a0_2 a0_3))) else (ddiref03_Valid.j0 k true a0_0 a0_1 a0_2 a0_3))
def ddiref03_Bounds.f (k : Nat) (a0_0 : Bool) (a0_1 : Int) (a0_2 : Int) (a0_3 : Int) : Option (Bool × Int × Int × Bool × Int × Int × Bool) := (ddiref03_Valid.f k a0_0 a0_1 a0_2 a0_3).bind fun t302 => (if t302 = true then ((ddiref03_Long.f a0_0).bind fun t303 => ((ddiref03_ones.f k (wrap64 (t303 - a0_3))).bind fun bt304 => (some (a0_0,a0_1,a0_2,a0_0,IntKind.u64.wrap (a0_1 + bt304.1),IntKind.u64.wrap (a0_2 + bt304.2),true)))) else (some (false,0,0,false,0,0,false)))
def ddiref03_Of.j0 : Nat → Int → Bool → Bool → Int → Int → Option (Bool × Int × Int × Int × Bool)
 | 0,_,_,_,_,_ => none
 | k + 1,x1,x22,x308000,x308001,x308002 => if x22 = true then (some (false,0,0,0,false)) else ((ddiref03_Long.f x308000).bind fun t311 => ((ddiref03_ones.f k (wrap64 (t311 - x1))).bind fun bt312 => (some (x308000,IntKind.u64.wrap (x308001 - (Go.bits .and .u64 x308001 bt312.1)),IntKind.u64.wrap (x308002 - (Go.bits .and .u64 x308002 bt312.2)),x1,true))))
def ddiref03_Of.f (k : Nat) (a0_0 : Bool) (a0_1 : Int) (a0_2 : Int) (a1 : Int) : Option (Bool × Int × Int × Int × Bool) := (ddiref02_Valid.f a0_0 a0_1 a0_2).bind fun t309 => (if t309 = true then (if a1 < 0 then (ddiref03_Of.j0 k a1 true a0_0 a0_1 a0_2) else ((ddiref03_Long.f a0_0).bind fun t310 => (ddiref03_Of.j0 k a1 (decide (a1 > t310)) a0_0 a0_1 a0_2))) else (ddiref03_Of.j0 k a1 true a0_0 a0_1 a0_2))
def ddiref03_Contains.j0 : Nat → Bool → Bool → Int → Int → Int → Bool → Int → Int → Option (Bool)
 | 0,_,_,_,_,_,_,_,_ => none
 | k + 1,x22,x316000,x316001,x316002,x316003,x317000,x317001,x317002 => if x22 = true then (some false) else ((ddiref03_Of.f k x317000 x317001 x317002 x316003).bind fun bt319 => (some ((bt319.1 == x316000 && (bt319.2.1 == x316001 && (bt319.2.2.1 == x316002))) && (bt319.2.2.2.1 == x316003))))
def ddiref03_Contains.f (k : Nat) (a0_0 : Bool) (a0_1 : Int) (a0_2 : Int) (a0_3 : Int) (a1_0 : Bool) (a1_1 : Int) (a1_2 : Int) : Option (Bool) := (ddiref03_Valid.f k a0_0 a0_1 a0_2 a0_3).bind fun t317 => (if t317 = true then ((ddiref02_Valid.f a1_0 a1_1 a1_2).bind fun t318 => (if t318 = true then (ddiref03_Contains.j0 k (a0_0 != a1_0) a0_0 a0_1 a0_2 a0_3 a1_0 a1_1 a1_2) else (ddiref03_Contains.j0 k true a0_0 a0_1 a0_2 a0_3 a1_0 a1_1 a1_2))) else (ddiref03_Contains.j0 k true a0_0 a0_1 a0_2 a0_3 a1_0 a1_1 a1_2))
def ddiref37_usable.f (k : Nat) (a0_0 : Bool) (a0_1 : Int) (a0_2 : Int) (a0_3 : Int) (a1_0 : Bool) (a1_1 : Int) (a1_2 : Int) : Option (Bool) := (ddiref03_Bounds.f k a0_0 a0_1 a0_2 a0_3).bind fun bt327 => (if bt327.2.2.2.2.2.2 = true then ((ddiref03_Contains.f k a0_0 a0_1 a0_2 a0_3 a1_0 a1_1 a1_2).bind fun t335 => (if t335 = true then (if (!(a1_0 == bt327.1) || (!(a1_1 == bt327.2.1) || (!(a1_2 == bt327.2.2.1)))) = true then (some (!(a1_0 == bt327.2.2.2.1) || (!(a1_1 == bt327.2.2.2.2.1) || (!(a1_2 == bt327.2.2.2.2.2.1))))) else (some false)) else (some false))) else (some false))
def ddiref02_Compare.f (a0_0 : Bool) (a0_1 : Int) (a0_2 : Int) (a1_0 : Bool) (a1_1 : Int) (a1_2 : Int) : Option (Int) := if (a0_0 != a1_0) = true then (if a1_0 = true then (some (-1)) else (some 1)) else (if a0_1 = a1_1 then (if a0_2 < a1_2 then (some (-1)) else (if a0_2 > a1_2 then (some 1) else (some 0))) else (if a0_1 < a1_1 then (some (-1)) else (some 1)))
def ddiref37_inside.f (a0_0 : Bool) (a0_1 : Int) (a0_2 : Int) (a0_3 : Bool) (a0_4 : Int) (a0_5 : Int) (a1_0 : Bool) (a1_1 : Int) (a1_2 : Int) : Option (Bool) := (ddiref02_Compare.f a0_0 a0_1 a0_2 a1_0 a1_1 a1_2).bind fun t340 => (if t340 ≤ 0 then ((ddiref02_Compare.f a1_0 a1_1 a1_2 a0_3 a0_4 a0_5).bind fun t341 => (some (decide (t341 ≤ 0)))) else (some false))
mutual
def ddiref37_checkPools.l0 : Nat → Int → Bool → Int → Int → Int → ByteArray → List (S64) → List (S55) → List (S57) → Int → Option (Int)
 | 0,_,_,_,_,_,_,_,_,_,_ => none
 | k + 1,x3,x343000,x343001,x343002,x343003,x343004,x343005,x343006,x343007,x343008 => if x3 < (x343005.length : Int) then (if 0 ≤ x3 then ((ddiref37_usable.f k x343000 x343001 x343002 x343003 ((rd_T64 x343005 x3).f0.f0) ((rd_T64 x343005 x3).f0.f1) ((rd_T64 x343005 x3).f0.f2)).bind fun t345 => (if t345 = true then ((ddiref37_usable.f k x343000 x343001 x343002 x343003 ((rd_T64 x343005 x3).f1.f0) ((rd_T64 x343005 x3).f1.f1) ((rd_T64 x343005 x3).f1.f2)).bind fun t346 => (if t346 = true then ((ddiref02_Compare.f ((rd_T64 x343005 x3).f1.f0) ((rd_T64 x343005 x3).f1.f1) ((rd_T64 x343005 x3).f1.f2) ((rd_T64 x343005 x3).f0.f0) ((rd_T64 x343005 x3).f0.f1) ((rd_T64 x343005 x3).f0.f2)).bind fun t347 => (ddiref37_checkPools.j1 k x3 (decide (t347 < 0)) x343000 x343001 x343002 x343003 x343004 x343005 x343006 x343007 x343008 ((rd_T64 x343005 x3).f0.f0) ((rd_T64 x343005 x3).f0.f1) ((rd_T64 x343005 x3).f0.f2) ((rd_T64 x343005 x3).f1.f0) ((rd_T64 x343005 x3).f1.f1) ((rd_T64 x343005 x3).f1.f2))) else (ddiref37_checkPools.j1 k x3 true x343000 x343001 x343002 x343003 x343004 x343005 x343006 x343007 x343008 ((rd_T64 x343005 x3).f0.f0) ((rd_T64 x343005 x3).f0.f1) ((rd_T64 x343005 x3).f0.f2) ((rd_T64 x343005 x3).f1.f0) ((rd_T64 x343005 x3).f1.f1) ((rd_T64 x343005 x3).f1.f2)))) else (ddiref37_checkPools.j1 k x3 true x343000 x343001 x343002 x343003 x343004 x343005 x343006 x343007 x343008 ((rd_T64 x343005 x3).f0.f0) ((rd_T64 x343005 x3).f0.f1) ((rd_T64 x343005 x3).f0.f2) ((rd_T64 x343005 x3).f1.f0) ((rd_T64 x343005 x3).f1.f1) ((rd_T64 x343005 x3).f1.f2)))) else (none)) else (some 0)
def ddiref37_checkPools.j1 : Nat → Int → Bool → Bool → Int → Int → Int → ByteArray → List (S64) → List (S55) → List (S57) → Int → Bool → Int → Int → Bool → Int → Int → Option (Int)
 | 0,_,_,_,_,_,_,_,_,_,_,_,_,_,_,_,_,_ => none
 | k + 1,x3,x39,x343000,x343001,x343002,x343003,x343004,x343005,x343006,x343007,x343008,x345000,x345001,x345002,x345003,x345004,x345005 => if x39 = true then (some 3) else (ddiref37_checkPools.l1 k x3 0 x343000 x343001 x343002 x343003 x343004 x343005 x343006 x343007 x343008 x345000 x345001 x345002 x345003 x345004 x345005)
def ddiref37_checkPools.l1 : Nat → Int → Int → Bool → Int → Int → Int → ByteArray → List (S64) → List (S55) → List (S57) → Int → Bool → Int → Int → Bool → Int → Int → Option (Int)
 | 0,_,_,_,_,_,_,_,_,_,_,_,_,_,_,_,_,_ => none
 | k + 1,x3,x5,x343000,x343001,x343002,x343003,x343004,x343005,x343006,x343007,x343008,x345000,x345001,x345002,x345003,x345004,x345005 => if x5 < x3 then (if 0 ≤ x5 then (if x5 < (x343005.length : Int) then ((ddiref37_inside.f x345000 x345001 x345002 x345003 x345004 x345005 ((rd_T64 x343005 x5).f0.f0) ((rd_T64 x343005 x5).f0.f1) ((rd_T64 x343005 x5).f0.f2)).bind fun t349 => (if t349 = true then (ddiref37_checkPools.j3 k x3 x5 true x343000 x343001 x343002 x343003 x343004 x343005 x343006 x343007 x343008 x345000 x345001 x345002 x345003 x345004 x345005) else ((ddiref37_inside.f ((rd_T64 x343005 x5).f0.f0) ((rd_T64 x343005 x5).f0.f1) ((rd_T64 x343005 x5).f0.f2) ((rd_T64 x343005 x5).f1.f0) ((rd_T64 x343005 x5).f1.f1) ((rd_T64 x343005 x5).f1.f2) x345000 x345001 x345002).bind fun t351 => (ddiref37_checkPools.j3 k x3 x5 t351 x343000 x343001 x343002 x343003 x343004 x343005 x343006 x343007 x343008 x345000 x345001 x345002 x345003 x345004 x345005)))) else (none)) else (none)) else (ddiref37_checkPools.l0 k (wrap64 (x3 + 1)) x343000 x343001 x343002 x343003 x343004 x343005 x343006 x343007 x343008)
def ddiref37_checkPools.j3 : Nat → Int → Int → Bool → Bool → Int → Int → Int → ByteArray → List (S64) → List (S55) → List (S57) → Int → Bool → Int → Int → Bool → Int → Int → Option (Int)
 | 0,_,_,_,_,_,_,_,_,_,_,_,_,_,_,_,_,_,_ => none
 | k + 1,x3,x5,x62,x343000,x343001,x343002,x343003,x343004,x343005,x343006,x343007,x343008,x345000,x345001,x345002,x345003,x345004,x345005 => if x62 = true then (some 24) else (ddiref37_checkPools.l1 k x3 (wrap64 (x5 + 1)) x343000 x343001 x343002 x343003 x343004 x343005 x343006 x343007 x343008 x345000 x345001 x345002 x345003 x345004 x345005)
end
def ddiref37_checkPools.f (k : Nat) (a0_0 : Bool) (a0_1 : Int) (a0_2 : Int) (a0_3 : Int) (a0_4 : ByteArray) (l0_5 : List (S64)) (l0_6 : List (S55)) (l0_7 : List (S57)) (a0_8 : Int) : Option (Int) := ddiref37_checkPools.l0 k 0 a0_0 a0_1 a0_2 a0_3 a0_4 l0_5 l0_6 l0_7 a0_8
mutual
def ddiref37_client.j0 : Nat → ByteArray → Bool → Option (Bool)
 | 0,_,_ => none
 | k + 1,x0,x11 => if x11 = true then (some false) else (ddiref37_client.l0 k x0 0)
def ddiref37_client.l0 : Nat → ByteArray → Int → Option (Bool)
 | 0,_,_ => none
 | k + 1,x0,x3 => if x3 < (x0.size : Int) then (if 0 ≤ x3 then (if (bt x0 x3) < 33 then (ddiref37_client.j2 k x0 x3 true) else (ddiref37_client.j2 k x0 x3 (decide ((bt x0 x3) > 126)))) else (none)) else (some true)
def ddiref37_client.j2 : Nat → ByteArray → Int → Bool → Option (Bool)
 | 0,_,_,_ => none
 | k + 1,x0,x3,x27 => if x27 = true then (some false) else (ddiref37_client.l0 k x0 (wrap64 (x3 + 1)))
end
def ddiref37_client.f (k : Nat) (a0 : ByteArray) : Option (Bool) := if (a0.size : Int) < 1 then (ddiref37_client.j0 k a0 true) else (ddiref37_client.j0 k a0 (decide ((a0.size : Int) > 32)))
mutual
def ddiref01_isLabel.j0 : Nat → ByteArray → Bool → Option (Bool)
 | 0,_,_ => none
 | k + 1,x0,x14 => if x14 = true then (some false) else (ddiref01_isLabel.l0 k x0 0)
def ddiref01_isLabel.l0 : Nat → ByteArray → Int → Option (Bool)
 | 0,_,_ => none
 | k + 1,x0,x3 => if x3 < (x0.size : Int) then (if 0 ≤ x3 then (if (bt x0 x3) ≥ 97 then (if (bt x0 x3) ≤ 122 then (ddiref01_isLabel.j2 k x0 x3 (!true)) else (if (bt x0 x3) ≥ 48 then (if (bt x0 x3) ≤ 57 then (ddiref01_isLabel.j2 k x0 x3 (!true)) else (if (bt x0 x3) = 45 then (ddiref01_isLabel.j2 k x0 x3 (!true)) else (ddiref01_isLabel.j2 k x0 x3 (!((bt x0 x3) == 95))))) else (if (bt x0 x3) = 45 then (ddiref01_isLabel.j2 k x0 x3 (!true)) else (ddiref01_isLabel.j2 k x0 x3 (!((bt x0 x3) == 95)))))) else (if (bt x0 x3) ≥ 48 then (if (bt x0 x3) ≤ 57 then (ddiref01_isLabel.j2 k x0 x3 (!true)) else (if (bt x0 x3) = 45 then (ddiref01_isLabel.j2 k x0 x3 (!true)) else (ddiref01_isLabel.j2 k x0 x3 (!((bt x0 x3) == 95))))) else (if (bt x0 x3) = 45 then (ddiref01_isLabel.j2 k x0 x3 (!true)) else (ddiref01_isLabel.j2 k x0 x3 (!((bt x0 x3) == 95)))))) else (none)) else (some true)
def ddiref01_isLabel.j2 : Nat → ByteArray → Int → Bool → Option (Bool)
 | 0,_,_,_ => none
 | k + 1,x0,x3,x46 => if x46 = true then (some false) else (ddiref01_isLabel.l0 k x0 (wrap64 (x3 + 1)))
end
def ddiref01_isLabel.f (k : Nat) (a0 : ByteArray) : Option (Bool) := if a0.toList = ([42] : List UInt8) then (some true) else (if (a0.size : Int) < 1 then (ddiref01_isLabel.j0 k a0 true) else (ddiref01_isLabel.j0 k a0 (decide ((a0.size : Int) > 63))))
mutual
def ddiref01_split.j0 : Nat → ByteArray → Bool → Option (List ByteArray × Bool)
 | 0,_,_ => none
 | k + 1,x0,x25 => if x25 = true then (some (([] : List ByteArray),false)) else (ddiref01_split.l0 k x0 ([] : List ByteArray) 0 0)
def ddiref01_split.l0 : Nat → ByteArray → List ByteArray → Int → Int → Option (List ByteArray × Bool)
 | 0,_,_,_,_ => none
 | k + 1,x0,x4,x5,x6 => if x6 < (x0.size : Int) then (if 0 ≤ x6 then (if (bt x0 x6) = 46 then (if 0 ≤ x5 then (if x5 ≤ x6 then (if x6 ≤ (x0.size : Int) then ((ddiref01_isLabel.f k (x0.extract (x5 : Int).toNat (x6 : Int).toNat)).bind fun t352 => (if t352 = true then (if (x0.extract (x5 : Int).toNat (x6 : Int).toNat).toList = ([42] : List UInt8) then (ddiref01_split.j2 k x0 x4 x6 (x0.extract (x5 : Int).toNat (x6 : Int).toNat) (decide (x5 > 0))) else (ddiref01_split.j2 k x0 x4 x6 (x0.extract (x5 : Int).toNat (x6 : Int).toNat) false)) else (ddiref01_split.j2 k x0 x4 x6 (x0.extract (x5 : Int).toNat (x6 : Int).toNat) true))) else (none)) else (none)) else (none)) else (ddiref01_split.l0 k x0 x4 x5 (wrap64 (x6 + 1)))) else (none)) else (some (x4,true))
def ddiref01_split.j2 : Nat → ByteArray → List ByteArray → Int → ByteArray → Bool → Option (List ByteArray × Bool)
 | 0,_,_,_,_,_ => none
 | k + 1,x0,x4,x6,x7,x50 => if x50 = true then (some (([] : List ByteArray),false)) else (if x4.length < 8796093022208 then (ddiref01_split.l0 k x0 (x4 ++ [x7]) (wrap64 (x6 + 1)) (wrap64 (x6 + 1))) else (none))
end
def ddiref01_split.f (k : Nat) (a0 : ByteArray) : Option (List ByteArray × Bool) := if a0.toList = ([46] : List UInt8) then (some (([] : List ByteArray),true)) else (if (a0.size : Int) < 2 then (ddiref01_split.j0 k a0 true) else (if (a0.size : Int) > 254 then (ddiref01_split.j0 k a0 true) else (if 0 ≤ (wrap64 ((a0.size : Int) - 1)) then (if (wrap64 ((a0.size : Int) - 1)) < (a0.size : Int) then (ddiref01_split.j0 k a0 ((bt a0 (wrap64 ((a0.size : Int) - 1))) != 46)) else (none)) else (none))))
def ddiref01_Valid.f (k : Nat) (a0 : ByteArray) : Option (Bool) := (ddiref01_split.f k a0).bind fun bt356 => (some bt356.2)
mutual
def ddiref37_checkReserved.l0 : Nat → Int → Bool → Int → Int → Int → ByteArray → List (S64) → List (S55) → List (S57) → Int → Option (Int)
 | 0,_,_,_,_,_,_,_,_,_,_ => none
 | k + 1,x3,x361000,x361001,x361002,x361003,x361004,x361005,x361006,x361007,x361008 => if x3 < (x361006.length : Int) then (if 0 ≤ x3 then ((ddiref37_client.f k ((rd_T55 x361006 x3).f0)).bind fun t363 => (if t363 = true then ((ddiref37_usable.f k x361000 x361001 x361002 x361003 ((rd_T55 x361006 x3).f1.f0) ((rd_T55 x361006 x3).f1.f1) ((rd_T55 x361006 x3).f1.f2)).bind fun t364 => (if t364 = true then (ddiref37_checkReserved.l1 k x3 0 x361000 x361001 x361002 x361003 x361004 x361005 x361006 x361007 x361008 ((rd_T55 x361006 x3).f0) ((rd_T55 x361006 x3).f1.f0) ((rd_T55 x361006 x3).f1.f1) ((rd_T55 x361006 x3).f1.f2) ((rd_T55 x361006 x3).f2)) else (some 3))) else (some 9))) else (none)) else (some 0)
def ddiref37_checkReserved.l1 : Nat → Int → Int → Bool → Int → Int → Int → ByteArray → List (S64) → List (S55) → List (S57) → Int → ByteArray → Bool → Int → Int → ByteArray → Option (Int)
 | 0,_,_,_,_,_,_,_,_,_,_,_,_,_,_,_,_ => none
 | k + 1,x3,x5,x361000,x361001,x361002,x361003,x361004,x361005,x361006,x361007,x361008,x363000,x363001,x363002,x363003,x363004 => if x5 < x3 then (if 0 ≤ x5 then (if x5 < (x361006.length : Int) then (if ((rd_T55 x361006 x5).f0).toList = x363000.toList then (ddiref37_checkReserved.j2 k x3 x5 true x361000 x361001 x361002 x361003 x361004 x361005 x361006 x361007 x361008 x363000 x363001 x363002 x363003 x363004) else (ddiref37_checkReserved.j2 k x3 x5 (((rd_T55 x361006 x5).f1.f0) == x363001 && (((rd_T55 x361006 x5).f1.f1) == x363002 && (((rd_T55 x361006 x5).f1.f2) == x363003))) x361000 x361001 x361002 x361003 x361004 x361005 x361006 x361007 x361008 x363000 x363001 x363002 x363003 x363004)) else (none)) else (none)) else (if x363004.toList = ([] : List UInt8) then (ddiref37_checkReserved.j3 k x3 false x361000 x361001 x361002 x361003 x361004 x361005 x361006 x361007 x361008) else ((ddiref01_Valid.f k x363004).bind fun t367 => (ddiref37_checkReserved.j3 k x3 (!t367) x361000 x361001 x361002 x361003 x361004 x361005 x361006 x361007 x361008)))
def ddiref37_checkReserved.j2 : Nat → Int → Int → Bool → Bool → Int → Int → Int → ByteArray → List (S64) → List (S55) → List (S57) → Int → ByteArray → Bool → Int → Int → ByteArray → Option (Int)
 | 0,_,_,_,_,_,_,_,_,_,_,_,_,_,_,_,_,_ => none
 | k + 1,x3,x5,x52,x361000,x361001,x361002,x361003,x361004,x361005,x361006,x361007,x361008,x363000,x363001,x363002,x363003,x363004 => if x52 = true then (some 12) else (ddiref37_checkReserved.l1 k x3 (wrap64 (x5 + 1)) x361000 x361001 x361002 x361003 x361004 x361005 x361006 x361007 x361008 x363000 x363001 x363002 x363003 x363004)
def ddiref37_checkReserved.j3 : Nat → Int → Bool → Bool → Int → Int → Int → ByteArray → List (S64) → List (S55) → List (S57) → Int → Option (Int)
 | 0,_,_,_,_,_,_,_,_,_,_,_ => none
 | k + 1,x3,x61,x361000,x361001,x361002,x361003,x361004,x361005,x361006,x361007,x361008 => if x61 = true then (some 2) else (ddiref37_checkReserved.l0 k (wrap64 (x3 + 1)) x361000 x361001 x361002 x361003 x361004 x361005 x361006 x361007 x361008)
end
def ddiref37_checkReserved.f (k : Nat) (a0_0 : Bool) (a0_1 : Int) (a0_2 : Int) (a0_3 : Int) (a0_4 : ByteArray) (l0_5 : List (S64)) (l0_6 : List (S55)) (l0_7 : List (S57)) (a0_8 : Int) : Option (Int) := ddiref37_checkReserved.l0 k 0 a0_0 a0_1 a0_2 a0_3 a0_4 l0_5 l0_6 l0_7 a0_8
def ddiref35_index.l0 : Nat → List (S57) → Int → Int → Option (Int)
 | 0,_,_,_ => none
 | k + 1,x0,x1,x5 => if x5 < (x0.length : Int) then (if 0 ≤ x5 then (if ((rd_T57 x0 x5).f0) = x1 then (some x5) else (ddiref35_index.l0 k x0 x1 (wrap64 (x5 + 1)))) else (none)) else (some (-1))
def ddiref35_index.f (k : Nat) (l0 : List (S57)) (a1 : Int) : Option (Int) := ddiref35_index.l0 k l0 a1 0
mutual
def ddiref35_Valid.l0 : Nat → List (S57) → Int → Int → Option (Bool)
 | 0,_,_,_ => none
 | k + 1,x0,x3,x4 => if x4 < (x0.length : Int) then (if 0 ≤ x4 then (if ((rd_T57 x0 x4).f0) < 1 then (ddiref35_Valid.j1 k x0 (wrap64 (x3 + (((rd_T57 x0 x4).f1).size : Int))) x4 true) else (if ((rd_T57 x0 x4).f0) > 254 then (ddiref35_Valid.j1 k x0 (wrap64 (x3 + (((rd_T57 x0 x4).f1).size : Int))) x4 true) else (if (((rd_T57 x0 x4).f1).size : Int) > 1024 then (ddiref35_Valid.j1 k x0 (wrap64 (x3 + (((rd_T57 x0 x4).f1).size : Int))) x4 true) else ((ddiref35_index.f k x0 ((rd_T57 x0 x4).f0)).bind fun t374 => (ddiref35_Valid.j1 k x0 (wrap64 (x3 + (((rd_T57 x0 x4).f1).size : Int))) x4 (t374 != x4)))))) else (none)) else (some (decide (x3 ≤ 4096)))
def ddiref35_Valid.j1 : Nat → List (S57) → Int → Int → Bool → Option (Bool)
 | 0,_,_,_,_ => none
 | k + 1,x0,x3,x4,x55 => if x55 = true then (some false) else (ddiref35_Valid.l0 k x0 x3 (wrap64 (x4 + 1)))
end
def ddiref35_Valid.f (k : Nat) (l0 : List (S57)) : Option (Bool) := if (l0.length : Int) > 32 then (some false) else (ddiref35_Valid.l0 k l0 0 0)
mutual
def ddiref37_Check.j0 : Nat → Bool → Bool → Int → Int → Int → ByteArray → List (S64) → List (S55) → List (S57) → Int → Option (Int)
 | 0,_,_,_,_,_,_,_,_,_,_ => none
 | k + 1,x19,x376000,x376001,x376002,x376003,x376004,x376005,x376006,x376007,x376008 => if x19 = true then (some 3) else (if (x376005.length : Int) > 16 then (ddiref37_Check.j1 k true x376000 x376001 x376002 x376003 x376004 x376005 x376006 x376007 x376008) else (ddiref37_Check.j1 k (decide ((x376006.length : Int) > 16)) x376000 x376001 x376002 x376003 x376004 x376005 x376006 x376007 x376008))
def ddiref37_Check.j1 : Nat → Bool → Bool → Int → Int → Int → ByteArray → List (S64) → List (S55) → List (S57) → Int → Option (Int)
 | 0,_,_,_,_,_,_,_,_,_,_ => none
 | k + 1,x29,x376000,x376001,x376002,x376003,x376004,x376005,x376006,x376007,x376008 => if x29 = true then (some 9) else ((ddiref37_checkPools.f k x376000 x376001 x376002 x376003 x376004 x376005 x376006 x376007 x376008).bind fun t377 => (if t377 = 0 then ((ddiref37_checkReserved.f k x376000 x376001 x376002 x376003 x376004 x376005 x376006 x376007 x376008).bind fun t378 => (if t378 = 0 then ((ddiref35_Valid.f k x376007).bind fun t379 => (if t379 = true then (if x376008 < 1 then (ddiref37_Check.j2 k true) else (if x376008 > 1073741824 then (ddiref37_Check.j2 k true) else (ddiref37_Check.j2 k (decide ((x376004.size : Int) > 255))))) else (ddiref37_Check.j2 k true))) else (some t378))) else (some t377)))
def ddiref37_Check.j2 : Nat → Bool → Option (Int)
 | 0,_ => none
 | k + 1,x59 => if x59 = true then (some 1) else (some 0)
end
def ddiref37_Check.f (k : Nat) (a0_0 : Bool) (a0_1 : Int) (a0_2 : Int) (a0_3 : Int) (a0_4 : ByteArray) (l0_5 : List (S64)) (l0_6 : List (S55)) (l0_7 : List (S57)) (a0_8 : Int) : Option (Int) := (ddiref03_Valid.f k a0_0 a0_1 a0_2 a0_3).bind fun t376 => (if t376 = true then (if a0_0 = true then (ddiref37_Check.j0 k true a0_0 a0_1 a0_2 a0_3 a0_4 l0_5 l0_6 l0_7 a0_8) else (ddiref37_Check.j0 k (decide (a0_3 > 30)) a0_0 a0_1 a0_2 a0_3 a0_4 l0_5 l0_6 l0_7 a0_8)) else (ddiref37_Check.j0 k true a0_0 a0_1 a0_2 a0_3 a0_4 l0_5 l0_6 l0_7 a0_8))
def failover_Mine_1.f (k : Nat) (a0_0 : Bool) (a0_1 : Int) (a0_2 : Int) (a0_3 : Bool) (a0_4 : Int) (a0_5 : Int) (a1_0 : Bool) (a1_1 : Int) (a1_2 : Int) : Option (Bool) := (addr_Compare.f k a0_0 a0_1 a0_2 a1_0 a1_1 a1_2).bind fun t381 => (if t381 ≤ 0 then ((addr_Compare.f k a1_0 a1_1 a1_2 a0_3 a0_4 a0_5).bind fun t382 => (some (decide (t382 ≤ 0)))) else (some false))
def slices_IndexFunc_35.l0 : Nat → List (S64) → Int → Int → Bool → Int → Int → Option (Int)
 | 0,_,_,_,_,_,_ => none
 | k + 1,x0,x7,x8,x700101000,x700101001,x700101002 => if x8 < x7 then (if 0 ≤ x8 then (if x8 < (x0.length : Int) then ((failover_Mine_1.f k ((rd_T64 x0 x8).f0.f0) ((rd_T64 x0 x8).f0.f1) ((rd_T64 x0 x8).f0.f2) ((rd_T64 x0 x8).f1.f0) ((rd_T64 x0 x8).f1.f1) ((rd_T64 x0 x8).f1.f2) x700101000 x700101001 x700101002).bind fun t384 => (if t384 = true then (some x8) else (slices_IndexFunc_35.l0 k x0 x7 (wrap64 (x8 + 1)) x700101000 x700101001 x700101002))) else (none)) else (none)) else (some (-1))
def slices_IndexFunc_35.f (k : Nat) (l0 : List (S64)) (a1_0 : Bool) (a1_1 : Int) (a1_2 : Int) : Option (Int) := slices_IndexFunc_35.l0 k l0 (l0.length : Int) 0 a1_0 a1_1 a1_2
def slices_ContainsFunc_35.f (k : Nat) (l0 : List (S64)) (a1_0 : Bool) (a1_1 : Int) (a1_2 : Int) : Option (Bool) := (slices_IndexFunc_35.f k l0 a1_0 a1_1 a1_2).bind fun t385 => (some (decide (t385 ≥ 0)))
def failover_Mine.f (k : Nat) (a0_0 : Bool) (a0_1 : Int) (a0_2 : Int) (a0_3 : Int) (a1_0 : Bool) (a1_1 : Int) (a1_2 : Int) (a1_3 : Int) (a1_4 : ByteArray) (l1_5 : List (S64)) (l1_6 : List (S55)) (l1_7 : List (S57)) (a1_8 : Int) (a2_0 : Bool) (a2_1 : Int) (a2_2 : Int) : Option (Bool) := (pool_At.f k a1_0 a1_1 a1_2 a1_3 a1_4 l1_5 l1_6 l1_7 a1_8 a2_0 a2_1 a2_2).bind fun bt389 => (if bt389.2.2.2.2.2 = true then (some true) else ((failover_parts.f k a0_0 a0_1 a0_2 a0_3 a1_0 a1_1 a1_2 a1_3 a1_4 l1_5 l1_6 l1_7 a1_8).bind fun t396 => ((slices_ContainsFunc_35.f k t396 a2_0 a2_1 a2_2).bind fun t399 => (some t399))))
def ddiref37_At.l0 : Nat → Int → Bool → Int → Int → Int → ByteArray → List (S64) → List (S55) → List (S57) → Int → Bool → Int → Int → Option (ByteArray × Bool × Int × Int × ByteArray × Bool)
 | 0,_,_,_,_,_,_,_,_,_,_,_,_,_ => none
 | k + 1,x6,x401000,x401001,x401002,x401003,x401004,x401005,x401006,x401007,x401008,x402000,x402001,x402002 => if x6 < (x401006.length : Int) then (if 0 ≤ x6 then (if (((rd_T55 x401006 x6).f1.f0) == x402000 && (((rd_T55 x401006 x6).f1.f1) == x402001 && (((rd_T55 x401006 x6).f1.f2) == x402002))) = true then (some ((rd_T55 x401006 x6).f0,(rd_T55 x401006 x6).f1.f0,(rd_T55 x401006 x6).f1.f1,(rd_T55 x401006 x6).f1.f2,(rd_T55 x401006 x6).f2,true)) else (ddiref37_At.l0 k (wrap64 (x6 + 1)) x401000 x401001 x401002 x401003 x401004 x401005 x401006 x401007 x401008 x402000 x402001 x402002)) else (none)) else (some ((⟨#[]⟩ : ByteArray),false,0,0,(⟨#[]⟩ : ByteArray),false))
def ddiref37_At.f (k : Nat) (a0_0 : Bool) (a0_1 : Int) (a0_2 : Int) (a0_3 : Int) (a0_4 : ByteArray) (l0_5 : List (S64)) (l0_6 : List (S55)) (l0_7 : List (S57)) (a0_8 : Int) (a1_0 : Bool) (a1_1 : Int) (a1_2 : Int) : Option (ByteArray × Bool × Int × Int × ByteArray × Bool) := ddiref37_At.l0 k 0 a0_0 a0_1 a0_2 a0_3 a0_4 l0_5 l0_6 l0_7 a0_8 a1_0 a1_1 a1_2
def ddiref44_part.f (a0_0 : Bool) (a0_1 : Int) (a0_2 : Int) (a0_3 : Int) (a1_0 : Bool) (a1_1 : Int) (a1_2 : Int) (a1_3 : Bool) (a1_4 : Int) (a1_5 : Int) : Option (Bool × Int × Int × Bool × Int × Int × Bool) := if a0_0 = true then (some (a1_0,a1_1,a1_2,false,0,IntKind.u64.wrap ((IntKind.u64.wrap (a1_2 + (IntKind.u64.wrap (Int.tdiv (IntKind.u64.wrap ((IntKind.u64.wrap ((IntKind.u64.wrap (a1_5 - a1_2)) + 1)) + 1)) 2)))) - 1),true)) else (some (false,0,IntKind.u64.wrap (a1_2 + (IntKind.u64.wrap (Int.tdiv (IntKind.u64.wrap ((IntKind.u64.wrap ((IntKind.u64.wrap (a1_5 - a1_2)) + 1)) + 1)) 2))),a1_3,a1_4,a1_5,decide ((IntKind.u64.wrap ((IntKind.u64.wrap (a1_5 - a1_2)) + 1)) > (IntKind.u64.wrap (Int.tdiv (IntKind.u64.wrap ((IntKind.u64.wrap ((IntKind.u64.wrap (a1_5 - a1_2)) + 1)) + 1)) 2)))))
def ddiref44_inside.f (a0_0 : Bool) (a0_1 : Int) (a0_2 : Int) (a0_3 : Bool) (a0_4 : Int) (a0_5 : Int) (a1_0 : Bool) (a1_1 : Int) (a1_2 : Int) : Option (Bool) := (ddiref02_Compare.f a0_0 a0_1 a0_2 a1_0 a1_1 a1_2).bind fun t410 => (if t410 ≤ 0 then ((ddiref02_Compare.f a1_0 a1_1 a1_2 a0_3 a0_4 a0_5).bind fun t411 => (some (decide (t411 ≤ 0)))) else (some false))
mutual
def ddiref44_Mine.l0 : Nat → Int → Bool → Int → Int → Int → Bool → Int → Int → Int → ByteArray → List (S64) → List (S55) → List (S57) → Int → Bool → Int → Int → Option (Bool)
 | 0,_,_,_,_,_,_,_,_,_,_,_,_,_,_,_,_,_ => none
 | k + 1,x9,x413000,x413001,x413002,x413003,x414000,x414001,x414002,x414003,x414004,x414005,x414006,x414007,x414008,x415000,x415001,x415002 => if x9 < (x414005.length : Int) then (if 0 ≤ x9 then ((ddiref44_part.f x413000 x413001 x413002 x413003 ((rd_T64 x414005 x9).f0.f0) ((rd_T64 x414005 x9).f0.f1) ((rd_T64 x414005 x9).f0.f2) ((rd_T64 x414005 x9).f1.f0) ((rd_T64 x414005 x9).f1.f1) ((rd_T64 x414005 x9).f1.f2)).bind fun bt423 => (if bt423.2.2.2.2.2.2 = true then ((ddiref44_inside.f bt423.1 bt423.2.1 bt423.2.2.1 bt423.2.2.2.1 bt423.2.2.2.2.1 bt423.2.2.2.2.2.1 x415000 x415001 x415002).bind fun t431 => (ddiref44_Mine.j1 k x9 t431 x413000 x413001 x413002 x413003 x414000 x414001 x414002 x414003 x414004 x414005 x414006 x414007 x414008 x415000 x415001 x415002)) else (ddiref44_Mine.j1 k x9 false x413000 x413001 x413002 x413003 x414000 x414001 x414002 x414003 x414004 x414005 x414006 x414007 x414008 x415000 x415001 x415002))) else (none)) else (some false)
def ddiref44_Mine.j1 : Nat → Int → Bool → Bool → Int → Int → Int → Bool → Int → Int → Int → ByteArray → List (S64) → List (S55) → List (S57) → Int → Bool → Int → Int → Option (Bool)
 | 0,_,_,_,_,_,_,_,_,_,_,_,_,_,_,_,_,_,_ => none
 | k + 1,x9,x41,x413000,x413001,x413002,x413003,x414000,x414001,x414002,x414003,x414004,x414005,x414006,x414007,x414008,x415000,x415001,x415002 => if x41 = true then (some true) else (ddiref44_Mine.l0 k (wrap64 (x9 + 1)) x413000 x413001 x413002 x413003 x414000 x414001 x414002 x414003 x414004 x414005 x414006 x414007 x414008 x415000 x415001 x415002)
end
def ddiref44_Mine.f (k : Nat) (a0_0 : Bool) (a0_1 : Int) (a0_2 : Int) (a0_3 : Int) (a1_0 : Bool) (a1_1 : Int) (a1_2 : Int) (a1_3 : Int) (a1_4 : ByteArray) (l1_5 : List (S64)) (l1_6 : List (S55)) (l1_7 : List (S57)) (a1_8 : Int) (a2_0 : Bool) (a2_1 : Int) (a2_2 : Int) : Option (Bool) := (ddiref37_At.f k a1_0 a1_1 a1_2 a1_3 a1_4 l1_5 l1_6 l1_7 a1_8 a2_0 a2_1 a2_2).bind fun bt415 => (if bt415.2.2.2.2.2 = true then (some true) else (ddiref44_Mine.l0 k 0 a0_0 a0_1 a0_2 a0_3 a1_0 a1_1 a1_2 a1_3 a1_4 l1_5 l1_6 l1_7 a1_8 a2_0 a2_1 a2_2))
mutual
def ddilaw44_subnets.j0 : Nat → Bool → Bool → Int → Int → Int → ByteArray → List (S64) → List (S55) → List (S57) → Int → Bool → Int → Int → Int → ByteArray → List (S64) → List (S55) → List (S57) → Int → Option (Bool)
 | 0,_,_,_,_,_,_,_,_,_,_,_,_,_,_,_,_,_,_,_ => none
 | k + 1,x53,x433000,x433001,x433002,x433003,x433004,x433005,x433006,x433007,x433008,x434000,x434001,x434002,x434003,x434004,x434005,x434006,x434007,x434008 => if x53 = true then (some false) else (ddilaw44_subnets.l0 k 0 x433000 x433001 x433002 x433003 x433004 x433005 x433006 x433007 x433008 x434000 x434001 x434002 x434003 x434004 x434005 x434006 x434007 x434008)
def ddilaw44_subnets.l0 : Nat → Int → Bool → Int → Int → Int → ByteArray → List (S64) → List (S55) → List (S57) → Int → Bool → Int → Int → Int → ByteArray → List (S64) → List (S55) → List (S57) → Int → Option (Bool)
 | 0,_,_,_,_,_,_,_,_,_,_,_,_,_,_,_,_,_,_,_ => none
 | k + 1,x5,x433000,x433001,x433002,x433003,x433004,x433005,x433006,x433007,x433008,x434000,x434001,x434002,x434003,x434004,x434005,x434006,x434007,x434008 => if x5 < (x433005.length : Int) then (if 0 ≤ x5 then (if x5 < (x434005.length : Int) then (if ((!(((rd_T64 x433005 x5).f0.f0) == ((rd_T64 x434005 x5).f0.f0)) || (!(((rd_T64 x433005 x5).f0.f1) == ((rd_T64 x434005 x5).f0.f1)) || (!(((rd_T64 x433005 x5).f0.f2) == ((rd_T64 x434005 x5).f0.f2))))) || ((!(((rd_T64 x433005 x5).f1.f0) == ((rd_T64 x434005 x5).f1.f0)) || (!(((rd_T64 x433005 x5).f1.f1) == ((rd_T64 x434005 x5).f1.f1)) || (!(((rd_T64 x433005 x5).f1.f2) == ((rd_T64 x434005 x5).f1.f2))))))) = true then (some false) else (ddilaw44_subnets.l0 k (wrap64 (x5 + 1)) x433000 x433001 x433002 x433003 x433004 x433005 x433006 x433007 x433008 x434000 x434001 x434002 x434003 x434004 x434005 x434006 x434007 x434008)) else (none)) else (none)) else (ddilaw44_subnets.l1 k 0 x433000 x433001 x433002 x433003 x433004 x433005 x433006 x433007 x433008 x434000 x434001 x434002 x434003 x434004 x434005 x434006 x434007 x434008)
def ddilaw44_subnets.l1 : Nat → Int → Bool → Int → Int → Int → ByteArray → List (S64) → List (S55) → List (S57) → Int → Bool → Int → Int → Int → ByteArray → List (S64) → List (S55) → List (S57) → Int → Option (Bool)
 | 0,_,_,_,_,_,_,_,_,_,_,_,_,_,_,_,_,_,_,_ => none
 | k + 1,x6,x433000,x433001,x433002,x433003,x433004,x433005,x433006,x433007,x433008,x434000,x434001,x434002,x434003,x434004,x434005,x434006,x434007,x434008 => if x6 < (x433006.length : Int) then (if 0 ≤ x6 then (if x6 < (x434006.length : Int) then (if (!((((rd_T55 x433006 x6).f0).toList) == (((rd_T55 x434006 x6).f0).toList)) || ((!(((rd_T55 x433006 x6).f1.f0) == ((rd_T55 x434006 x6).f1.f0)) || (!(((rd_T55 x433006 x6).f1.f1) == ((rd_T55 x434006 x6).f1.f1)) || (!(((rd_T55 x433006 x6).f1.f2) == ((rd_T55 x434006 x6).f1.f2))))) || (!((((rd_T55 x433006 x6).f2).toList) == (((rd_T55 x434006 x6).f2).toList))))) = true then (some false) else (ddilaw44_subnets.l1 k (wrap64 (x6 + 1)) x433000 x433001 x433002 x433003 x433004 x433005 x433006 x433007 x433008 x434000 x434001 x434002 x434003 x434004 x434005 x434006 x434007 x434008)) else (none)) else (none)) else (ddilaw44_subnets.l2 k 0 x433000 x433001 x433002 x433003 x433004 x433005 x433006 x433007 x433008 x434000 x434001 x434002 x434003 x434004 x434005 x434006 x434007 x434008)
def ddilaw44_subnets.l2 : Nat → Int → Bool → Int → Int → Int → ByteArray → List (S64) → List (S55) → List (S57) → Int → Bool → Int → Int → Int → ByteArray → List (S64) → List (S55) → List (S57) → Int → Option (Bool)
 | 0,_,_,_,_,_,_,_,_,_,_,_,_,_,_,_,_,_,_,_ => none
 | k + 1,x7,x433000,x433001,x433002,x433003,x433004,x433005,x433006,x433007,x433008,x434000,x434001,x434002,x434003,x434004,x434005,x434006,x434007,x434008 => if x7 < (x433007.length : Int) then (if 0 ≤ x7 then (if x7 < (x434007.length : Int) then (if (!(((rd_T57 x433007 x7).f0) == ((rd_T57 x434007 x7).f0)) || (!((((rd_T57 x433007 x7).f1).toList) == (((rd_T57 x434007 x7).f1).toList)))) = true then (some false) else (ddilaw44_subnets.l2 k (wrap64 (x7 + 1)) x433000 x433001 x433002 x433003 x433004 x433005 x433006 x433007 x433008 x434000 x434001 x434002 x434003 x434004 x434005 x434006 x434007 x434008)) else (none)) else (none)) else (some true)
end
def ddilaw44_subnets.f (k : Nat) (a0_0 : Bool) (a0_1 : Int) (a0_2 : Int) (a0_3 : Int) (a0_4 : ByteArray) (l0_5 : List (S64)) (l0_6 : List (S55)) (l0_7 : List (S57)) (a0_8 : Int) (a1_0 : Bool) (a1_1 : Int) (a1_2 : Int) (a1_3 : Int) (a1_4 : ByteArray) (l1_5 : List (S64)) (l1_6 : List (S55)) (l1_7 : List (S57)) (a1_8 : Int) : Option (Bool) := if ((!(a0_0 == a1_0) || (!(a0_1 == a1_1) || (!(a0_2 == a1_2)))) || (!(a0_3 == a1_3))) = true then (ddilaw44_subnets.j0 k true a0_0 a0_1 a0_2 a0_3 a0_4 l0_5 l0_6 l0_7 a0_8 a1_0 a1_1 a1_2 a1_3 a1_4 l1_5 l1_6 l1_7 a1_8) else (if a0_4.toList = a1_4.toList then (if a0_8 = a1_8 then (if (l0_5.length : Int) = (l1_5.length : Int) then (if (l0_6.length : Int) = (l1_6.length : Int) then (ddilaw44_subnets.j0 k ((l0_7.length : Int) != (l1_7.length : Int)) a0_0 a0_1 a0_2 a0_3 a0_4 l0_5 l0_6 l0_7 a0_8 a1_0 a1_1 a1_2 a1_3 a1_4 l1_5 l1_6 l1_7 a1_8) else (ddilaw44_subnets.j0 k true a0_0 a0_1 a0_2 a0_3 a0_4 l0_5 l0_6 l0_7 a0_8 a1_0 a1_1 a1_2 a1_3 a1_4 l1_5 l1_6 l1_7 a1_8)) else (ddilaw44_subnets.j0 k true a0_0 a0_1 a0_2 a0_3 a0_4 l0_5 l0_6 l0_7 a0_8 a1_0 a1_1 a1_2 a1_3 a1_4 l1_5 l1_6 l1_7 a1_8)) else (ddilaw44_subnets.j0 k true a0_0 a0_1 a0_2 a0_3 a0_4 l0_5 l0_6 l0_7 a0_8 a1_0 a1_1 a1_2 a1_3 a1_4 l1_5 l1_6 l1_7 a1_8)) else (ddilaw44_subnets.j0 k true a0_0 a0_1 a0_2 a0_3 a0_4 l0_5 l0_6 l0_7 a0_8 a1_0 a1_1 a1_2 a1_3 a1_4 l1_5 l1_6 l1_7 a1_8))
def ddiref44_state.j0 : Nat → Bool → Bool → Int → Int → Int → Option (Int)
 | 0,_,_,_,_,_ => none
 | k + 1,x10,x441000,x441001,x441002,x441003 => if x10 = true then (some 0) else (some x441001)
def ddiref44_state.f (k : Nat) (a0_0 : Bool) (a0_1 : Int) (a0_2 : Int) (a0_3 : Int) : Option (Int) := if a0_1 < 0 then (ddiref44_state.j0 k true a0_0 a0_1 a0_2 a0_3) else (ddiref44_state.j0 k (decide (a0_1 > 4)) a0_0 a0_1 a0_2 a0_3)
mutual
def ddiref44_Share.j0 : Nat → Int → Bool → Bool → Int → Int → Int → Bool → Int → Int → Int → ByteArray → List (S64) → List (S55) → List (S57) → Int → Option (Bool × Int × Int × Int × ByteArray × (List (S64)) × (List (S55)) × (List (S57)) × Int)
 | 0,_,_,_,_,_,_,_,_,_,_,_,_,_,_,_ => none
 | k + 1,x7,x21,x442000,x442001,x442002,x442003,x443000,x443001,x443002,x443003,x443004,x443005,x443006,x443007,x443008 => if x21 = true then (some (x443000,x443001,x443002,x443003,x443004,x443005,x443006,x443007,x443008)) else (if x7 = 0 then (ddiref44_Share.j1 k ([] : List (S64)) true x442000 x442001 x442002 x442003 x443000 x443001 x443002 x443003 x443004 x443005 x443006 x443007 x443008) else (ddiref44_Share.j1 k ([] : List (S64)) (x7 == 4) x442000 x442001 x442002 x442003 x443000 x443001 x443002 x443003 x443004 x443005 x443006 x443007 x443008))
def ddiref44_Share.j1 : Nat → List (S64) → Bool → Bool → Int → Int → Int → Bool → Int → Int → Int → ByteArray → List (S64) → List (S55) → List (S57) → Int → Option (Bool × Int × Int × Int × ByteArray × (List (S64)) × (List (S55)) × (List (S57)) × Int)
 | 0,_,_,_,_,_,_,_,_,_,_,_,_,_,_,_ => none
 | k + 1,x8,x28,x442000,x442001,x442002,x442003,x443000,x443001,x443002,x443003,x443004,x443005,x443006,x443007,x443008 => if x28 = true then (some (x443000,x443001,x443002,x443003,x443004,([] : List (S64)),([] : List (S55)),x443007,x443008)) else (ddiref44_Share.l0 k x8 0 x442000 x442001 x442002 x442003 x443000 x443001 x443002 x443003 x443004 x443005 x443006 x443007 x443008)
def ddiref44_Share.l0 : Nat → List (S64) → Int → Bool → Int → Int → Int → Bool → Int → Int → Int → ByteArray → List (S64) → List (S55) → List (S57) → Int → Option (Bool × Int × Int × Int × ByteArray × (List (S64)) × (List (S55)) × (List (S57)) × Int)
 | 0,_,_,_,_,_,_,_,_,_,_,_,_,_,_,_ => none
 | k + 1,x8,x9,x442000,x442001,x442002,x442003,x443000,x443001,x443002,x443003,x443004,x443005,x443006,x443007,x443008 => if x9 < (x443005.length : Int) then (if 0 ≤ x9 then ((ddiref44_part.f x442000 x442001 x442002 x442003 ((rd_T64 x443005 x9).f0.f0) ((rd_T64 x443005 x9).f0.f1) ((rd_T64 x443005 x9).f0.f2) ((rd_T64 x443005 x9).f1.f0) ((rd_T64 x443005 x9).f1.f1) ((rd_T64 x443005 x9).f1.f2)).bind fun bt446 => (if bt446.2.2.2.2.2.2 = true then (if x8.length < 2932031007402 then (ddiref44_Share.l0 k (x8 ++ [(⟨(⟨bt446.1,bt446.2.1,bt446.2.2.1⟩ : S26),(⟨bt446.2.2.2.1,bt446.2.2.2.2.1,bt446.2.2.2.2.2.1⟩ : S26)⟩ : S64)]) (wrap64 (x9 + 1)) x442000 x442001 x442002 x442003 x443000 x443001 x443002 x443003 x443004 x443005 x443006 x443007 x443008) else (none)) else (ddiref44_Share.l0 k x8 (wrap64 (x9 + 1)) x442000 x442001 x442002 x442003 x443000 x443001 x443002 x443003 x443004 x443005 x443006 x443007 x443008))) else (none)) else (some (x443000,x443001,x443002,x443003,x443004,x8,x443006,x443007,x443008))
end
def ddiref44_Share.f (k : Nat) (a0_0 : Bool) (a0_1 : Int) (a0_2 : Int) (a0_3 : Int) (a1_0 : Bool) (a1_1 : Int) (a1_2 : Int) (a1_3 : Int) (a1_4 : ByteArray) (l1_5 : List (S64)) (l1_6 : List (S55)) (l1_7 : List (S57)) (a1_8 : Int) (a2 : Int) : Option (Bool × Int × Int × Int × ByteArray × (List (S64)) × (List (S55)) × (List (S57)) × Int) := (ddiref44_state.f k a0_0 a0_1 a0_2 a0_3).bind fun t444 => (if t444 = 3 then (ddiref44_Share.j0 k t444 (decide (a2 ≥ a0_2)) a0_0 a0_1 a0_2 a0_3 a1_0 a1_1 a1_2 a1_3 a1_4 l1_5 l1_6 l1_7 a1_8) else (ddiref44_Share.j0 k t444 false a0_0 a0_1 a0_2 a0_3 a1_0 a1_1 a1_2 a1_3 a1_4 l1_5 l1_6 l1_7 a1_8))
mutual
def ddiref37_Has.j0 : Nat → Bool → Bool → Int → Int → Int → ByteArray → List (S64) → List (S55) → List (S57) → Int → Bool → Int → Int → Option (Bool)
 | 0,_,_,_,_,_,_,_,_,_,_,_,_,_ => none
 | k + 1,x18,x458000,x458001,x458002,x458003,x458004,x458005,x458006,x458007,x458008,x459000,x459001,x459002 => if x18 = true then (some false) else (ddiref37_Has.l0 k 0 x458000 x458001 x458002 x458003 x458004 x458005 x458006 x458007 x458008 x459000 x459001 x459002)
def ddiref37_Has.l0 : Nat → Int → Bool → Int → Int → Int → ByteArray → List (S64) → List (S55) → List (S57) → Int → Bool → Int → Int → Option (Bool)
 | 0,_,_,_,_,_,_,_,_,_,_,_,_,_ => none
 | k + 1,x7,x458000,x458001,x458002,x458003,x458004,x458005,x458006,x458007,x458008,x459000,x459001,x459002 => if x7 < (x458005.length : Int) then (if 0 ≤ x7 then ((ddiref37_inside.f ((rd_T64 x458005 x7).f0.f0) ((rd_T64 x458005 x7).f0.f1) ((rd_T64 x458005 x7).f0.f2) ((rd_T64 x458005 x7).f1.f0) ((rd_T64 x458005 x7).f1.f1) ((rd_T64 x458005 x7).f1.f2) x459000 x459001 x459002).bind fun t467 => (if t467 = true then (some true) else (ddiref37_Has.l0 k (wrap64 (x7 + 1)) x458000 x458001 x458002 x458003 x458004 x458005 x458006 x458007 x458008 x459000 x459001 x459002))) else (none)) else (some false)
end
def ddiref37_Has.f (k : Nat) (a0_0 : Bool) (a0_1 : Int) (a0_2 : Int) (a0_3 : Int) (a0_4 : ByteArray) (l0_5 : List (S64)) (l0_6 : List (S55)) (l0_7 : List (S57)) (a0_8 : Int) (a1_0 : Bool) (a1_1 : Int) (a1_2 : Int) : Option (Bool) := (ddiref37_At.f k a0_0 a0_1 a0_2 a0_3 a0_4 l0_5 l0_6 l0_7 a0_8 a1_0 a1_1 a1_2).bind fun bt459 => (if bt459.2.2.2.2.2 = true then (ddiref37_Has.j0 k true a0_0 a0_1 a0_2 a0_3 a0_4 l0_5 l0_6 l0_7 a0_8 a1_0 a1_1 a1_2) else (ddiref37_Has.j0 k a1_0 a0_0 a0_1 a0_2 a0_3 a0_4 l0_5 l0_6 l0_7 a0_8 a1_0 a1_1 a1_2))
def ddiref44_Leases.f (k : Nat) (a0_0 : Bool) (a0_1 : Int) (a0_2 : Int) (a0_3 : Int) (a1_0 : Bool) (a1_1 : Int) (a1_2 : Int) (a1_3 : Int) (a1_4 : ByteArray) (l1_5 : List (S64)) (l1_6 : List (S55)) (l1_7 : List (S57)) (a1_8 : Int) (a2_0 : Bool) (a2_1 : Int) (a2_2 : Int) (a3 : Int) : Option (Bool) := (ddiref44_Share.f k a0_0 a0_1 a0_2 a0_3 a1_0 a1_1 a1_2 a1_3 a1_4 l1_5 l1_6 l1_7 a1_8 a3).bind fun bt471 => ((ddiref37_At.f k bt471.1 bt471.2.1 bt471.2.2.1 bt471.2.2.2.1 bt471.2.2.2.2.1 bt471.2.2.2.2.2.1 bt471.2.2.2.2.2.2.1 bt471.2.2.2.2.2.2.2.1 bt471.2.2.2.2.2.2.2.2 a2_0 a2_1 a2_2).bind fun bt487 => (if bt487.2.2.2.2.2 = true then (some true) else ((ddiref37_Has.f k bt471.1 bt471.2.1 bt471.2.2.1 bt471.2.2.2.1 bt471.2.2.2.2.1 bt471.2.2.2.2.2.1 bt471.2.2.2.2.2.2.1 bt471.2.2.2.2.2.2.2.1 bt471.2.2.2.2.2.2.2.2 a2_0 a2_1 a2_2).bind fun t494 => (some t494))))
def ddilaw44_FailoverShares.j0 : Nat → Bool → Bool → Int → Int → Int → Bool → Int → Int → Int → ByteArray → List (S64) → List (S55) → List (S57) → Int → Bool → Int → Int → Int → Option (Bool)
 | 0,_,_,_,_,_,_,_,_,_,_,_,_,_,_,_,_,_,_ => none
 | k + 1,x16,x496000,x496001,x496002,x496003,x497000,x497001,x497002,x497003,x497004,x497005,x497006,x497007,x497008,x498000,x498001,x498002,x498003 => if x16 = true then (some true) else ((failover_Mine.f k x496000 x496001 x496002 x496003 x497000 x497001 x497002 x497003 x497004 x497005 x497006 x497007 x497008 x498000 x498001 x498002).bind fun t501 => ((ddiref44_Mine.f k x496000 x496001 x496002 x496003 x497000 x497001 x497002 x497003 x497004 x497005 x497006 x497007 x497008 x498000 x498001 x498002).bind fun t502 => (if (t501 == t502) = true then ((failover_Share.f k x496000 x496001 x496002 x496003 x497000 x497001 x497002 x497003 x497004 x497005 x497006 x497007 x497008 x498003).bind fun bt503 => ((ddiref44_Share.f k x496000 x496001 x496002 x496003 x497000 x497001 x497002 x497003 x497004 x497005 x497006 x497007 x497008 x498003).bind fun bt518 => ((ddilaw44_subnets.f k bt503.1 bt503.2.1 bt503.2.2.1 bt503.2.2.2.1 bt503.2.2.2.2.1 bt503.2.2.2.2.2.1 bt503.2.2.2.2.2.2.1 bt503.2.2.2.2.2.2.2.1 bt503.2.2.2.2.2.2.2.2 bt518.1 bt518.2.1 bt518.2.2.1 bt518.2.2.2.1 bt518.2.2.2.2.1 bt518.2.2.2.2.2.1 bt518.2.2.2.2.2.2.1 bt518.2.2.2.2.2.2.2.1 bt518.2.2.2.2.2.2.2.2).bind fun t533 => (if t533 = true then ((failover_Leases.f k x496000 x496001 x496002 x496003 x497000 x497001 x497002 x497003 x497004 x497005 x497006 x497007 x497008 x498000 x498001 x498002 x498003).bind fun t534 => ((ddiref44_Leases.f k x496000 x496001 x496002 x496003 x497000 x497001 x497002 x497003 x497004 x497005 x497006 x497007 x497008 x498000 x498001 x498002 x498003).bind fun t535 => (some (t534 == t535)))) else (some false))))) else (some false))))
def ddilaw44_FailoverShares.f (k : Nat) (a0_0 : Bool) (a0_1 : Int) (a0_2 : Int) (a0_3 : Int) (a1_0 : Bool) (a1_1 : Int) (a1_2 : Int) (a1_3 : Int) (a1_4 : ByteArray) (l1_5 : List (S64)) (l1_6 : List (S55)) (l1_7 : List (S57)) (a1_8 : Int) (a2_0 : Bool) (a2_1 : Int) (a2_2 : Int) (a2_3 : Int) : Option (Bool) := (ddilaw44_awake.f k).bind fun t498 => (if t498 = true then ((ddilaw44_small.f k a1_0 a1_1 a1_2 a1_3 a1_4 l1_5 l1_6 l1_7 a1_8).bind fun t499 => (if t499 = true then ((ddiref37_Check.f k a1_0 a1_1 a1_2 a1_3 a1_4 l1_5 l1_6 l1_7 a1_8).bind fun t500 => (ddilaw44_FailoverShares.j0 k (t500 != 0) a0_0 a0_1 a0_2 a0_3 a1_0 a1_1 a1_2 a1_3 a1_4 l1_5 l1_6 l1_7 a1_8 a2_0 a2_1 a2_2 a2_3)) else (ddilaw44_FailoverShares.j0 k true a0_0 a0_1 a0_2 a0_3 a1_0 a1_1 a1_2 a1_3 a1_4 l1_5 l1_6 l1_7 a1_8 a2_0 a2_1 a2_2 a2_3))) else (some false))
/-- THE ONE PURE STATEMENT of ddilaw44_FailoverShares: ours. -/
def ddilaw44_FailoverShares.Pure : Prop := ∀ (a0_0 : Bool) (a0_1 : Int) (a0_2 : Int) (a0_3 : Int) (a1_0 : Bool) (a1_1 : Int) (a1_2 : Int) (a1_3 : Int) (a1_4 : ByteArray) (l1_5 : List (S64)) (l1_6 : List (S55)) (l1_7 : List (S57)) (a1_8 : Int) (a2_0 : Bool) (a2_1 : Int) (a2_2 : Int) (a2_3 : Int),okS23 (⟨a0_0,a0_1,a0_2,a0_3⟩ : S23) → okS33 (⟨(⟨(⟨a1_0,a1_1,a1_2⟩ : S26),a1_3⟩ : S28),a1_4,l1_5,l1_6,l1_7,a1_8⟩ : S33) → okS35 (⟨(⟨a2_0,a2_1,a2_2⟩ : S26),a2_3⟩ : S35) → ∃ k,ddilaw44_FailoverShares.f k a0_0 a0_1 a0_2 a0_3 a1_0 a1_1 a1_2 a1_3 a1_4 l1_5 l1_6 l1_7 a1_8 a2_0 a2_1 a2_2 a2_3 = some true
end Go.Proofs.Ytpcjablkjaiapaa.QA
