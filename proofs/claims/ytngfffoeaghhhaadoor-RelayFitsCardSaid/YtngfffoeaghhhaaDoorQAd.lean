import Derived.Test.YtngfffoeaghhhaaDoorXB
import Derived.Test.YtngfffoeaghhhaaDoorXC
import Derived.Test.YtngfffoeaghhhaaDoorXR
import Derived.Test.YtngfffoeaghhhaaDoorWMore
import Derived.Below
import Derived.Deep.Draws
import Derived.Deep.AppendLies
import Derived.Maps.AppendAt
import Derived.OwnWalk
import Derived.Laws.BytesArg
import Derived.Laws.MakeOwn
import Derived.Laws.OwnMore
import Derived.Deep.OwnRows
import Derived.Tactics
import Derived.Lib.ConvBytes
import Derived.Laws.Slices
import Derived.WalkKit
import Derived.KernelRfl
import Derived.RowKit3
import Derived.Deep.LoopGhost
import Derived.Deep.QuietTactic
import Derived.BigQuiet
import Derived.WideLaws
import Derived.Deep.DeepCutAuto
import Derived.Deep.CutBlock
import Derived.Deep.RegionHeld3
import Derived.Laws.Rows
import Derived.Lib.AppendStr
import Derived.ArgAppend
import Derived.Laws.IdiomCopy
import Derived.OrdersHeld
import Derived.Laws.BitsLemmas
import Derived.RowKit
namespace Go.Proofs.YtngfffoeaghhhaaDoor.QA
open Go.RowKit Go.Proofs.YtngfffoeaghhhaaDoorW.PrintWords Go.Proofs.YtngfffoeaghhhaaDoorW.PrintLast Go.Proofs.YtngfffoeaghhhaaDoorW.PrintMore
set_option linter.unusedVariables false
structure S59 where
 f0 : Int
 f1 : ByteArray
def z59 : S59 := ⟨(0 : Int),(⟨#[]⟩ : ByteArray)⟩
def rd_T59 (xs : List S59) (i : Int) : S59 := xs.getD i.toNat z59
structure S24 where
 f0 : Bool
 f1 : Int
 f2 : Int
def z24 : S24 := ⟨false,(0 : Int),(0 : Int)⟩
structure S75 where
 f0 : S24
 f1 : S24
def z75 : S75 := ⟨z24,z24⟩
def rd_T75 (xs : List S75) (i : Int) : S75 := xs.getD i.toNat z75
structure S81 where
 f0 : ByteArray
 f1 : S24
 f2 : ByteArray
def z81 : S81 := ⟨(⟨#[]⟩ : ByteArray),z24,(⟨#[]⟩ : ByteArray)⟩
def rd_T81 (xs : List S81) (i : Int) : S81 := xs.getD i.toNat z81
structure S45 where
 f0 : S24
 f1 : Int
def z45 : S45 := ⟨z24,(0 : Int)⟩
structure S49 where
 f0 : S45
 f1 : ByteArray
 f2 : (List S75)
 f3 : (List S81)
 f4 : (List S59)
 f5 : Int
def z49 : S49 := ⟨z45,(⟨#[]⟩ : ByteArray),([] : List S75),([] : List S81),([] : List S59),(0 : Int)⟩
def rd_T49 (xs : List S49) (i : Int) : S49 := xs.getD i.toNat z49
structure S27 where
 f0 : Int
 f1 : Int
 f2 : Int
 f3 : ByteArray
 f4 : S24
 f5 : S24
 f6 : S24
 f7 : Bool
 f8 : (List S59)
def okS24 (x : S24) : Prop := True ∧ ((Lit.int .u64 x.f1).wf = true ∧ (Lit.int .u64 x.f2).wf = true)
def okS45 (x : S45) : Prop := okS24 x.f0 ∧ (Lit.int .i64 x.f1).wf = true
def okS75 (x : S75) : Prop := okS24 x.f0 ∧ okS24 x.f1
def okS81 (x : S81) : Prop := x.f0.size ≤ 140737488351232 ∧ (okS24 x.f1 ∧ x.f2.size ≤ 140737488351232)
def okS59 (x : S59) : Prop := (Lit.int .i64 x.f0).wf = true ∧ x.f1.size ≤ 140737488351232
def okS49 (x : S49) : Prop := okS45 x.f0 ∧ (x.f1.size ≤ 140737488351232 ∧ ((x.f2.length * 48 ≤ 140737488351232 ∧ x.f2.length ≤ maxLen ∧ ∀ y0_ ∈ x.f2,okS75 y0_) ∧ ((x.f3.length * 56 ≤ 140737488351232 ∧ x.f3.length ≤ maxLen ∧ ∀ y0_ ∈ x.f3,okS81 y0_) ∧ ((x.f4.length * 24 ≤ 140737488351232 ∧ x.f4.length ≤ maxLen ∧ ∀ y0_ ∈ x.f4,okS59 y0_) ∧ (Lit.int .i64 x.f5).wf = true))))
def okS27 (x : S27) : Prop := (Lit.int .i64 x.f0).wf = true ∧ ((Lit.int .i64 x.f1).wf = true ∧ ((Lit.int .i64 x.f2).wf = true ∧ (x.f3.size ≤ 140737488351232 ∧ (okS24 x.f4 ∧ (okS24 x.f5 ∧ (okS24 x.f6 ∧ (True ∧ (x.f8.length * 24 ≤ 140737488351232 ∧ x.f8.length ≤ maxLen ∧ ∀ y0_ ∈ x.f8,okS59 y0_))))))))
def conv_bytes_54.f (a0 : ByteArray) : Option (List Int) := XC.conv a0
mutual
def ddiref36_options.l0 : Nat → List (S59) → List (S59) → Int → Option ((List (S59)))
 | 0,_,_,_ => none
 | k + 1,x0,x3,x4 => if x4 < (x0.length : Int) then (ddiref36_options.j1 k x0 x3 x4 (decide (x4 < 40))) else (ddiref36_options.j1 k x0 x3 x4 false)
def ddiref36_options.j1 : Nat → List (S59) → List (S59) → Int → Bool → Option ((List (S59)))
 | 0,_,_,_,_ => none
 | k + 1,x0,x3,x4,x12 => if x12 = true then (if 0 ≤ x4 then (if x4 < (x0.length : Int) then (if 0 ≤ (mn (((rd_T59 x0 x4).f1).size : Int) 1100) then (if (mn (((rd_T59 x0 x4).f1).size : Int) 1100) ≤ (((rd_T59 x0 x4).f1).size : Int) then (if x3.length < 5864062014805 then (ddiref36_options.l0 k x0 (x3 ++ [(⟨(rd_T59 x0 x4).f0,((rd_T59 x0 x4).f1).extract 0 ((mn (((rd_T59 x0 x4).f1).size : Int) 1100) : Int).toNat⟩ : S59)]) (wrap64 (x4 + 1))) else (none)) else (none)) else (none)) else (none)) else (none)) else (some x3)
end
def ddiref36_options.f (k : Nat) (l0 : List (S59)) : Option ((List (S59))) := ddiref36_options.l0 k l0 ([] : List (S59)) 0
def ddiref36_Short.f (k : Nat) (a0_0 : Int) (a0_1 : Int) (a0_2 : Int) (a0_3 : ByteArray) (a0_4 : Bool) (a0_5 : Int) (a0_6 : Int) (a0_7 : Bool) (a0_8 : Int) (a0_9 : Int) (a0_10 : Bool) (a0_11 : Int) (a0_12 : Int) (a0_13 : Bool) (l0_14 : List (S59)) : Option (Int × Int × Int × ByteArray × Bool × Int × Int × Bool × Int × Int × Bool × Int × Int × Bool × (List (S59))) := if 0 ≤ (mn (a0_3.size : Int) 100) then (if (mn (a0_3.size : Int) 100) ≤ (a0_3.size : Int) then ((ddiref36_options.f k l0_14).bind fun t109 => (some (a0_0,a0_1,a0_2,a0_3.extract 0 ((mn (a0_3.size : Int) 100) : Int).toNat,a0_4,a0_5,a0_6,a0_7,a0_8,a0_9,a0_10,a0_11,a0_12,a0_13,t109))) else (none)) else (none)
def option_Find.l0 : Nat → Int → List (S59) → Int → Int → Option (ByteArray × Bool)
 | 0,_,_,_,_ => none
 | k + 1,x1,x8,x9,x10 => if x10 < x9 then (if 0 ≤ x10 then (if x10 < (x8.length : Int) then (if ((rd_T59 x8 x10).f0) = x1 then (some ((rd_T59 x8 x10).f1,true)) else (option_Find.l0 k x1 x8 x9 (wrap64 (x10 + 1)))) else (none)) else (none)) else (some ((⟨#[]⟩ : ByteArray),false))
def option_Find.f (k : Nat) (l0 : List (S59)) (a1 : Int) : Option (ByteArray × Bool) := option_Find.l0 k a1 l0 (l0.length : Int) 0
theorem option_Find.mono_l : ∀ k,(∀ y0 y1 y2 y3,LeO (option_Find.l0 k y0 y1 y2 y3) (option_Find.l0 (k + 1) y0 y1 y2 y3))
 | 0 => fun _ _ _ _ r h => by simp [option_Find.l0] at h
 | k + 1 => by
  have ih0 := option_Find.mono_l k
  ·intro y0 y1 y2 y3
   unfold option_Find.l0
   repeat' first
   | (with_reducible exact ih0 _ _ _ _)
   | (with_reducible exact LeO.refl _)
   | (with_reducible exact LeO.none _)
   | (with_reducible refine LeO.ite ?_ ?_)
   | (with_reducible refine LeO.bind ?_ (fun _ => ?_))
theorem option_Find.mono : ∀ a0 a1 k,LeO (option_Find.f k a0 a1) (option_Find.f (k + 1) a0 a1) := by
 intro a0 a1 k
 have ih0 := option_Find.mono_l k
 unfold option_Find.f
 repeat' first
   | (with_reducible exact ih0 _ _ _ _)
   | (with_reducible exact LeO.refl _)
   | (with_reducible exact LeO.none _)
   | (with_reducible refine LeO.ite ?_ ?_)
   | (with_reducible refine LeO.bind ?_ (fun _ => ?_))
def relay_Circuit.j0 : Nat → ByteArray → Bool → Option (ByteArray × Bool)
 | 0,_,_ => none
 | k + 1,x4,x32 => if x32 = true then (some ((⟨#[]⟩ : ByteArray),false)) else (if 2 ≤ (x4.size : Int) then (some (x4.extract 2 x4.size,true)) else (none))
def relay_Circuit.f (k : Nat) (a0_0 : Int) (a0_1 : Int) (a0_2 : Int) (a0_3 : ByteArray) (a0_4 : Bool) (a0_5 : Int) (a0_6 : Int) (a0_7 : Bool) (a0_8 : Int) (a0_9 : Int) (a0_10 : Bool) (a0_11 : Int) (a0_12 : Int) (a0_13 : Bool) (l0_14 : List (S59)) : Option (ByteArray × Bool) := (option_Find.f k l0_14 82).bind fun bt115 => (if bt115.2 = true then (if (bt115.1.size : Int) < 2 then (relay_Circuit.j0 k bt115.1 true) else (if 0 < (bt115.1.size : Int) then (if (bt bt115.1 0) = 1 then (if 1 < (bt115.1.size : Int) then (relay_Circuit.j0 k bt115.1 ((wrap64 (bt bt115.1 1)) != (wrap64 ((bt115.1.size : Int) - 2)))) else (none)) else (relay_Circuit.j0 k bt115.1 true)) else (none))) else (relay_Circuit.j0 k bt115.1 true))
theorem relay_Circuit.mono_l : ∀ k,(∀ y0 y1,LeO (relay_Circuit.j0 k y0 y1) (relay_Circuit.j0 (k + 1) y0 y1))
 | 0 => fun _ _ r h => by simp [relay_Circuit.j0] at h
 | k + 1 => by
  have ih0 := relay_Circuit.mono_l k
  ·intro y0 y1
   unfold relay_Circuit.j0
   repeat' first
   | (with_reducible exact ih0 _ _)
   | (with_reducible exact option_Find.mono _ _ _)
   | (with_reducible exact LeO.refl _)
   | (with_reducible exact LeO.none _)
   | (with_reducible refine LeO.ite ?_ ?_)
   | (with_reducible refine LeO.bind ?_ (fun _ => ?_))
theorem relay_Circuit.mono : ∀ a0 a1 a2 a3 a4 a5 a6 a7 a8 a9 a10 a11 a12 a13 a14 k,LeO (relay_Circuit.f k a0 a1 a2 a3 a4 a5 a6 a7 a8 a9 a10 a11 a12 a13 a14) (relay_Circuit.f (k + 1) a0 a1 a2 a3 a4 a5 a6 a7 a8 a9 a10 a11 a12 a13 a14) := by
 intro a0 a1 a2 a3 a4 a5 a6 a7 a8 a9 a10 a11 a12 a13 a14 k
 have ih0 := relay_Circuit.mono_l k
 unfold relay_Circuit.f
 repeat' first
   | (with_reducible exact ih0 _ _)
   | (with_reducible exact option_Find.mono _ _ _)
   | (with_reducible exact LeO.refl _)
   | (with_reducible exact LeO.none _)
   | (with_reducible refine LeO.ite ?_ ?_)
   | (with_reducible refine LeO.bind ?_ (fun _ => ?_))
def option_size.l0 : Nat → Int → List (S59) → Int → Int → Option (Int)
 | 0,_,_,_,_ => none
 | k + 1,x3,x6,x7,x8 => if x8 < x7 then (if 0 ≤ x8 then (if x8 < (x6.length : Int) then (option_size.l0 k (wrap64 (x3 + (((rd_T59 x6 x8).f1).size : Int))) x6 x7 (wrap64 (x8 + 1))) else (none)) else (none)) else (some x3)
def option_size.f (k : Nat) (l0 : List (S59)) : Option (Int) := option_size.l0 k 0 l0 (l0.length : Int) 0
theorem option_size.mono_l : ∀ k,(∀ y0 y1 y2 y3,LeO (option_size.l0 k y0 y1 y2 y3) (option_size.l0 (k + 1) y0 y1 y2 y3))
 | 0 => fun _ _ _ _ r h => by simp [option_size.l0] at h
 | k + 1 => by
  have ih0 := option_size.mono_l k
  ·intro y0 y1 y2 y3
   unfold option_size.l0
   repeat' first
   | (with_reducible exact ih0 _ _ _ _)
   | (with_reducible exact LeO.refl _)
   | (with_reducible exact LeO.none _)
   | (with_reducible refine LeO.ite ?_ ?_)
   | (with_reducible refine LeO.bind ?_ (fun _ => ?_))
theorem option_size.mono : ∀ a0 k,LeO (option_size.f k a0) (option_size.f (k + 1) a0) := by
 intro a0 k
 have ih0 := option_size.mono_l k
 unfold option_size.f
 repeat' first
   | (with_reducible exact ih0 _ _ _ _)
   | (with_reducible exact LeO.refl _)
   | (with_reducible exact LeO.none _)
   | (with_reducible refine LeO.ite ?_ ?_)
   | (with_reducible refine LeO.bind ?_ (fun _ => ?_))
def option_isCode.f (a0 : Int) : Option (Bool) := if a0 ≥ 1 then (some (decide (a0 ≤ 254))) else (some false)
mutual
def option_Valid.j0 : Nat → List (S59) → Bool → Option (Bool)
 | 0,_,_ => none
 | k + 1,x0,x14 => if x14 = true then (some false) else (option_Valid.l0 k x0 x0 (x0.length : Int) 0)
def option_Valid.l0 : Nat → List (S59) → List (S59) → Int → Int → Option (Bool)
 | 0,_,_,_,_ => none
 | k + 1,x0,x15,x16,x17 => if x17 < x16 then (if 0 ≤ x17 then (if x17 < (x15.length : Int) then (if x17 ≤ (x0.length : Int) then ((option_Find.f k (x0.take (x17 : Int).toNat) ((rd_T59 x15 x17).f0)).bind fun bt126 => (if bt126.2 = true then (option_Valid.j2 k x0 x15 x16 x17 true) else ((option_isCode.f ((rd_T59 x15 x17).f0)).bind fun t128 => (if t128 = true then (option_Valid.j2 k x0 x15 x16 x17 (decide ((((rd_T59 x15 x17).f1).size : Int) > 1024))) else (option_Valid.j2 k x0 x15 x16 x17 true))))) else (none)) else (none)) else (none)) else (some true)
def option_Valid.j2 : Nat → List (S59) → List (S59) → Int → Int → Bool → Option (Bool)
 | 0,_,_,_,_,_ => none
 | k + 1,x0,x15,x16,x17,x43 => if x43 = true then (some false) else (option_Valid.l0 k x0 x15 x16 (wrap64 (x17 + 1)))
end
def option_Valid.f (k : Nat) (l0 : List (S59)) : Option (Bool) := if (l0.length : Int) > 32 then (option_Valid.j0 k l0 true) else ((option_size.f k l0).bind fun t119 => (option_Valid.j0 k l0 (decide (t119 > 4096))))
theorem option_Valid.mono_l : ∀ k,(∀ y0 y1,LeO (option_Valid.j0 k y0 y1) (option_Valid.j0 (k + 1) y0 y1)) ∧ (∀ y0 y1 y2 y3,LeO (option_Valid.l0 k y0 y1 y2 y3) (option_Valid.l0 (k + 1) y0 y1 y2 y3)) ∧ (∀ y0 y1 y2 y3 y4,LeO (option_Valid.j2 k y0 y1 y2 y3 y4) (option_Valid.j2 (k + 1) y0 y1 y2 y3 y4))
 | 0 => ⟨fun _ _ r h => by simp [option_Valid.j0] at h,fun _ _ _ _ r h => by simp [option_Valid.l0] at h,fun _ _ _ _ _ r h => by simp [option_Valid.j2] at h⟩
 | k + 1 => by
  obtain ⟨ih0,ih1,ih2⟩ := option_Valid.mono_l k
  refine ⟨?_,?_,?_⟩
  ·intro y0 y1
   unfold option_Valid.j0
   repeat' first
   | (with_reducible exact ih0 _ _)
   | (with_reducible exact ih1 _ _ _ _)
   | (with_reducible exact ih2 _ _ _ _ _)
   | (with_reducible exact option_Find.mono _ _ _)
   | (with_reducible exact option_size.mono _ _)
   | (with_reducible exact LeO.refl _)
   | (with_reducible exact LeO.none _)
   | (with_reducible refine LeO.ite ?_ ?_)
   | (with_reducible refine LeO.bind ?_ (fun _ => ?_))
  ·intro y0 y1 y2 y3
   unfold option_Valid.l0
   repeat' first
   | (with_reducible exact ih0 _ _)
   | (with_reducible exact ih1 _ _ _ _)
   | (with_reducible exact ih2 _ _ _ _ _)
   | (with_reducible exact option_Find.mono _ _ _)
   | (with_reducible exact option_size.mono _ _)
   | (with_reducible exact LeO.refl _)
   | (with_reducible exact LeO.none _)
   | (with_reducible refine LeO.ite ?_ ?_)
   | (with_reducible refine LeO.bind ?_ (fun _ => ?_))
  ·intro y0 y1 y2 y3 y4
   unfold option_Valid.j2
   repeat' first
   | (with_reducible exact ih0 _ _)
   | (with_reducible exact ih1 _ _ _ _)
   | (with_reducible exact ih2 _ _ _ _ _)
   | (with_reducible exact option_Find.mono _ _ _)
   | (with_reducible exact option_size.mono _ _)
   | (with_reducible exact LeO.refl _)
   | (with_reducible exact LeO.none _)
   | (with_reducible refine LeO.ite ?_ ?_)
   | (with_reducible refine LeO.bind ?_ (fun _ => ?_))
theorem option_Valid.mono : ∀ a0 k,LeO (option_Valid.f k a0) (option_Valid.f (k + 1) a0) := by
 intro a0 k
 obtain ⟨ih0,ih1,ih2⟩ := option_Valid.mono_l k
 unfold option_Valid.f
 repeat' first
   | (with_reducible exact ih0 _ _)
   | (with_reducible exact ih1 _ _ _ _)
   | (with_reducible exact ih2 _ _ _ _ _)
   | (with_reducible exact option_Find.mono _ _ _)
   | (with_reducible exact option_size.mono _ _)
   | (with_reducible exact LeO.refl _)
   | (with_reducible exact LeO.none _)
   | (with_reducible refine LeO.ite ?_ ?_)
   | (with_reducible refine LeO.bind ?_ (fun _ => ?_))
def option_Put.l0 : Nat → Int → ByteArray → List (S59) → Int → Int → Option ((List (S59)))
 | 0,_,_,_,_,_ => none
 | k + 1,x1,x2,x7,x16,x17 => if x17 < x16 then (if 0 ≤ x17 then (if x17 < (x7.length : Int) then (if ((rd_T59 x7 x17).f0) = x1 then (some (x7.set (x17 : Int).toNat (⟨(rd_T59 x7 x17).f0,x2⟩ : S59))) else (option_Put.l0 k x1 x2 x7 x16 (wrap64 (x17 + 1)))) else (none)) else (none)) else (if x7.length < 5864062014805 then (some (x7 ++ [(⟨x1,x2⟩ : S59)])) else (none))
def option_Put.f (k : Nat) (l0 : List (S59)) (a1 : Int) (a2 : ByteArray) : Option ((List (S59))) := if ([] : List (S59)).length + l0.length < 5864062014805 then ((some (([] : List (S59)) ++ l0 : List (S59))).bind fun y129 => ((option_isCode.f a1).bind fun t132 => (if t132 = true then (option_Put.l0 k a1 a2 y129 (y129.length : Int) 0) else (some y129)))) else (none)
theorem option_Put.mono_l : ∀ k,(∀ y0 y1 y2 y3 y4,LeO (option_Put.l0 k y0 y1 y2 y3 y4) (option_Put.l0 (k + 1) y0 y1 y2 y3 y4))
 | 0 => fun _ _ _ _ _ r h => by simp [option_Put.l0] at h
 | k + 1 => by
  have ih0 := option_Put.mono_l k
  ·intro y0 y1 y2 y3 y4
   unfold option_Put.l0
   repeat' first
   | (with_reducible exact ih0 _ _ _ _ _)
   | (with_reducible exact LeO.refl _)
   | (with_reducible exact LeO.none _)
   | (with_reducible refine LeO.ite ?_ ?_)
   | (with_reducible refine LeO.bind ?_ (fun _ => ?_))
theorem option_Put.mono : ∀ a0 a1 a2 k,LeO (option_Put.f k a0 a1 a2) (option_Put.f (k + 1) a0 a1 a2) := by
 intro a0 a1 a2 k
 have ih0 := option_Put.mono_l k
 unfold option_Put.f
 repeat' first
   | (with_reducible exact ih0 _ _ _ _ _)
   | (with_reducible exact LeO.refl _)
   | (with_reducible exact LeO.none _)
   | (with_reducible refine LeO.ite ?_ ?_)
   | (with_reducible refine LeO.bind ?_ (fun _ => ?_))
def addr_Valid.f (a0_0 : Bool) (a0_1 : Int) (a0_2 : Int) : Option (Bool) := if a0_0 = true then (some true) else (if a0_1 = 0 then (some (decide (a0_2 ≤ 4294967295))) else (some false))
def relay_Insert.j0 : Nat → ByteArray → Bool → Int → Int → Int → ByteArray → Bool → Int → Int → Bool → Int → Int → Bool → Int → Int → Bool → List (S59) → Bool → Int → Int → Option (Int × Int × Int × ByteArray × Bool × Int × Int × Bool × Int × Int × Bool × Int × Int × Bool × (List (S59)) × Int)
 | 0,_,_,_,_,_,_,_,_,_,_,_,_,_,_,_,_,_,_,_,_ => none
 | k + 1,x2,x15,x140000,x140001,x140002,x140003,x140004,x140005,x140006,x140007,x140008,x140009,x140010,x140011,x140012,x140013,x140014,x141000,x141001,x141002 => if x15 = true then (some (0,0,0,(⟨#[]⟩ : ByteArray),false,0,0,false,0,0,false,0,0,false,([] : List (S59)),3)) else (if x140013 = true then (some (0,0,0,(⟨#[]⟩ : ByteArray),false,0,0,false,0,0,false,0,0,false,([] : List (S59)),21)) else (if (x2.size : Int) > 255 then (some (0,0,0,(⟨#[]⟩ : ByteArray),false,0,0,false,0,0,false,0,0,false,([] : List (S59)),9)) else ((some (([1,((x2.size : Int)) % 256] : List Int) : List Int)).bind fun y143 => (if (strOfNums y143).size + x2.size ≤ 9223372036854775807 then ((option_Put.f k x140014 82 ((strOfNums y143) ++ x2)).bind fun t146 => ((option_Valid.f k t146).bind fun t149 => (if t149 = true then (some (x140000,x140001,x140002,x140003,x140004,x140005,x140006,x140007,x140008,x140009,x141000,x141001,x141002,true,t146,0)) else (some (0,0,0,(⟨#[]⟩ : ByteArray),false,0,0,false,0,0,false,0,0,false,([] : List (S59)),9))))) else (none)))))
def relay_Insert.f (k : Nat) (a0_0 : Int) (a0_1 : Int) (a0_2 : Int) (a0_3 : ByteArray) (a0_4 : Bool) (a0_5 : Int) (a0_6 : Int) (a0_7 : Bool) (a0_8 : Int) (a0_9 : Int) (a0_10 : Bool) (a0_11 : Int) (a0_12 : Int) (a0_13 : Bool) (l0_14 : List (S59)) (a1_0 : Bool) (a1_1 : Int) (a1_2 : Int) (a2 : ByteArray) : Option (Int × Int × Int × ByteArray × Bool × Int × Int × Bool × Int × Int × Bool × Int × Int × Bool × (List (S59)) × Int) := if a1_0 = true then (relay_Insert.j0 k a2 true a0_0 a0_1 a0_2 a0_3 a0_4 a0_5 a0_6 a0_7 a0_8 a0_9 a0_10 a0_11 a0_12 a0_13 l0_14 a1_0 a1_1 a1_2) else ((addr_Valid.f a1_0 a1_1 a1_2).bind fun t142 => (relay_Insert.j0 k a2 (!t142) a0_0 a0_1 a0_2 a0_3 a0_4 a0_5 a0_6 a0_7 a0_8 a0_9 a0_10 a0_11 a0_12 a0_13 l0_14 a1_0 a1_1 a1_2))
theorem relay_Insert.mono_l : ∀ k,(∀ y0 y1 y2 y3 y4 y5 y6 y7 y8 y9 y10 y11 y12 y13 y14 y15 y16 y17 y18 y19,LeO (relay_Insert.j0 k y0 y1 y2 y3 y4 y5 y6 y7 y8 y9 y10 y11 y12 y13 y14 y15 y16 y17 y18 y19) (relay_Insert.j0 (k + 1) y0 y1 y2 y3 y4 y5 y6 y7 y8 y9 y10 y11 y12 y13 y14 y15 y16 y17 y18 y19))
 | 0 => fun _ _ _ _ _ _ _ _ _ _ _ _ _ _ _ _ _ _ _ _ r h => by simp [relay_Insert.j0] at h
 | k + 1 => by
  have ih0 := relay_Insert.mono_l k
  ·intro y0 y1 y2 y3 y4 y5 y6 y7 y8 y9 y10 y11 y12 y13 y14 y15 y16 y17 y18 y19
   unfold relay_Insert.j0
   repeat' first
   | (with_reducible exact ih0 _ _ _ _ _ _ _ _ _ _ _ _ _ _ _ _ _ _ _ _)
   | (with_reducible exact option_Put.mono _ _ _ _)
   | (with_reducible exact option_Valid.mono _ _)
   | (with_reducible exact LeO.refl _)
   | (with_reducible exact LeO.none _)
   | (with_reducible refine LeO.ite ?_ ?_)
   | (with_reducible refine LeO.bind ?_ (fun _ => ?_))
theorem relay_Insert.mono : ∀ a0 a1 a2 a3 a4 a5 a6 a7 a8 a9 a10 a11 a12 a13 a14 a15 a16 a17 a18 k,LeO (relay_Insert.f k a0 a1 a2 a3 a4 a5 a6 a7 a8 a9 a10 a11 a12 a13 a14 a15 a16 a17 a18) (relay_Insert.f (k + 1) a0 a1 a2 a3 a4 a5 a6 a7 a8 a9 a10 a11 a12 a13 a14 a15 a16 a17 a18) := by
 intro a0 a1 a2 a3 a4 a5 a6 a7 a8 a9 a10 a11 a12 a13 a14 a15 a16 a17 a18 k
 have ih0 := relay_Insert.mono_l k
 unfold relay_Insert.f
 repeat' first
   | (with_reducible exact ih0 _ _ _ _ _ _ _ _ _ _ _ _ _ _ _ _ _ _ _ _)
   | (with_reducible exact option_Put.mono _ _ _ _)
   | (with_reducible exact option_Valid.mono _ _)
   | (with_reducible exact LeO.refl _)
   | (with_reducible exact LeO.none _)
   | (with_reducible refine LeO.ite ?_ ?_)
   | (with_reducible refine LeO.bind ?_ (fun _ => ?_))
mutual
def ddiref36_Same.j0 : Nat → Bool → Int → Int → Int → ByteArray → Bool → Int → Int → Bool → Int → Int → Bool → Int → Int → Bool → List (S59) → Int → Int → Int → ByteArray → Bool → Int → Int → Bool → Int → Int → Bool → Int → Int → Bool → List (S59) → Option (Bool)
 | 0,_,_,_,_,_,_,_,_,_,_,_,_,_,_,_,_,_,_,_,_,_,_,_,_,_,_,_,_,_,_,_ => none
 | k + 1,x68,x151000,x151001,x151002,x151003,x151004,x151005,x151006,x151007,x151008,x151009,x151010,x151011,x151012,x151013,x151014,x152000,x152001,x152002,x152003,x152004,x152005,x152006,x152007,x152008,x152009,x152010,x152011,x152012,x152013,x152014 => if x68 = true then (some false) else (ddiref36_Same.l0 k 0 x151000 x151001 x151002 x151003 x151004 x151005 x151006 x151007 x151008 x151009 x151010 x151011 x151012 x151013 x151014 x152000 x152001 x152002 x152003 x152004 x152005 x152006 x152007 x152008 x152009 x152010 x152011 x152012 x152013 x152014)
def ddiref36_Same.l0 : Nat → Int → Int → Int → Int → ByteArray → Bool → Int → Int → Bool → Int → Int → Bool → Int → Int → Bool → List (S59) → Int → Int → Int → ByteArray → Bool → Int → Int → Bool → Int → Int → Bool → Int → Int → Bool → List (S59) → Option (Bool)
 | 0,_,_,_,_,_,_,_,_,_,_,_,_,_,_,_,_,_,_,_,_,_,_,_,_,_,_,_,_,_,_,_ => none
 | k + 1,x5,x151000,x151001,x151002,x151003,x151004,x151005,x151006,x151007,x151008,x151009,x151010,x151011,x151012,x151013,x151014,x152000,x152001,x152002,x152003,x152004,x152005,x152006,x152007,x152008,x152009,x152010,x152011,x152012,x152013,x152014 => if x5 < (x151014.length : Int) then (if 0 ≤ x5 then (if x5 < (x152014.length : Int) then (if (!(((rd_T59 x151014 x5).f0) == ((rd_T59 x152014 x5).f0)) || (!((((rd_T59 x151014 x5).f1).toList) == (((rd_T59 x152014 x5).f1).toList)))) = true then (some false) else (ddiref36_Same.l0 k (wrap64 (x5 + 1)) x151000 x151001 x151002 x151003 x151004 x151005 x151006 x151007 x151008 x151009 x151010 x151011 x151012 x151013 x151014 x152000 x152001 x152002 x152003 x152004 x152005 x152006 x152007 x152008 x152009 x152010 x152011 x152012 x152013 x152014)) else (none)) else (none)) else (some true)
end
def ddiref36_Same.f (k : Nat) (a0_0 : Int) (a0_1 : Int) (a0_2 : Int) (a0_3 : ByteArray) (a0_4 : Bool) (a0_5 : Int) (a0_6 : Int) (a0_7 : Bool) (a0_8 : Int) (a0_9 : Int) (a0_10 : Bool) (a0_11 : Int) (a0_12 : Int) (a0_13 : Bool) (l0_14 : List (S59)) (a1_0 : Int) (a1_1 : Int) (a1_2 : Int) (a1_3 : ByteArray) (a1_4 : Bool) (a1_5 : Int) (a1_6 : Int) (a1_7 : Bool) (a1_8 : Int) (a1_9 : Int) (a1_10 : Bool) (a1_11 : Int) (a1_12 : Int) (a1_13 : Bool) (l1_14 : List (S59)) : Option (Bool) := if a0_0 = a1_0 then (if a0_1 = a1_1 then (if a0_2 = a1_2 then (if a0_3.toList = a1_3.toList then (if (!(a0_4 == a1_4) || (!(a0_5 == a1_5) || (!(a0_6 == a1_6)))) = true then (ddiref36_Same.j0 k true a0_0 a0_1 a0_2 a0_3 a0_4 a0_5 a0_6 a0_7 a0_8 a0_9 a0_10 a0_11 a0_12 a0_13 l0_14 a1_0 a1_1 a1_2 a1_3 a1_4 a1_5 a1_6 a1_7 a1_8 a1_9 a1_10 a1_11 a1_12 a1_13 l1_14) else (if (!(a0_7 == a1_7) || (!(a0_8 == a1_8) || (!(a0_9 == a1_9)))) = true then (ddiref36_Same.j0 k true a0_0 a0_1 a0_2 a0_3 a0_4 a0_5 a0_6 a0_7 a0_8 a0_9 a0_10 a0_11 a0_12 a0_13 l0_14 a1_0 a1_1 a1_2 a1_3 a1_4 a1_5 a1_6 a1_7 a1_8 a1_9 a1_10 a1_11 a1_12 a1_13 l1_14) else (if (!(a0_10 == a1_10) || (!(a0_11 == a1_11) || (!(a0_12 == a1_12)))) = true then (ddiref36_Same.j0 k true a0_0 a0_1 a0_2 a0_3 a0_4 a0_5 a0_6 a0_7 a0_8 a0_9 a0_10 a0_11 a0_12 a0_13 l0_14 a1_0 a1_1 a1_2 a1_3 a1_4 a1_5 a1_6 a1_7 a1_8 a1_9 a1_10 a1_11 a1_12 a1_13 l1_14) else (if (a0_13 != a1_13) = true then (ddiref36_Same.j0 k true a0_0 a0_1 a0_2 a0_3 a0_4 a0_5 a0_6 a0_7 a0_8 a0_9 a0_10 a0_11 a0_12 a0_13 l0_14 a1_0 a1_1 a1_2 a1_3 a1_4 a1_5 a1_6 a1_7 a1_8 a1_9 a1_10 a1_11 a1_12 a1_13 l1_14) else (ddiref36_Same.j0 k ((l0_14.length : Int) != (l1_14.length : Int)) a0_0 a0_1 a0_2 a0_3 a0_4 a0_5 a0_6 a0_7 a0_8 a0_9 a0_10 a0_11 a0_12 a0_13 l0_14 a1_0 a1_1 a1_2 a1_3 a1_4 a1_5 a1_6 a1_7 a1_8 a1_9 a1_10 a1_11 a1_12 a1_13 l1_14))))) else (ddiref36_Same.j0 k true a0_0 a0_1 a0_2 a0_3 a0_4 a0_5 a0_6 a0_7 a0_8 a0_9 a0_10 a0_11 a0_12 a0_13 l0_14 a1_0 a1_1 a1_2 a1_3 a1_4 a1_5 a1_6 a1_7 a1_8 a1_9 a1_10 a1_11 a1_12 a1_13 l1_14)) else (ddiref36_Same.j0 k true a0_0 a0_1 a0_2 a0_3 a0_4 a0_5 a0_6 a0_7 a0_8 a0_9 a0_10 a0_11 a0_12 a0_13 l0_14 a1_0 a1_1 a1_2 a1_3 a1_4 a1_5 a1_6 a1_7 a1_8 a1_9 a1_10 a1_11 a1_12 a1_13 l1_14)) else (ddiref36_Same.j0 k true a0_0 a0_1 a0_2 a0_3 a0_4 a0_5 a0_6 a0_7 a0_8 a0_9 a0_10 a0_11 a0_12 a0_13 l0_14 a1_0 a1_1 a1_2 a1_3 a1_4 a1_5 a1_6 a1_7 a1_8 a1_9 a1_10 a1_11 a1_12 a1_13 l1_14)) else (ddiref36_Same.j0 k true a0_0 a0_1 a0_2 a0_3 a0_4 a0_5 a0_6 a0_7 a0_8 a0_9 a0_10 a0_11 a0_12 a0_13 l0_14 a1_0 a1_1 a1_2 a1_3 a1_4 a1_5 a1_6 a1_7 a1_8 a1_9 a1_10 a1_11 a1_12 a1_13 l1_14)
theorem ddiref36_Same.mono_l : ∀ k,(∀ y0 y1 y2 y3 y4 y5 y6 y7 y8 y9 y10 y11 y12 y13 y14 y15 y16 y17 y18 y19 y20 y21 y22 y23 y24 y25 y26 y27 y28 y29 y30,LeO (ddiref36_Same.j0 k y0 y1 y2 y3 y4 y5 y6 y7 y8 y9 y10 y11 y12 y13 y14 y15 y16 y17 y18 y19 y20 y21 y22 y23 y24 y25 y26 y27 y28 y29 y30) (ddiref36_Same.j0 (k + 1) y0 y1 y2 y3 y4 y5 y6 y7 y8 y9 y10 y11 y12 y13 y14 y15 y16 y17 y18 y19 y20 y21 y22 y23 y24 y25 y26 y27 y28 y29 y30)) ∧ (∀ y0 y1 y2 y3 y4 y5 y6 y7 y8 y9 y10 y11 y12 y13 y14 y15 y16 y17 y18 y19 y20 y21 y22 y23 y24 y25 y26 y27 y28 y29 y30,LeO (ddiref36_Same.l0 k y0 y1 y2 y3 y4 y5 y6 y7 y8 y9 y10 y11 y12 y13 y14 y15 y16 y17 y18 y19 y20 y21 y22 y23 y24 y25 y26 y27 y28 y29 y30) (ddiref36_Same.l0 (k + 1) y0 y1 y2 y3 y4 y5 y6 y7 y8 y9 y10 y11 y12 y13 y14 y15 y16 y17 y18 y19 y20 y21 y22 y23 y24 y25 y26 y27 y28 y29 y30))
 | 0 => ⟨fun _ _ _ _ _ _ _ _ _ _ _ _ _ _ _ _ _ _ _ _ _ _ _ _ _ _ _ _ _ _ _ r h => by simp [ddiref36_Same.j0] at h,fun _ _ _ _ _ _ _ _ _ _ _ _ _ _ _ _ _ _ _ _ _ _ _ _ _ _ _ _ _ _ _ r h => by simp [ddiref36_Same.l0] at h⟩
 | k + 1 => by
  obtain ⟨ih0,ih1⟩ := ddiref36_Same.mono_l k
  refine ⟨?_,?_⟩
  ·intro y0 y1 y2 y3 y4 y5 y6 y7 y8 y9 y10 y11 y12 y13 y14 y15 y16 y17 y18 y19 y20 y21 y22 y23 y24 y25 y26 y27 y28 y29 y30
   unfold ddiref36_Same.j0
   repeat' first
   | (with_reducible exact ih0 _ _ _ _ _ _ _ _ _ _ _ _ _ _ _ _ _ _ _ _ _ _ _ _ _ _ _ _ _ _ _)
   | (with_reducible exact ih1 _ _ _ _ _ _ _ _ _ _ _ _ _ _ _ _ _ _ _ _ _ _ _ _ _ _ _ _ _ _ _)
   | (with_reducible exact LeO.refl _)
   | (with_reducible exact LeO.none _)
   | (with_reducible refine LeO.ite ?_ ?_)
   | (with_reducible refine LeO.bind ?_ (fun _ => ?_))
  ·intro y0 y1 y2 y3 y4 y5 y6 y7 y8 y9 y10 y11 y12 y13 y14 y15 y16 y17 y18 y19 y20 y21 y22 y23 y24 y25 y26 y27 y28 y29 y30
   unfold ddiref36_Same.l0
   repeat' first
   | (with_reducible exact ih0 _ _ _ _ _ _ _ _ _ _ _ _ _ _ _ _ _ _ _ _ _ _ _ _ _ _ _ _ _ _ _)
   | (with_reducible exact ih1 _ _ _ _ _ _ _ _ _ _ _ _ _ _ _ _ _ _ _ _ _ _ _ _ _ _ _ _ _ _ _)
   | (with_reducible exact LeO.refl _)
   | (with_reducible exact LeO.none _)
   | (with_reducible refine LeO.ite ?_ ?_)
   | (with_reducible refine LeO.bind ?_ (fun _ => ?_))
theorem ddiref36_Same.mono : ∀ a0 a1 a2 a3 a4 a5 a6 a7 a8 a9 a10 a11 a12 a13 a14 a15 a16 a17 a18 a19 a20 a21 a22 a23 a24 a25 a26 a27 a28 a29 k,LeO (ddiref36_Same.f k a0 a1 a2 a3 a4 a5 a6 a7 a8 a9 a10 a11 a12 a13 a14 a15 a16 a17 a18 a19 a20 a21 a22 a23 a24 a25 a26 a27 a28 a29) (ddiref36_Same.f (k + 1) a0 a1 a2 a3 a4 a5 a6 a7 a8 a9 a10 a11 a12 a13 a14 a15 a16 a17 a18 a19 a20 a21 a22 a23 a24 a25 a26 a27 a28 a29) := by
 intro a0 a1 a2 a3 a4 a5 a6 a7 a8 a9 a10 a11 a12 a13 a14 a15 a16 a17 a18 a19 a20 a21 a22 a23 a24 a25 a26 a27 a28 a29 k
 obtain ⟨ih0,ih1⟩ := ddiref36_Same.mono_l k
 unfold ddiref36_Same.f
 repeat' first
   | (with_reducible exact ih0 _ _ _ _ _ _ _ _ _ _ _ _ _ _ _ _ _ _ _ _ _ _ _ _ _ _ _ _ _ _ _)
   | (with_reducible exact ih1 _ _ _ _ _ _ _ _ _ _ _ _ _ _ _ _ _ _ _ _ _ _ _ _ _ _ _ _ _ _ _)
   | (with_reducible exact LeO.refl _)
   | (with_reducible exact LeO.none _)
   | (with_reducible refine LeO.ite ?_ ?_)
   | (with_reducible refine LeO.bind ?_ (fun _ => ?_))
def relay_Strip.l0 : Nat → List (S59) → List (S59) → Int → Int → Int → Int → Int → ByteArray → Bool → Int → Int → Bool → Int → Int → Bool → Int → Int → Bool → List (S59) → Option (Int × Int × Int × ByteArray × Bool × Int × Int × Bool × Int × Int × Bool × Int × Int × Bool × (List (S59)))
 | 0,_,_,_,_,_,_,_,_,_,_,_,_,_,_,_,_,_,_,_ => none
 | k + 1,x3,x7,x8,x9,x155000,x155001,x155002,x155003,x155004,x155005,x155006,x155007,x155008,x155009,x155010,x155011,x155012,x155013,x155014 => if x9 < x8 then (if 0 ≤ x9 then (if x9 < (x7.length : Int) then (if ((rd_T59 x7 x9).f0) = 82 then (relay_Strip.l0 k x3 x7 x8 (wrap64 (x9 + 1)) x155000 x155001 x155002 x155003 x155004 x155005 x155006 x155007 x155008 x155009 x155010 x155011 x155012 x155013 x155014) else (if x3.length < 5864062014805 then (relay_Strip.l0 k (x3 ++ [(⟨(rd_T59 x7 x9).f0,(rd_T59 x7 x9).f1⟩ : S59)]) x7 x8 (wrap64 (x9 + 1)) x155000 x155001 x155002 x155003 x155004 x155005 x155006 x155007 x155008 x155009 x155010 x155011 x155012 x155013 x155014) else (none))) else (none)) else (none)) else (some (x155000,x155001,x155002,x155003,x155004,x155005,x155006,x155007,x155008,x155009,false,0,0,false,x3))
def relay_Strip.f (k : Nat) (a0_0 : Int) (a0_1 : Int) (a0_2 : Int) (a0_3 : ByteArray) (a0_4 : Bool) (a0_5 : Int) (a0_6 : Int) (a0_7 : Bool) (a0_8 : Int) (a0_9 : Int) (a0_10 : Bool) (a0_11 : Int) (a0_12 : Int) (a0_13 : Bool) (l0_14 : List (S59)) : Option (Int × Int × Int × ByteArray × Bool × Int × Int × Bool × Int × Int × Bool × Int × Int × Bool × (List (S59))) := relay_Strip.l0 k ([] : List (S59)) l0_14 (l0_14.length : Int) 0 a0_0 a0_1 a0_2 a0_3 a0_4 a0_5 a0_6 a0_7 a0_8 a0_9 a0_10 a0_11 a0_12 a0_13 l0_14
theorem relay_Strip.mono_l : ∀ k,(∀ y0 y1 y2 y3 y4 y5 y6 y7 y8 y9 y10 y11 y12 y13 y14 y15 y16 y17 y18,LeO (relay_Strip.l0 k y0 y1 y2 y3 y4 y5 y6 y7 y8 y9 y10 y11 y12 y13 y14 y15 y16 y17 y18) (relay_Strip.l0 (k + 1) y0 y1 y2 y3 y4 y5 y6 y7 y8 y9 y10 y11 y12 y13 y14 y15 y16 y17 y18))
 | 0 => fun _ _ _ _ _ _ _ _ _ _ _ _ _ _ _ _ _ _ _ r h => by simp [relay_Strip.l0] at h
 | k + 1 => by
  have ih0 := relay_Strip.mono_l k
  ·intro y0 y1 y2 y3 y4 y5 y6 y7 y8 y9 y10 y11 y12 y13 y14 y15 y16 y17 y18
   unfold relay_Strip.l0
   repeat' first
   | (with_reducible exact ih0 _ _ _ _ _ _ _ _ _ _ _ _ _ _ _ _ _ _ _)
   | (with_reducible exact LeO.refl _)
   | (with_reducible exact LeO.none _)
   | (with_reducible refine LeO.ite ?_ ?_)
   | (with_reducible refine LeO.bind ?_ (fun _ => ?_))
theorem relay_Strip.mono : ∀ a0 a1 a2 a3 a4 a5 a6 a7 a8 a9 a10 a11 a12 a13 a14 k,LeO (relay_Strip.f k a0 a1 a2 a3 a4 a5 a6 a7 a8 a9 a10 a11 a12 a13 a14) (relay_Strip.f (k + 1) a0 a1 a2 a3 a4 a5 a6 a7 a8 a9 a10 a11 a12 a13 a14) := by
 intro a0 a1 a2 a3 a4 a5 a6 a7 a8 a9 a10 a11 a12 a13 a14 k
 have ih0 := relay_Strip.mono_l k
 unfold relay_Strip.f
 repeat' first
   | (with_reducible exact ih0 _ _ _ _ _ _ _ _ _ _ _ _ _ _ _ _ _ _ _)
   | (with_reducible exact LeO.refl _)
   | (with_reducible exact LeO.none _)
   | (with_reducible refine LeO.ite ?_ ?_)
   | (with_reducible refine LeO.bind ?_ (fun _ => ?_))
def prefix_length.f (a0_0 : Bool) (a0_1 : Int) (a0_2 : Int) : Option (Int) := if a0_0 = true then (some 128) else (some 32)
def prefix_later.f (a0 : Bool) (a1 : Int) : Option (Int × Int) := if a0 = true then (if a1 ≥ 64 then (if 0 ≤ (IntKind.u64.wrap (wrap64 (128 - a1))) then (some (0,IntKind.u64.wrap ((shl .u64 1 (IntKind.u64.wrap (wrap64 (128 - a1)))) - 1))) else (none)) else (if 0 ≤ (IntKind.u64.wrap (wrap64 (64 - a1))) then (some (IntKind.u64.wrap ((shl .u64 1 (IntKind.u64.wrap (wrap64 (64 - a1)))) - 1),18446744073709551615)) else (none))) else (if 0 ≤ (IntKind.u64.wrap (wrap64 (32 - a1))) then (some (0,IntKind.u64.wrap ((shl .u64 1 (IntKind.u64.wrap (wrap64 (32 - a1)))) - 1))) else (none))
def prefix_Valid.j0 : Nat → Bool → Bool → Int → Int → Int → Option (Bool)
 | 0,_,_,_,_,_ => none
 | k + 1,x21,x163000,x163001,x163002,x163003 => if x21 = true then (some false) else ((prefix_later.f x163000 x163003).bind fun bt165 => (if (Go.bits .and .u64 x163001 bt165.1) = 0 then (some ((Go.bits .and .u64 x163002 bt165.2) == 0)) else (some false)))
def prefix_Valid.f (k : Nat) (a0_0 : Bool) (a0_1 : Int) (a0_2 : Int) (a0_3 : Int) : Option (Bool) := (addr_Valid.f a0_0 a0_1 a0_2).bind fun t163 => (if t163 = true then (if a0_3 < 0 then (prefix_Valid.j0 k true a0_0 a0_1 a0_2 a0_3) else ((prefix_length.f a0_0 a0_1 a0_2).bind fun t164 => (prefix_Valid.j0 k (decide (a0_3 > t164)) a0_0 a0_1 a0_2 a0_3))) else (prefix_Valid.j0 k true a0_0 a0_1 a0_2 a0_3))
theorem prefix_Valid.mono_l : ∀ k,(∀ y0 y1 y2 y3 y4,LeO (prefix_Valid.j0 k y0 y1 y2 y3 y4) (prefix_Valid.j0 (k + 1) y0 y1 y2 y3 y4))
 | 0 => fun _ _ _ _ _ r h => by simp [prefix_Valid.j0] at h
 | k + 1 => by
  have ih0 := prefix_Valid.mono_l k
  ·intro y0 y1 y2 y3 y4
   unfold prefix_Valid.j0
   repeat' first
   | (with_reducible exact ih0 _ _ _ _ _)
   | (with_reducible exact LeO.refl _)
   | (with_reducible exact LeO.none _)
   | (with_reducible refine LeO.ite ?_ ?_)
   | (with_reducible refine LeO.bind ?_ (fun _ => ?_))
theorem prefix_Valid.mono : ∀ a0 a1 a2 a3 k,LeO (prefix_Valid.f k a0 a1 a2 a3) (prefix_Valid.f (k + 1) a0 a1 a2 a3) := by
 intro a0 a1 a2 a3 k
 have ih0 := prefix_Valid.mono_l k
 unfold prefix_Valid.f
 repeat' first
   | (with_reducible exact ih0 _ _ _ _ _)
   | (with_reducible exact LeO.refl _)
   | (with_reducible exact LeO.none _)
   | (with_reducible refine LeO.ite ?_ ?_)
   | (with_reducible refine LeO.bind ?_ (fun _ => ?_))
def prefix_Of.j0 : Nat → Int → Bool → Bool → Int → Int → Option (Bool × Int × Int × Int × Bool)
 | 0,_,_,_,_,_ => none
 | k + 1,x1,x20,x168000,x168001,x168002 => if x20 = true then (some (false,0,0,0,false)) else ((prefix_later.f x168000 x1).bind fun bt171 => (some (x168000,Go.bits .andNot .u64 x168001 bt171.1,Go.bits .andNot .u64 x168002 bt171.2,x1,true)))
def prefix_Of.f (k : Nat) (a0_0 : Bool) (a0_1 : Int) (a0_2 : Int) (a1 : Int) : Option (Bool × Int × Int × Int × Bool) := (addr_Valid.f a0_0 a0_1 a0_2).bind fun t169 => (if t169 = true then (if a1 < 0 then (prefix_Of.j0 k a1 true a0_0 a0_1 a0_2) else ((prefix_length.f a0_0 a0_1 a0_2).bind fun t170 => (prefix_Of.j0 k a1 (decide (a1 > t170)) a0_0 a0_1 a0_2))) else (prefix_Of.j0 k a1 true a0_0 a0_1 a0_2))
theorem prefix_Of.mono_l : ∀ k,(∀ y0 y1 y2 y3 y4,LeO (prefix_Of.j0 k y0 y1 y2 y3 y4) (prefix_Of.j0 (k + 1) y0 y1 y2 y3 y4))
 | 0 => fun _ _ _ _ _ r h => by simp [prefix_Of.j0] at h
 | k + 1 => by
  have ih0 := prefix_Of.mono_l k
  ·intro y0 y1 y2 y3 y4
   unfold prefix_Of.j0
   repeat' first
   | (with_reducible exact ih0 _ _ _ _ _)
   | (with_reducible exact LeO.refl _)
   | (with_reducible exact LeO.none _)
   | (with_reducible refine LeO.ite ?_ ?_)
   | (with_reducible refine LeO.bind ?_ (fun _ => ?_))
theorem prefix_Of.mono : ∀ a0 a1 a2 a3 k,LeO (prefix_Of.f k a0 a1 a2 a3) (prefix_Of.f (k + 1) a0 a1 a2 a3) := by
 intro a0 a1 a2 a3 k
 have ih0 := prefix_Of.mono_l k
 unfold prefix_Of.f
 repeat' first
   | (with_reducible exact ih0 _ _ _ _ _)
   | (with_reducible exact LeO.refl _)
   | (with_reducible exact LeO.none _)
   | (with_reducible refine LeO.ite ?_ ?_)
   | (with_reducible refine LeO.bind ?_ (fun _ => ?_))
def prefix_Contains.j0 : Nat → Bool → Bool → Int → Int → Int → Bool → Int → Int → Option (Bool)
 | 0,_,_,_,_,_,_,_,_ => none
 | k + 1,x17,x174000,x174001,x174002,x174003,x175000,x175001,x175002 => if x17 = true then (some false) else ((prefix_Of.f k x175000 x175001 x175002 x174003).bind fun bt176 => (if bt176.2.2.2.2 = true then (some ((bt176.1 == x174000 && (bt176.2.1 == x174001 && (bt176.2.2.1 == x174002))) && (bt176.2.2.2.1 == x174003))) else (some false)))
def prefix_Contains.f (k : Nat) (a0_0 : Bool) (a0_1 : Int) (a0_2 : Int) (a0_3 : Int) (a1_0 : Bool) (a1_1 : Int) (a1_2 : Int) : Option (Bool) := (prefix_Valid.f k a0_0 a0_1 a0_2 a0_3).bind fun t175 => (if t175 = true then (prefix_Contains.j0 k (a0_0 != a1_0) a0_0 a0_1 a0_2 a0_3 a1_0 a1_1 a1_2) else (prefix_Contains.j0 k true a0_0 a0_1 a0_2 a0_3 a1_0 a1_1 a1_2))
theorem prefix_Contains.mono_l : ∀ k,(∀ y0 y1 y2 y3 y4 y5 y6 y7,LeO (prefix_Contains.j0 k y0 y1 y2 y3 y4 y5 y6 y7) (prefix_Contains.j0 (k + 1) y0 y1 y2 y3 y4 y5 y6 y7))
 | 0 => fun _ _ _ _ _ _ _ _ r h => by simp [prefix_Contains.j0] at h
 | k + 1 => by
  have ih0 := prefix_Contains.mono_l k
  ·intro y0 y1 y2 y3 y4 y5 y6 y7
   unfold prefix_Contains.j0
   repeat' first
   | (with_reducible exact ih0 _ _ _ _ _ _ _ _)
   | (with_reducible exact prefix_Of.mono _ _ _ _ _)
   | (with_reducible exact prefix_Valid.mono _ _ _ _ _)
   | (with_reducible exact LeO.refl _)
   | (with_reducible exact LeO.none _)
   | (with_reducible refine LeO.ite ?_ ?_)
   | (with_reducible refine LeO.bind ?_ (fun _ => ?_))
theorem prefix_Contains.mono : ∀ a0 a1 a2 a3 a4 a5 a6 k,LeO (prefix_Contains.f k a0 a1 a2 a3 a4 a5 a6) (prefix_Contains.f (k + 1) a0 a1 a2 a3 a4 a5 a6) := by
 intro a0 a1 a2 a3 a4 a5 a6 k
 have ih0 := prefix_Contains.mono_l k
 unfold prefix_Contains.f
 repeat' first
   | (with_reducible exact ih0 _ _ _ _ _ _ _ _)
   | (with_reducible exact prefix_Of.mono _ _ _ _ _)
   | (with_reducible exact prefix_Valid.mono _ _ _ _ _)
   | (with_reducible exact LeO.refl _)
   | (with_reducible exact LeO.none _)
   | (with_reducible refine LeO.ite ?_ ?_)
   | (with_reducible refine LeO.bind ?_ (fun _ => ?_))
def prefix_Bounds.f (k : Nat) (a0_0 : Bool) (a0_1 : Int) (a0_2 : Int) (a0_3 : Int) : Option (Bool × Int × Int × Bool × Int × Int × Bool) := (prefix_Valid.f k a0_0 a0_1 a0_2 a0_3).bind fun t184 => (if t184 = true then ((prefix_later.f a0_0 a0_3).bind fun bt185 => (some (a0_0,a0_1,a0_2,a0_0,Go.bits .or .u64 a0_1 bt185.1,Go.bits .or .u64 a0_2 bt185.2,true))) else (some (false,0,0,false,0,0,false)))
theorem prefix_Bounds.mono : ∀ a0 a1 a2 a3 k,LeO (prefix_Bounds.f k a0 a1 a2 a3) (prefix_Bounds.f (k + 1) a0 a1 a2 a3) := by
 intro a0 a1 a2 a3 k
 unfold prefix_Bounds.f
 repeat' first
   | (with_reducible exact prefix_Valid.mono _ _ _ _ _)
   | (with_reducible exact LeO.refl _)
   | (with_reducible exact LeO.none _)
   | (with_reducible refine LeO.ite ?_ ?_)
   | (with_reducible refine LeO.bind ?_ (fun _ => ?_))
def pool_leased.f (k : Nat) (a0_0 : Bool) (a0_1 : Int) (a0_2 : Int) (a0_3 : Int) (a1_0 : Bool) (a1_1 : Int) (a1_2 : Int) : Option (Bool) := (prefix_Bounds.f k a0_0 a0_1 a0_2 a0_3).bind fun bt190 => ((prefix_Contains.f k a0_0 a0_1 a0_2 a0_3 a1_0 a1_1 a1_2).bind fun t198 => (if t198 = true then (if (!(a1_0 == bt190.1) || (!(a1_1 == bt190.2.1) || (!(a1_2 == bt190.2.2.1)))) = true then (some (!(a1_0 == bt190.2.2.2.1) || (!(a1_1 == bt190.2.2.2.2.1) || (!(a1_2 == bt190.2.2.2.2.2.1))))) else (some false)) else (some false)))
theorem pool_leased.mono : ∀ a0 a1 a2 a3 a4 a5 a6 k,LeO (pool_leased.f k a0 a1 a2 a3 a4 a5 a6) (pool_leased.f (k + 1) a0 a1 a2 a3 a4 a5 a6) := by
 intro a0 a1 a2 a3 a4 a5 a6 k
 unfold pool_leased.f
 repeat' first
   | (with_reducible exact prefix_Bounds.mono _ _ _ _ _)
   | (with_reducible exact prefix_Contains.mono _ _ _ _ _ _ _ _)
   | (with_reducible exact LeO.refl _)
   | (with_reducible exact LeO.none _)
   | (with_reducible refine LeO.ite ?_ ?_)
   | (with_reducible refine LeO.bind ?_ (fun _ => ?_))
def addr_number.f (a0 : Int) (a1 : Int) : Option (Int) := if a0 < a1 then (some (-1)) else (if a0 > a1 then (some 1) else (some 0))
def addr_Compare.j0 : Nat → Bool → Bool → Int → Int → Bool → Int → Int → Option (Int)
 | 0,_,_,_,_,_,_,_ => none
 | k + 1,x5,x200000,x200001,x200002,x201000,x201001,x201002 => if x5 = true then (some (-1)) else (if (x200000 != x201000) = true then (some 1) else (if x200001 = x201001 then ((addr_number.f x200002 x201002).bind fun t202 => (some t202)) else ((addr_number.f x200001 x201001).bind fun t201 => (some t201))))
def addr_Compare.f (k : Nat) (a0_0 : Bool) (a0_1 : Int) (a0_2 : Int) (a1_0 : Bool) (a1_1 : Int) (a1_2 : Int) : Option (Int) := if (a0_0 != a1_0) = true then (addr_Compare.j0 k a1_0 a0_0 a0_1 a0_2 a1_0 a1_1 a1_2) else (addr_Compare.j0 k false a0_0 a0_1 a0_2 a1_0 a1_1 a1_2)
theorem addr_Compare.mono_l : ∀ k,(∀ y0 y1 y2 y3 y4 y5 y6,LeO (addr_Compare.j0 k y0 y1 y2 y3 y4 y5 y6) (addr_Compare.j0 (k + 1) y0 y1 y2 y3 y4 y5 y6))
 | 0 => fun _ _ _ _ _ _ _ r h => by simp [addr_Compare.j0] at h
 | k + 1 => by
  have ih0 := addr_Compare.mono_l k
  ·intro y0 y1 y2 y3 y4 y5 y6
   unfold addr_Compare.j0
   repeat' first
   | (with_reducible exact ih0 _ _ _ _ _ _ _)
   | (with_reducible exact LeO.refl _)
   | (with_reducible exact LeO.none _)
   | (with_reducible refine LeO.ite ?_ ?_)
   | (with_reducible refine LeO.bind ?_ (fun _ => ?_))
theorem addr_Compare.mono : ∀ a0 a1 a2 a3 a4 a5 k,LeO (addr_Compare.f k a0 a1 a2 a3 a4 a5) (addr_Compare.f (k + 1) a0 a1 a2 a3 a4 a5) := by
 intro a0 a1 a2 a3 a4 a5 k
 have ih0 := addr_Compare.mono_l k
 unfold addr_Compare.f
 repeat' first
   | (with_reducible exact ih0 _ _ _ _ _ _ _)
   | (with_reducible exact LeO.refl _)
   | (with_reducible exact LeO.none _)
   | (with_reducible refine LeO.ite ?_ ?_)
   | (with_reducible refine LeO.bind ?_ (fun _ => ?_))
def pool_in.f (k : Nat) (a0_0 : Bool) (a0_1 : Int) (a0_2 : Int) (a0_3 : Bool) (a0_4 : Int) (a0_5 : Int) (a1_0 : Bool) (a1_1 : Int) (a1_2 : Int) : Option (Bool) := (addr_Compare.f k a0_0 a0_1 a0_2 a1_0 a1_1 a1_2).bind fun t205 => (if t205 ≤ 0 then ((addr_Compare.f k a1_0 a1_1 a1_2 a0_3 a0_4 a0_5).bind fun t206 => (some (decide (t206 ≤ 0)))) else (some false))
theorem pool_in.mono : ∀ a0 a1 a2 a3 a4 a5 a6 a7 a8 k,LeO (pool_in.f k a0 a1 a2 a3 a4 a5 a6 a7 a8) (pool_in.f (k + 1) a0 a1 a2 a3 a4 a5 a6 a7 a8) := by
 intro a0 a1 a2 a3 a4 a5 a6 a7 a8 k
 unfold pool_in.f
 repeat' first
   | (with_reducible exact addr_Compare.mono _ _ _ _ _ _ _)
   | (with_reducible exact LeO.refl _)
   | (with_reducible exact LeO.none _)
   | (with_reducible refine LeO.ite ?_ ?_)
   | (with_reducible refine LeO.bind ?_ (fun _ => ?_))
def pool_pools_1.f (k : Nat) (a0_0 : Bool) (a0_1 : Int) (a0_2 : Int) (a0_3 : Bool) (a0_4 : Int) (a0_5 : Int) (a1_0 : Bool) (a1_1 : Int) (a1_2 : Int) (a1_3 : Bool) (a1_4 : Int) (a1_5 : Int) : Option (Bool) := (pool_in.f k a0_0 a0_1 a0_2 a0_3 a0_4 a0_5 a1_0 a1_1 a1_2).bind fun t208 => (if t208 = true then (some true) else ((pool_in.f k a1_0 a1_1 a1_2 a1_3 a1_4 a1_5 a0_0 a0_1 a0_2).bind fun t209 => (some t209)))
theorem pool_pools_1.mono : ∀ a0 a1 a2 a3 a4 a5 a6 a7 a8 a9 a10 a11 k,LeO (pool_pools_1.f k a0 a1 a2 a3 a4 a5 a6 a7 a8 a9 a10 a11) (pool_pools_1.f (k + 1) a0 a1 a2 a3 a4 a5 a6 a7 a8 a9 a10 a11) := by
 intro a0 a1 a2 a3 a4 a5 a6 a7 a8 a9 a10 a11 k
 unfold pool_pools_1.f
 repeat' first
   | (with_reducible exact pool_in.mono _ _ _ _ _ _ _ _ _ _)
   | (with_reducible exact LeO.refl _)
   | (with_reducible exact LeO.none _)
   | (with_reducible refine LeO.ite ?_ ?_)
   | (with_reducible refine LeO.bind ?_ (fun _ => ?_))
def slices_IndexFunc_60.l0 : Nat → List (S75) → Int → Int → Bool → Int → Int → Bool → Int → Int → Option (Int)
 | 0,_,_,_,_,_,_,_,_,_ => none
 | k + 1,x0,x7,x8,x700101000,x700101001,x700101002,x700101003,x700101004,x700101005 => if x8 < x7 then (if 0 ≤ x8 then (if x8 < (x0.length : Int) then ((pool_pools_1.f k ((rd_T75 x0 x8).f0.f0) ((rd_T75 x0 x8).f0.f1) ((rd_T75 x0 x8).f0.f2) ((rd_T75 x0 x8).f1.f0) ((rd_T75 x0 x8).f1.f1) ((rd_T75 x0 x8).f1.f2) x700101000 x700101001 x700101002 x700101003 x700101004 x700101005).bind fun t211 => (if t211 = true then (some x8) else (slices_IndexFunc_60.l0 k x0 x7 (wrap64 (x8 + 1)) x700101000 x700101001 x700101002 x700101003 x700101004 x700101005))) else (none)) else (none)) else (some (-1))
def slices_IndexFunc_60.f (k : Nat) (l0 : List (S75)) (a1_0 : Bool) (a1_1 : Int) (a1_2 : Int) (a1_3 : Bool) (a1_4 : Int) (a1_5 : Int) : Option (Int) := slices_IndexFunc_60.l0 k l0 (l0.length : Int) 0 a1_0 a1_1 a1_2 a1_3 a1_4 a1_5
theorem slices_IndexFunc_60.mono_l : ∀ k,(∀ y0 y1 y2 y3 y4 y5 y6 y7 y8,LeO (slices_IndexFunc_60.l0 k y0 y1 y2 y3 y4 y5 y6 y7 y8) (slices_IndexFunc_60.l0 (k + 1) y0 y1 y2 y3 y4 y5 y6 y7 y8))
 | 0 => fun _ _ _ _ _ _ _ _ _ r h => by simp [slices_IndexFunc_60.l0] at h
 | k + 1 => by
  have ih0 := slices_IndexFunc_60.mono_l k
  ·intro y0 y1 y2 y3 y4 y5 y6 y7 y8
   unfold slices_IndexFunc_60.l0
   repeat' first
   | (with_reducible exact ih0 _ _ _ _ _ _ _ _ _)
   | (with_reducible exact pool_pools_1.mono _ _ _ _ _ _ _ _ _ _ _ _ _)
   | (with_reducible exact LeO.refl _)
   | (with_reducible exact LeO.none _)
   | (with_reducible refine LeO.ite ?_ ?_)
   | (with_reducible refine LeO.bind ?_ (fun _ => ?_))
theorem slices_IndexFunc_60.mono : ∀ a0 a1 a2 a3 a4 a5 a6 k,LeO (slices_IndexFunc_60.f k a0 a1 a2 a3 a4 a5 a6) (slices_IndexFunc_60.f (k + 1) a0 a1 a2 a3 a4 a5 a6) := by
 intro a0 a1 a2 a3 a4 a5 a6 k
 have ih0 := slices_IndexFunc_60.mono_l k
 unfold slices_IndexFunc_60.f
 repeat' first
   | (with_reducible exact ih0 _ _ _ _ _ _ _ _ _)
   | (with_reducible exact pool_pools_1.mono _ _ _ _ _ _ _ _ _ _ _ _ _)
   | (with_reducible exact LeO.refl _)
   | (with_reducible exact LeO.none _)
   | (with_reducible refine LeO.ite ?_ ?_)
   | (with_reducible refine LeO.bind ?_ (fun _ => ?_))
def slices_ContainsFunc_60.f (k : Nat) (l0 : List (S75)) (a1_0 : Bool) (a1_1 : Int) (a1_2 : Int) (a1_3 : Bool) (a1_4 : Int) (a1_5 : Int) : Option (Bool) := (slices_IndexFunc_60.f k l0 a1_0 a1_1 a1_2 a1_3 a1_4 a1_5).bind fun t212 => (some (decide (t212 ≥ 0)))
theorem slices_ContainsFunc_60.mono : ∀ a0 a1 a2 a3 a4 a5 a6 k,LeO (slices_ContainsFunc_60.f k a0 a1 a2 a3 a4 a5 a6) (slices_ContainsFunc_60.f (k + 1) a0 a1 a2 a3 a4 a5 a6) := by
 intro a0 a1 a2 a3 a4 a5 a6 k
 unfold slices_ContainsFunc_60.f
 repeat' first
   | (with_reducible exact slices_IndexFunc_60.mono _ _ _ _ _ _ _ _)
   | (with_reducible exact LeO.refl _)
   | (with_reducible exact LeO.none _)
   | (with_reducible refine LeO.ite ?_ ?_)
   | (with_reducible refine LeO.bind ?_ (fun _ => ?_))
mutual
def pool_pools.l0 : Nat → List (S75) → Int → Int → Bool → Int → Int → Int → ByteArray → List (S75) → List (S81) → List (S59) → Int → Option (Int)
 | 0,_,_,_,_,_,_,_,_,_,_,_,_ => none
 | k + 1,x6,x7,x8,x214000,x214001,x214002,x214003,x214004,x214005,x214006,x214007,x214008 => if x8 < x7 then (if 0 ≤ x8 then (if x8 < (x6.length : Int) then ((pool_leased.f k x214000 x214001 x214002 x214003 ((rd_T75 x6 x8).f0.f0) ((rd_T75 x6 x8).f0.f1) ((rd_T75 x6 x8).f0.f2)).bind fun t216 => (if t216 = true then ((pool_leased.f k x214000 x214001 x214002 x214003 ((rd_T75 x6 x8).f1.f0) ((rd_T75 x6 x8).f1.f1) ((rd_T75 x6 x8).f1.f2)).bind fun t217 => (if t217 = true then ((addr_Compare.f k ((rd_T75 x6 x8).f0.f0) ((rd_T75 x6 x8).f0.f1) ((rd_T75 x6 x8).f0.f2) ((rd_T75 x6 x8).f1.f0) ((rd_T75 x6 x8).f1.f1) ((rd_T75 x6 x8).f1.f2)).bind fun t218 => (pool_pools.j1 k x8 x6 x7 x8 (decide (t218 > 0)) x214000 x214001 x214002 x214003 x214004 x214005 x214006 x214007 x214008 ((rd_T75 x6 x8).f0.f0) ((rd_T75 x6 x8).f0.f1) ((rd_T75 x6 x8).f0.f2) ((rd_T75 x6 x8).f1.f0) ((rd_T75 x6 x8).f1.f1) ((rd_T75 x6 x8).f1.f2))) else (pool_pools.j1 k x8 x6 x7 x8 true x214000 x214001 x214002 x214003 x214004 x214005 x214006 x214007 x214008 ((rd_T75 x6 x8).f0.f0) ((rd_T75 x6 x8).f0.f1) ((rd_T75 x6 x8).f0.f2) ((rd_T75 x6 x8).f1.f0) ((rd_T75 x6 x8).f1.f1) ((rd_T75 x6 x8).f1.f2)))) else (pool_pools.j1 k x8 x6 x7 x8 true x214000 x214001 x214002 x214003 x214004 x214005 x214006 x214007 x214008 ((rd_T75 x6 x8).f0.f0) ((rd_T75 x6 x8).f0.f1) ((rd_T75 x6 x8).f0.f2) ((rd_T75 x6 x8).f1.f0) ((rd_T75 x6 x8).f1.f1) ((rd_T75 x6 x8).f1.f2)))) else (none)) else (none)) else (some 0)
def pool_pools.j1 : Nat → Int → List (S75) → Int → Int → Bool → Bool → Int → Int → Int → ByteArray → List (S75) → List (S81) → List (S59) → Int → Bool → Int → Int → Bool → Int → Int → Option (Int)
 | 0,_,_,_,_,_,_,_,_,_,_,_,_,_,_,_,_,_,_,_,_ => none
 | k + 1,x3,x6,x7,x8,x34,x214000,x214001,x214002,x214003,x214004,x214005,x214006,x214007,x214008,x216000,x216001,x216002,x216003,x216004,x216005 => if x34 = true then (some 3) else (if 0 ≤ x3 then (if x3 ≤ (x214005.length : Int) then ((slices_ContainsFunc_60.f k (x214005.take (x3 : Int).toNat) x216000 x216001 x216002 x216003 x216004 x216005).bind fun t223 => (if t223 = true then (some 24) else (pool_pools.l0 k x6 x7 (wrap64 (x8 + 1)) x214000 x214001 x214002 x214003 x214004 x214005 x214006 x214007 x214008))) else (none)) else (none))
end
def pool_pools.f (k : Nat) (a0_0 : Bool) (a0_1 : Int) (a0_2 : Int) (a0_3 : Int) (a0_4 : ByteArray) (l0_5 : List (S75)) (l0_6 : List (S81)) (l0_7 : List (S59)) (a0_8 : Int) : Option (Int) := pool_pools.l0 k l0_5 (l0_5.length : Int) 0 a0_0 a0_1 a0_2 a0_3 a0_4 l0_5 l0_6 l0_7 a0_8
theorem pool_pools.mono_l : ∀ k,(∀ y0 y1 y2 y3 y4 y5 y6 y7 y8 y9 y10 y11,LeO (pool_pools.l0 k y0 y1 y2 y3 y4 y5 y6 y7 y8 y9 y10 y11) (pool_pools.l0 (k + 1) y0 y1 y2 y3 y4 y5 y6 y7 y8 y9 y10 y11)) ∧ (∀ y0 y1 y2 y3 y4 y5 y6 y7 y8 y9 y10 y11 y12 y13 y14 y15 y16 y17 y18 y19,LeO (pool_pools.j1 k y0 y1 y2 y3 y4 y5 y6 y7 y8 y9 y10 y11 y12 y13 y14 y15 y16 y17 y18 y19) (pool_pools.j1 (k + 1) y0 y1 y2 y3 y4 y5 y6 y7 y8 y9 y10 y11 y12 y13 y14 y15 y16 y17 y18 y19))
 | 0 => ⟨fun _ _ _ _ _ _ _ _ _ _ _ _ r h => by simp [pool_pools.l0] at h,fun _ _ _ _ _ _ _ _ _ _ _ _ _ _ _ _ _ _ _ _ r h => by simp [pool_pools.j1] at h⟩
 | k + 1 => by
  obtain ⟨ih0,ih1⟩ := pool_pools.mono_l k
  refine ⟨?_,?_⟩
  ·intro y0 y1 y2 y3 y4 y5 y6 y7 y8 y9 y10 y11
   unfold pool_pools.l0
   repeat' first
   | (with_reducible exact ih0 _ _ _ _ _ _ _ _ _ _ _ _)
   | (with_reducible exact ih1 _ _ _ _ _ _ _ _ _ _ _ _ _ _ _ _ _ _ _ _)
   | (with_reducible exact addr_Compare.mono _ _ _ _ _ _ _)
   | (with_reducible exact pool_leased.mono _ _ _ _ _ _ _ _)
   | (with_reducible exact slices_ContainsFunc_60.mono _ _ _ _ _ _ _ _)
   | (with_reducible exact LeO.refl _)
   | (with_reducible exact LeO.none _)
   | (with_reducible refine LeO.ite ?_ ?_)
   | (with_reducible refine LeO.bind ?_ (fun _ => ?_))
  ·intro y0 y1 y2 y3 y4 y5 y6 y7 y8 y9 y10 y11 y12 y13 y14 y15 y16 y17 y18 y19
   unfold pool_pools.j1
   repeat' first
   | (with_reducible exact ih0 _ _ _ _ _ _ _ _ _ _ _ _)
   | (with_reducible exact ih1 _ _ _ _ _ _ _ _ _ _ _ _ _ _ _ _ _ _ _ _)
   | (with_reducible exact addr_Compare.mono _ _ _ _ _ _ _)
   | (with_reducible exact pool_leased.mono _ _ _ _ _ _ _ _)
   | (with_reducible exact slices_ContainsFunc_60.mono _ _ _ _ _ _ _ _)
   | (with_reducible exact LeO.refl _)
   | (with_reducible exact LeO.none _)
   | (with_reducible refine LeO.ite ?_ ?_)
   | (with_reducible refine LeO.bind ?_ (fun _ => ?_))
theorem pool_pools.mono : ∀ a0 a1 a2 a3 a4 a5 a6 a7 a8 k,LeO (pool_pools.f k a0 a1 a2 a3 a4 a5 a6 a7 a8) (pool_pools.f (k + 1) a0 a1 a2 a3 a4 a5 a6 a7 a8) := by
 intro a0 a1 a2 a3 a4 a5 a6 a7 a8 k
 obtain ⟨ih0,ih1⟩ := pool_pools.mono_l k
 unfold pool_pools.f
 repeat' first
   | (with_reducible exact ih0 _ _ _ _ _ _ _ _ _ _ _ _)
   | (with_reducible exact ih1 _ _ _ _ _ _ _ _ _ _ _ _ _ _ _ _ _ _ _ _)
   | (with_reducible exact addr_Compare.mono _ _ _ _ _ _ _)
   | (with_reducible exact pool_leased.mono _ _ _ _ _ _ _ _)
   | (with_reducible exact slices_ContainsFunc_60.mono _ _ _ _ _ _ _ _)
   | (with_reducible exact LeO.refl _)
   | (with_reducible exact LeO.none _)
   | (with_reducible refine LeO.ite ?_ ?_)
   | (with_reducible refine LeO.bind ?_ (fun _ => ?_))
def pool_client_1.f (a0 : Int) : Option (Bool) := if a0 < 33 then (some true) else (some (decide (a0 > 126)))
def slices_IndexFunc_77.l0 : Nat → List Int → Int → Int → Option (Int)
 | 0,_,_,_ => none
 | k + 1,x0,x7,x8 => if x8 < x7 then (if 0 ≤ x8 then (if x8 < (x0.length : Int) then ((pool_client_1.f (rd x0 x8)).bind fun t225 => (if t225 = true then (some x8) else (slices_IndexFunc_77.l0 k x0 x7 (wrap64 (x8 + 1))))) else (none)) else (none)) else (some (-1))
def slices_IndexFunc_77.f (k : Nat) (l0 : List Int)  : Option (Int) := slices_IndexFunc_77.l0 k l0 (l0.length : Int) 0
theorem slices_IndexFunc_77.mono_l : ∀ k,(∀ y0 y1 y2,LeO (slices_IndexFunc_77.l0 k y0 y1 y2) (slices_IndexFunc_77.l0 (k + 1) y0 y1 y2))
 | 0 => fun _ _ _ r h => by simp [slices_IndexFunc_77.l0] at h
 | k + 1 => by
  have ih0 := slices_IndexFunc_77.mono_l k
  ·intro y0 y1 y2
   unfold slices_IndexFunc_77.l0
   repeat' first
   | (with_reducible exact ih0 _ _ _)
   | (with_reducible exact LeO.refl _)
   | (with_reducible exact LeO.none _)
   | (with_reducible refine LeO.ite ?_ ?_)
   | (with_reducible refine LeO.bind ?_ (fun _ => ?_))
theorem slices_IndexFunc_77.mono : ∀ a0 k,LeO (slices_IndexFunc_77.f k a0) (slices_IndexFunc_77.f (k + 1) a0) := by
 intro a0 k
 have ih0 := slices_IndexFunc_77.mono_l k
 unfold slices_IndexFunc_77.f
 repeat' first
   | (with_reducible exact ih0 _ _ _)
   | (with_reducible exact LeO.refl _)
   | (with_reducible exact LeO.none _)
   | (with_reducible refine LeO.ite ?_ ?_)
   | (with_reducible refine LeO.bind ?_ (fun _ => ?_))
def slices_ContainsFunc_77.f (k : Nat) (l0 : List Int)  : Option (Bool) := (slices_IndexFunc_77.f k l0).bind fun t226 => (some (decide (t226 ≥ 0)))
theorem slices_ContainsFunc_77.mono : ∀ a0 k,LeO (slices_ContainsFunc_77.f k a0) (slices_ContainsFunc_77.f (k + 1) a0) := by
 intro a0 k
 unfold slices_ContainsFunc_77.f
 repeat' first
   | (with_reducible exact slices_IndexFunc_77.mono _ _)
   | (with_reducible exact LeO.refl _)
   | (with_reducible exact LeO.none _)
   | (with_reducible refine LeO.ite ?_ ?_)
   | (with_reducible refine LeO.bind ?_ (fun _ => ?_))
def pool_client.f (k : Nat) (a0 : ByteArray) : Option (Bool) := if (a0.size : Int) ≥ 1 then (if (a0.size : Int) ≤ 32 then ((conv_bytes_54.f a0).bind fun t227 => ((slices_ContainsFunc_77.f k t227).bind fun t230 => (some (!t230)))) else (some false)) else (some false)
theorem pool_client.mono : ∀ a0 k,LeO (pool_client.f k a0) (pool_client.f (k + 1) a0) := by
 intro a0 k
 unfold pool_client.f
 repeat' first
   | (with_reducible exact slices_ContainsFunc_77.mono _ _)
   | (with_reducible exact LeO.refl _)
   | (with_reducible exact LeO.none _)
   | (with_reducible refine LeO.ite ?_ ?_)
   | (with_reducible refine LeO.bind ?_ (fun _ => ?_))
def pool_reserved_1.f (a0_0 : ByteArray) (a0_1 : Bool) (a0_2 : Int) (a0_3 : Int) (a0_4 : ByteArray) (a1_0 : ByteArray) (a1_1 : Bool) (a1_2 : Int) (a1_3 : Int) (a1_4 : ByteArray) : Option (Bool) := if a0_0.toList = a1_0.toList then (some true) else (some (a0_1 == a1_1 && (a0_2 == a1_2 && (a0_3 == a1_3))))
def stringslite_HasSuffix.f (a0 : ByteArray) (a1 : ByteArray) : Option (Bool) := if (a0.size : Int) ≥ (a1.size : Int) then (if 0 ≤ (wrap64 ((a0.size : Int) - (a1.size : Int))) then (if (wrap64 ((a0.size : Int) - (a1.size : Int))) ≤ (a0.size : Int) then (some ((a0.extract ((wrap64 ((a0.size : Int) - (a1.size : Int))) : Int).toNat a0.size).toList == a1.toList)) else (none)) else (none)) else (some false)
def strings_HasSuffix.f (a0 : ByteArray) (a1 : ByteArray) : Option (Bool) := (stringslite_HasSuffix.f a0 a1).bind fun t232 => (some t232)
def strings_explode.f (a0 : ByteArray) (a1 : Int) : Option (List ByteArray) := none
def stringslite_Index.f (a0 : ByteArray) (a1 : ByteArray) : Option (Int) := if a1.size = 1 then some (XB.index a0 a1) else none
def strings_Index.f (a0 : ByteArray) (a1 : ByteArray) : Option (Int) := (stringslite_Index.f a0 a1).bind fun t235 => (some t235)
def strings_Count.f (a0 : ByteArray) (a1 : ByteArray) : Option (Int) := if a1.size = 1 then some (XB.count a0 a1) else none
mutual
def strings_genSplit.j0 : Nat → ByteArray → ByteArray → Int → Int → Option (List ByteArray)
 | 0,_,_,_,_ => none
 | k + 1,x0,x1,x2,x3 => if 0 ≤ (mn x3 (wrap64 ((x0.size : Int) + 1))) then (if (mn x3 (wrap64 ((x0.size : Int) + 1)) : Int).toNat ≤ 17592186044416 then (strings_genSplit.l0 k x0 x1 x2 (wrap64 ((mn x3 (wrap64 ((x0.size : Int) + 1))) - 1)) (List.replicate (mn x3 (wrap64 ((x0.size : Int) + 1)) : Int).toNat (⟨#[]⟩ : ByteArray)) 0) else (none)) else (none)
def strings_genSplit.l0 : Nat → ByteArray → ByteArray → Int → Int → List ByteArray → Int → Option (List ByteArray)
 | 0,_,_,_,_,_,_ => none
 | k + 1,x0,x1,x2,x3,x9,x10 => if x10 < x3 then ((strings_Index.f x0 x1).bind fun t247 => (if t247 < 0 then (if 0 ≤ x10 then (if x10 < (x9.length : Int) then (if 0 ≤ (wrap64 (x10 + 1)) then (if (wrap64 (x10 + 1)) ≤ (x9.length : Int) then (some ((x9.set (x10 : Int).toNat x0).take ((wrap64 (x10 + 1)) : Int).toNat)) else (none)) else (none)) else (none)) else (none)) else (if 0 ≤ (wrap64 (t247 + x2)) then (if (wrap64 (t247 + x2)) ≤ (x0.size : Int) then (if 0 ≤ x10 then (if x10 < (x9.length : Int) then (if 0 ≤ (wrap64 (t247 + (x1.size : Int))) then (if (wrap64 (t247 + (x1.size : Int))) ≤ (x0.size : Int) then (strings_genSplit.l0 k (x0.extract ((wrap64 (t247 + (x1.size : Int))) : Int).toNat x0.size) x1 x2 x3 (x9.set (x10 : Int).toNat (x0.extract 0 ((wrap64 (t247 + x2)) : Int).toNat)) (wrap64 (x10 + 1))) else (none)) else (none)) else (none)) else (none)) else (none)) else (none)))) else (if 0 ≤ x10 then (if x10 < (x9.length : Int) then (if 0 ≤ (wrap64 (x10 + 1)) then (if (wrap64 (x10 + 1)) ≤ (x9.length : Int) then (some ((x9.set (x10 : Int).toNat x0).take ((wrap64 (x10 + 1)) : Int).toNat)) else (none)) else (none)) else (none)) else (none))
end
def strings_genSplit.f (k : Nat) (a0 : ByteArray) (a1 : ByteArray) (a2 : Int) (a3 : Int) : Option (List ByteArray) := if a3 = 0 then (some ([] : List ByteArray)) else (if a1.toList = ([] : List UInt8) then ((strings_explode.f a0 a3).bind fun t236 => (some t236)) else (if a3 < 0 then ((strings_Count.f a0 a1).bind fun t239 => (strings_genSplit.j0 k a0 a1 a2 (wrap64 (t239 + 1)))) else (strings_genSplit.j0 k a0 a1 a2 a3)))
theorem strings_genSplit.mono_l : ∀ k,(∀ y0 y1 y2 y3,LeO (strings_genSplit.j0 k y0 y1 y2 y3) (strings_genSplit.j0 (k + 1) y0 y1 y2 y3)) ∧ (∀ y0 y1 y2 y3 y4 y5,LeO (strings_genSplit.l0 k y0 y1 y2 y3 y4 y5) (strings_genSplit.l0 (k + 1) y0 y1 y2 y3 y4 y5))
 | 0 => ⟨fun _ _ _ _ r h => by simp [strings_genSplit.j0] at h,fun _ _ _ _ _ _ r h => by simp [strings_genSplit.l0] at h⟩
 | k + 1 => by
  obtain ⟨ih0,ih1⟩ := strings_genSplit.mono_l k
  refine ⟨?_,?_⟩
  ·intro y0 y1 y2 y3
   unfold strings_genSplit.j0
   repeat' first
   | (with_reducible exact ih0 _ _ _ _)
   | (with_reducible exact ih1 _ _ _ _ _ _)
   | (with_reducible exact LeO.refl _)
   | (with_reducible exact LeO.none _)
   | (with_reducible refine LeO.ite ?_ ?_)
   | (with_reducible refine LeO.bind ?_ (fun _ => ?_))
  ·intro y0 y1 y2 y3 y4 y5
   unfold strings_genSplit.l0
   repeat' first
   | (with_reducible exact ih0 _ _ _ _)
   | (with_reducible exact ih1 _ _ _ _ _ _)
   | (with_reducible exact LeO.refl _)
   | (with_reducible exact LeO.none _)
   | (with_reducible refine LeO.ite ?_ ?_)
   | (with_reducible refine LeO.bind ?_ (fun _ => ?_))
theorem strings_genSplit.mono : ∀ a0 a1 a2 a3 k,LeO (strings_genSplit.f k a0 a1 a2 a3) (strings_genSplit.f (k + 1) a0 a1 a2 a3) := by
 intro a0 a1 a2 a3 k
 obtain ⟨ih0,ih1⟩ := strings_genSplit.mono_l k
 unfold strings_genSplit.f
 repeat' first
   | (with_reducible exact ih0 _ _ _ _)
   | (with_reducible exact ih1 _ _ _ _ _ _)
   | (with_reducible exact LeO.refl _)
   | (with_reducible exact LeO.none _)
   | (with_reducible refine LeO.ite ?_ ?_)
   | (with_reducible refine LeO.bind ?_ (fun _ => ?_))
def strings_Split.f (k : Nat) (a0 : ByteArray) (a1 : ByteArray) : Option (List ByteArray) := (strings_genSplit.f k a0 a1 0 (-1)).bind fun t253 => (some t253)
theorem strings_Split.mono : ∀ a0 a1 k,LeO (strings_Split.f k a0 a1) (strings_Split.f (k + 1) a0 a1) := by
 intro a0 a1 k
 unfold strings_Split.f
 repeat' first
   | (with_reducible exact strings_genSplit.mono _ _ _ _ _)
   | (with_reducible exact LeO.refl _)
   | (with_reducible exact LeO.none _)
   | (with_reducible refine LeO.ite ?_ ?_)
   | (with_reducible refine LeO.bind ?_ (fun _ => ?_))
mutual
def dname_ordinary.j0 : Nat → ByteArray → Bool → Option (Bool)
 | 0,_,_ => none
 | k + 1,x0,x11 => if x11 = true then (some false) else (dname_ordinary.l0 k x0 (x0.size : Int) 0)
def dname_ordinary.l0 : Nat → ByteArray → Int → Int → Option (Bool)
 | 0,_,_,_ => none
 | k + 1,x0,x13,x14 => if x14 < x13 then (if 0 ≤ x14 then (if x14 < (x0.size : Int) then (if (bt x0 x14) < 97 then (if (bt x0 x14) < 48 then (if (bt x0 x14) = 45 then (dname_ordinary.j2 k x0 x13 x14 false) else (dname_ordinary.j2 k x0 x13 x14 ((bt x0 x14) != 95))) else (if (bt x0 x14) > 57 then (if (bt x0 x14) = 45 then (dname_ordinary.j2 k x0 x13 x14 false) else (dname_ordinary.j2 k x0 x13 x14 ((bt x0 x14) != 95))) else (dname_ordinary.j2 k x0 x13 x14 false))) else (if (bt x0 x14) > 122 then (if (bt x0 x14) < 48 then (if (bt x0 x14) = 45 then (dname_ordinary.j2 k x0 x13 x14 false) else (dname_ordinary.j2 k x0 x13 x14 ((bt x0 x14) != 95))) else (if (bt x0 x14) > 57 then (if (bt x0 x14) = 45 then (dname_ordinary.j2 k x0 x13 x14 false) else (dname_ordinary.j2 k x0 x13 x14 ((bt x0 x14) != 95))) else (dname_ordinary.j2 k x0 x13 x14 false))) else (dname_ordinary.j2 k x0 x13 x14 false))) else (none)) else (none)) else (some true)
def dname_ordinary.j2 : Nat → ByteArray → Int → Int → Bool → Option (Bool)
 | 0,_,_,_,_ => none
 | k + 1,x0,x13,x14,x41 => if x41 = true then (some false) else (dname_ordinary.l0 k x0 x13 (wrap64 (x14 + 1)))
end
def dname_ordinary.f (k : Nat) (a0 : ByteArray) : Option (Bool) := if a0.toList = ([] : List UInt8) then (dname_ordinary.j0 k a0 true) else (dname_ordinary.j0 k a0 (decide ((a0.size : Int) > 63)))
theorem dname_ordinary.mono_l : ∀ k,(∀ y0 y1,LeO (dname_ordinary.j0 k y0 y1) (dname_ordinary.j0 (k + 1) y0 y1)) ∧ (∀ y0 y1 y2,LeO (dname_ordinary.l0 k y0 y1 y2) (dname_ordinary.l0 (k + 1) y0 y1 y2)) ∧ (∀ y0 y1 y2 y3,LeO (dname_ordinary.j2 k y0 y1 y2 y3) (dname_ordinary.j2 (k + 1) y0 y1 y2 y3))
 | 0 => ⟨fun _ _ r h => by simp [dname_ordinary.j0] at h,fun _ _ _ r h => by simp [dname_ordinary.l0] at h,fun _ _ _ _ r h => by simp [dname_ordinary.j2] at h⟩
 | k + 1 => by
  obtain ⟨ih0,ih1,ih2⟩ := dname_ordinary.mono_l k
  refine ⟨?_,?_,?_⟩
  ·intro y0 y1
   unfold dname_ordinary.j0
   repeat' first
   | (with_reducible exact ih0 _ _)
   | (with_reducible exact ih1 _ _ _)
   | (with_reducible exact ih2 _ _ _ _)
   | (with_reducible exact LeO.refl _)
   | (with_reducible exact LeO.none _)
   | (with_reducible refine LeO.ite ?_ ?_)
   | (with_reducible refine LeO.bind ?_ (fun _ => ?_))
  ·intro y0 y1 y2
   unfold dname_ordinary.l0
   repeat' first
   | (with_reducible exact ih0 _ _)
   | (with_reducible exact ih1 _ _ _)
   | (with_reducible exact ih2 _ _ _ _)
   | (with_reducible exact LeO.refl _)
   | (with_reducible exact LeO.none _)
   | (with_reducible refine LeO.ite ?_ ?_)
   | (with_reducible refine LeO.bind ?_ (fun _ => ?_))
  ·intro y0 y1 y2 y3
   unfold dname_ordinary.j2
   repeat' first
   | (with_reducible exact ih0 _ _)
   | (with_reducible exact ih1 _ _ _)
   | (with_reducible exact ih2 _ _ _ _)
   | (with_reducible exact LeO.refl _)
   | (with_reducible exact LeO.none _)
   | (with_reducible refine LeO.ite ?_ ?_)
   | (with_reducible refine LeO.bind ?_ (fun _ => ?_))
theorem dname_ordinary.mono : ∀ a0 k,LeO (dname_ordinary.f k a0) (dname_ordinary.f (k + 1) a0) := by
 intro a0 k
 obtain ⟨ih0,ih1,ih2⟩ := dname_ordinary.mono_l k
 unfold dname_ordinary.f
 repeat' first
   | (with_reducible exact ih0 _ _)
   | (with_reducible exact ih1 _ _ _)
   | (with_reducible exact ih2 _ _ _ _)
   | (with_reducible exact LeO.refl _)
   | (with_reducible exact LeO.none _)
   | (with_reducible refine LeO.ite ?_ ?_)
   | (with_reducible refine LeO.bind ?_ (fun _ => ?_))
mutual
def dname_Valid.j0 : Nat → ByteArray → Bool → Option (Bool)
 | 0,_,_ => none
 | k + 1,x0,x14 => if x14 = true then (some false) else (if 0 ≤ (wrap64 ((x0.size : Int) - 1)) then (if (wrap64 ((x0.size : Int) - 1)) ≤ (x0.size : Int) then ((strings_Split.f k (x0.extract 0 ((wrap64 ((x0.size : Int) - 1)) : Int).toNat) (⟨#[46]⟩ : ByteArray)).bind fun t257 => (dname_Valid.l0 k t257 (t257.length : Int) 0)) else (none)) else (none))
def dname_Valid.l0 : Nat → List ByteArray → Int → Int → Option (Bool)
 | 0,_,_,_ => none
 | k + 1,x20,x21,x22 => if x22 < x21 then (if 0 ≤ x22 then (if x22 < (x20.length : Int) then ((dname_ordinary.f k (rdOf ByteArray.empty x20 x22)).bind fun t261 => (if t261 = true then (dname_Valid.j2 k x20 x21 x22 false) else (if x22 > 0 then (dname_Valid.j2 k x20 x21 x22 true) else (dname_Valid.j2 k x20 x21 x22 ((rdOf ByteArray.empty x20 x22).toList != ([42] : List UInt8)))))) else (none)) else (none)) else (some true)
def dname_Valid.j2 : Nat → List ByteArray → Int → Int → Bool → Option (Bool)
 | 0,_,_,_,_ => none
 | k + 1,x20,x21,x22,x37 => if x37 = true then (some false) else (dname_Valid.l0 k x20 x21 (wrap64 (x22 + 1)))
end
def dname_Valid.f (k : Nat) (a0 : ByteArray) : Option (Bool) := if a0.toList = ([46] : List UInt8) then (some true) else (if (a0.size : Int) ≥ 255 then (dname_Valid.j0 k a0 true) else ((strings_HasSuffix.f a0 (⟨#[46]⟩ : ByteArray)).bind fun t256 => (dname_Valid.j0 k a0 (!t256))))
theorem dname_Valid.mono_l : ∀ k,(∀ y0 y1,LeO (dname_Valid.j0 k y0 y1) (dname_Valid.j0 (k + 1) y0 y1)) ∧ (∀ y0 y1 y2,LeO (dname_Valid.l0 k y0 y1 y2) (dname_Valid.l0 (k + 1) y0 y1 y2)) ∧ (∀ y0 y1 y2 y3,LeO (dname_Valid.j2 k y0 y1 y2 y3) (dname_Valid.j2 (k + 1) y0 y1 y2 y3))
 | 0 => ⟨fun _ _ r h => by simp [dname_Valid.j0] at h,fun _ _ _ r h => by simp [dname_Valid.l0] at h,fun _ _ _ _ r h => by simp [dname_Valid.j2] at h⟩
 | k + 1 => by
  obtain ⟨ih0,ih1,ih2⟩ := dname_Valid.mono_l k
  refine ⟨?_,?_,?_⟩
  ·intro y0 y1
   unfold dname_Valid.j0
   repeat' first
   | (with_reducible exact ih0 _ _)
   | (with_reducible exact ih1 _ _ _)
   | (with_reducible exact ih2 _ _ _ _)
   | (with_reducible exact dname_ordinary.mono _ _)
   | (with_reducible exact strings_Split.mono _ _ _)
   | (with_reducible exact LeO.refl _)
   | (with_reducible exact LeO.none _)
   | (with_reducible refine LeO.ite ?_ ?_)
   | (with_reducible refine LeO.bind ?_ (fun _ => ?_))
  ·intro y0 y1 y2
   unfold dname_Valid.l0
   repeat' first
   | (with_reducible exact ih0 _ _)
   | (with_reducible exact ih1 _ _ _)
   | (with_reducible exact ih2 _ _ _ _)
   | (with_reducible exact dname_ordinary.mono _ _)
   | (with_reducible exact strings_Split.mono _ _ _)
   | (with_reducible exact LeO.refl _)
   | (with_reducible exact LeO.none _)
   | (with_reducible refine LeO.ite ?_ ?_)
   | (with_reducible refine LeO.bind ?_ (fun _ => ?_))
  ·intro y0 y1 y2 y3
   unfold dname_Valid.j2
   repeat' first
   | (with_reducible exact ih0 _ _)
   | (with_reducible exact ih1 _ _ _)
   | (with_reducible exact ih2 _ _ _ _)
   | (with_reducible exact dname_ordinary.mono _ _)
   | (with_reducible exact strings_Split.mono _ _ _)
   | (with_reducible exact LeO.refl _)
   | (with_reducible exact LeO.none _)
   | (with_reducible refine LeO.ite ?_ ?_)
   | (with_reducible refine LeO.bind ?_ (fun _ => ?_))
theorem dname_Valid.mono : ∀ a0 k,LeO (dname_Valid.f k a0) (dname_Valid.f (k + 1) a0) := by
 intro a0 k
 obtain ⟨ih0,ih1,ih2⟩ := dname_Valid.mono_l k
 unfold dname_Valid.f
 repeat' first
   | (with_reducible exact ih0 _ _)
   | (with_reducible exact ih1 _ _ _)
   | (with_reducible exact ih2 _ _ _ _)
   | (with_reducible exact dname_ordinary.mono _ _)
   | (with_reducible exact strings_Split.mono _ _ _)
   | (with_reducible exact LeO.refl _)
   | (with_reducible exact LeO.none _)
   | (with_reducible refine LeO.ite ?_ ?_)
   | (with_reducible refine LeO.bind ?_ (fun _ => ?_))
def slices_IndexFunc_64.l0 : Nat → List (S81) → Int → Int → ByteArray → Bool → Int → Int → ByteArray → Option (Int)
 | 0,_,_,_,_,_,_,_,_ => none
 | k + 1,x0,x7,x8,x700101000,x700101001,x700101002,x700101003,x700101004 => if x8 < x7 then (if 0 ≤ x8 then (if x8 < (x0.length : Int) then ((pool_reserved_1.f ((rd_T81 x0 x8).f0) ((rd_T81 x0 x8).f1.f0) ((rd_T81 x0 x8).f1.f1) ((rd_T81 x0 x8).f1.f2) ((rd_T81 x0 x8).f2) x700101000 x700101001 x700101002 x700101003 x700101004).bind fun t263 => (if t263 = true then (some x8) else (slices_IndexFunc_64.l0 k x0 x7 (wrap64 (x8 + 1)) x700101000 x700101001 x700101002 x700101003 x700101004))) else (none)) else (none)) else (some (-1))
def slices_IndexFunc_64.f (k : Nat) (l0 : List (S81)) (a1_0 : ByteArray) (a1_1 : Bool) (a1_2 : Int) (a1_3 : Int) (a1_4 : ByteArray) : Option (Int) := slices_IndexFunc_64.l0 k l0 (l0.length : Int) 0 a1_0 a1_1 a1_2 a1_3 a1_4
theorem slices_IndexFunc_64.mono_l : ∀ k,(∀ y0 y1 y2 y3 y4 y5 y6 y7,LeO (slices_IndexFunc_64.l0 k y0 y1 y2 y3 y4 y5 y6 y7) (slices_IndexFunc_64.l0 (k + 1) y0 y1 y2 y3 y4 y5 y6 y7))
 | 0 => fun _ _ _ _ _ _ _ _ r h => by simp [slices_IndexFunc_64.l0] at h
 | k + 1 => by
  have ih0 := slices_IndexFunc_64.mono_l k
  ·intro y0 y1 y2 y3 y4 y5 y6 y7
   unfold slices_IndexFunc_64.l0
   repeat' first
   | (with_reducible exact ih0 _ _ _ _ _ _ _ _)
   | (with_reducible exact LeO.refl _)
   | (with_reducible exact LeO.none _)
   | (with_reducible refine LeO.ite ?_ ?_)
   | (with_reducible refine LeO.bind ?_ (fun _ => ?_))
theorem slices_IndexFunc_64.mono : ∀ a0 a1 a2 a3 a4 a5 k,LeO (slices_IndexFunc_64.f k a0 a1 a2 a3 a4 a5) (slices_IndexFunc_64.f (k + 1) a0 a1 a2 a3 a4 a5) := by
 intro a0 a1 a2 a3 a4 a5 k
 have ih0 := slices_IndexFunc_64.mono_l k
 unfold slices_IndexFunc_64.f
 repeat' first
   | (with_reducible exact ih0 _ _ _ _ _ _ _ _)
   | (with_reducible exact LeO.refl _)
   | (with_reducible exact LeO.none _)
   | (with_reducible refine LeO.ite ?_ ?_)
   | (with_reducible refine LeO.bind ?_ (fun _ => ?_))
def slices_ContainsFunc_64.f (k : Nat) (l0 : List (S81)) (a1_0 : ByteArray) (a1_1 : Bool) (a1_2 : Int) (a1_3 : Int) (a1_4 : ByteArray) : Option (Bool) := (slices_IndexFunc_64.f k l0 a1_0 a1_1 a1_2 a1_3 a1_4).bind fun t264 => (some (decide (t264 ≥ 0)))
theorem slices_ContainsFunc_64.mono : ∀ a0 a1 a2 a3 a4 a5 k,LeO (slices_ContainsFunc_64.f k a0 a1 a2 a3 a4 a5) (slices_ContainsFunc_64.f (k + 1) a0 a1 a2 a3 a4 a5) := by
 intro a0 a1 a2 a3 a4 a5 k
 unfold slices_ContainsFunc_64.f
 repeat' first
   | (with_reducible exact slices_IndexFunc_64.mono _ _ _ _ _ _ _)
   | (with_reducible exact LeO.refl _)
   | (with_reducible exact LeO.none _)
   | (with_reducible refine LeO.ite ?_ ?_)
   | (with_reducible refine LeO.bind ?_ (fun _ => ?_))
mutual
def pool_reserved.l0 : Nat → List (S81) → Int → Int → Bool → Int → Int → Int → ByteArray → List (S75) → List (S81) → List (S59) → Int → Option (Int)
 | 0,_,_,_,_,_,_,_,_,_,_,_,_ => none
 | k + 1,x6,x7,x8,x266000,x266001,x266002,x266003,x266004,x266005,x266006,x266007,x266008 => if x8 < x7 then (if 0 ≤ x8 then (if x8 < (x6.length : Int) then ((pool_client.f k ((rd_T81 x6 x8).f0)).bind fun t268 => (if t268 = true then ((pool_leased.f k x266000 x266001 x266002 x266003 ((rd_T81 x6 x8).f1.f0) ((rd_T81 x6 x8).f1.f1) ((rd_T81 x6 x8).f1.f2)).bind fun t269 => (if t269 = true then (if x8 ≤ (x266006.length : Int) then ((slices_ContainsFunc_64.f k (x266006.take (x8 : Int).toNat) ((rd_T81 x6 x8).f0) ((rd_T81 x6 x8).f1.f0) ((rd_T81 x6 x8).f1.f1) ((rd_T81 x6 x8).f1.f2) ((rd_T81 x6 x8).f2)).bind fun t274 => (if t274 = true then (some 12) else (if ((rd_T81 x6 x8).f2).toList = ([] : List UInt8) then (pool_reserved.j1 k x6 x7 x8 false x266000 x266001 x266002 x266003 x266004 x266005 x266006 x266007 x266008) else ((dname_Valid.f k ((rd_T81 x6 x8).f2)).bind fun t275 => (pool_reserved.j1 k x6 x7 x8 (!t275) x266000 x266001 x266002 x266003 x266004 x266005 x266006 x266007 x266008))))) else (none)) else (some 3))) else (some 9))) else (none)) else (none)) else (some 0)
def pool_reserved.j1 : Nat → List (S81) → Int → Int → Bool → Bool → Int → Int → Int → ByteArray → List (S75) → List (S81) → List (S59) → Int → Option (Int)
 | 0,_,_,_,_,_,_,_,_,_,_,_,_,_ => none
 | k + 1,x6,x7,x8,x32,x266000,x266001,x266002,x266003,x266004,x266005,x266006,x266007,x266008 => if x32 = true then (some 2) else (pool_reserved.l0 k x6 x7 (wrap64 (x8 + 1)) x266000 x266001 x266002 x266003 x266004 x266005 x266006 x266007 x266008)
end
def pool_reserved.f (k : Nat) (a0_0 : Bool) (a0_1 : Int) (a0_2 : Int) (a0_3 : Int) (a0_4 : ByteArray) (l0_5 : List (S75)) (l0_6 : List (S81)) (l0_7 : List (S59)) (a0_8 : Int) : Option (Int) := pool_reserved.l0 k l0_6 (l0_6.length : Int) 0 a0_0 a0_1 a0_2 a0_3 a0_4 l0_5 l0_6 l0_7 a0_8
theorem pool_reserved.mono_l : ∀ k,(∀ y0 y1 y2 y3 y4 y5 y6 y7 y8 y9 y10 y11,LeO (pool_reserved.l0 k y0 y1 y2 y3 y4 y5 y6 y7 y8 y9 y10 y11) (pool_reserved.l0 (k + 1) y0 y1 y2 y3 y4 y5 y6 y7 y8 y9 y10 y11)) ∧ (∀ y0 y1 y2 y3 y4 y5 y6 y7 y8 y9 y10 y11 y12,LeO (pool_reserved.j1 k y0 y1 y2 y3 y4 y5 y6 y7 y8 y9 y10 y11 y12) (pool_reserved.j1 (k + 1) y0 y1 y2 y3 y4 y5 y6 y7 y8 y9 y10 y11 y12))
 | 0 => ⟨fun _ _ _ _ _ _ _ _ _ _ _ _ r h => by simp [pool_reserved.l0] at h,fun _ _ _ _ _ _ _ _ _ _ _ _ _ r h => by simp [pool_reserved.j1] at h⟩
 | k + 1 => by
  obtain ⟨ih0,ih1⟩ := pool_reserved.mono_l k
  refine ⟨?_,?_⟩
  ·intro y0 y1 y2 y3 y4 y5 y6 y7 y8 y9 y10 y11
   unfold pool_reserved.l0
   repeat' first
   | (with_reducible exact ih0 _ _ _ _ _ _ _ _ _ _ _ _)
   | (with_reducible exact ih1 _ _ _ _ _ _ _ _ _ _ _ _ _)
   | (with_reducible exact dname_Valid.mono _ _)
   | (with_reducible exact pool_client.mono _ _)
   | (with_reducible exact pool_leased.mono _ _ _ _ _ _ _ _)
   | (with_reducible exact slices_ContainsFunc_64.mono _ _ _ _ _ _ _)
   | (with_reducible exact LeO.refl _)
   | (with_reducible exact LeO.none _)
   | (with_reducible refine LeO.ite ?_ ?_)
   | (with_reducible refine LeO.bind ?_ (fun _ => ?_))
  ·intro y0 y1 y2 y3 y4 y5 y6 y7 y8 y9 y10 y11 y12
   unfold pool_reserved.j1
   repeat' first
   | (with_reducible exact ih0 _ _ _ _ _ _ _ _ _ _ _ _)
   | (with_reducible exact ih1 _ _ _ _ _ _ _ _ _ _ _ _ _)
   | (with_reducible exact dname_Valid.mono _ _)
   | (with_reducible exact pool_client.mono _ _)
   | (with_reducible exact pool_leased.mono _ _ _ _ _ _ _ _)
   | (with_reducible exact slices_ContainsFunc_64.mono _ _ _ _ _ _ _)
   | (with_reducible exact LeO.refl _)
   | (with_reducible exact LeO.none _)
   | (with_reducible refine LeO.ite ?_ ?_)
   | (with_reducible refine LeO.bind ?_ (fun _ => ?_))
theorem pool_reserved.mono : ∀ a0 a1 a2 a3 a4 a5 a6 a7 a8 k,LeO (pool_reserved.f k a0 a1 a2 a3 a4 a5 a6 a7 a8) (pool_reserved.f (k + 1) a0 a1 a2 a3 a4 a5 a6 a7 a8) := by
 intro a0 a1 a2 a3 a4 a5 a6 a7 a8 k
 obtain ⟨ih0,ih1⟩ := pool_reserved.mono_l k
 unfold pool_reserved.f
 repeat' first
   | (with_reducible exact ih0 _ _ _ _ _ _ _ _ _ _ _ _)
   | (with_reducible exact ih1 _ _ _ _ _ _ _ _ _ _ _ _ _)
   | (with_reducible exact dname_Valid.mono _ _)
   | (with_reducible exact pool_client.mono _ _)
   | (with_reducible exact pool_leased.mono _ _ _ _ _ _ _ _)
   | (with_reducible exact slices_ContainsFunc_64.mono _ _ _ _ _ _ _)
   | (with_reducible exact LeO.refl _)
   | (with_reducible exact LeO.none _)
   | (with_reducible refine LeO.ite ?_ ?_)
   | (with_reducible refine LeO.bind ?_ (fun _ => ?_))
mutual
def pool_Check.j0 : Nat → Bool → Bool → Int → Int → Int → ByteArray → List (S75) → List (S81) → List (S59) → Int → Option (Int)
 | 0,_,_,_,_,_,_,_,_,_,_ => none
 | k + 1,x5,x277000,x277001,x277002,x277003,x277004,x277005,x277006,x277007,x277008 => if x5 = true then (some 3) else (if (x277005.length : Int) > 16 then (pool_Check.j1 k true x277000 x277001 x277002 x277003 x277004 x277005 x277006 x277007 x277008) else (pool_Check.j1 k (decide ((x277006.length : Int) > 16)) x277000 x277001 x277002 x277003 x277004 x277005 x277006 x277007 x277008))
def pool_Check.j1 : Nat → Bool → Bool → Int → Int → Int → ByteArray → List (S75) → List (S81) → List (S59) → Int → Option (Int)
 | 0,_,_,_,_,_,_,_,_,_,_ => none
 | k + 1,x22,x277000,x277001,x277002,x277003,x277004,x277005,x277006,x277007,x277008 => if x22 = true then (some 9) else ((pool_pools.f k x277000 x277001 x277002 x277003 x277004 x277005 x277006 x277007 x277008).bind fun t278 => (if t278 = 0 then ((pool_reserved.f k x277000 x277001 x277002 x277003 x277004 x277005 x277006 x277007 x277008).bind fun t279 => (if t279 = 0 then ((option_Valid.f k x277007).bind fun t280 => (if t280 = true then (if x277008 < 1 then (pool_Check.j2 k true) else (if x277008 > 1073741824 then (pool_Check.j2 k true) else (pool_Check.j2 k (decide ((x277004.size : Int) > 255))))) else (pool_Check.j2 k true))) else (some t279))) else (some t278)))
def pool_Check.j2 : Nat → Bool → Option (Int)
 | 0,_ => none
 | k + 1,x62 => if x62 = true then (some 1) else (some 0)
end
def pool_Check.f (k : Nat) (a0_0 : Bool) (a0_1 : Int) (a0_2 : Int) (a0_3 : Int) (a0_4 : ByteArray) (l0_5 : List (S75)) (l0_6 : List (S81)) (l0_7 : List (S59)) (a0_8 : Int) : Option (Int) := (prefix_Valid.f k a0_0 a0_1 a0_2 a0_3).bind fun t277 => (if t277 = true then (if a0_0 = true then (pool_Check.j0 k true a0_0 a0_1 a0_2 a0_3 a0_4 l0_5 l0_6 l0_7 a0_8) else (pool_Check.j0 k (decide (a0_3 > 30)) a0_0 a0_1 a0_2 a0_3 a0_4 l0_5 l0_6 l0_7 a0_8)) else (pool_Check.j0 k true a0_0 a0_1 a0_2 a0_3 a0_4 l0_5 l0_6 l0_7 a0_8))
theorem pool_Check.mono_l : ∀ k,(∀ y0 y1 y2 y3 y4 y5 y6 y7 y8 y9,LeO (pool_Check.j0 k y0 y1 y2 y3 y4 y5 y6 y7 y8 y9) (pool_Check.j0 (k + 1) y0 y1 y2 y3 y4 y5 y6 y7 y8 y9)) ∧ (∀ y0 y1 y2 y3 y4 y5 y6 y7 y8 y9,LeO (pool_Check.j1 k y0 y1 y2 y3 y4 y5 y6 y7 y8 y9) (pool_Check.j1 (k + 1) y0 y1 y2 y3 y4 y5 y6 y7 y8 y9)) ∧ (∀ y0,LeO (pool_Check.j2 k y0) (pool_Check.j2 (k + 1) y0))
 | 0 => ⟨fun _ _ _ _ _ _ _ _ _ _ r h => by simp [pool_Check.j0] at h,fun _ _ _ _ _ _ _ _ _ _ r h => by simp [pool_Check.j1] at h,fun _ r h => by simp [pool_Check.j2] at h⟩
 | k + 1 => by
  obtain ⟨ih0,ih1,ih2⟩ := pool_Check.mono_l k
  refine ⟨?_,?_,?_⟩
  ·intro y0 y1 y2 y3 y4 y5 y6 y7 y8 y9
   unfold pool_Check.j0
   repeat' first
   | (with_reducible exact ih0 _ _ _ _ _ _ _ _ _ _)
   | (with_reducible exact ih1 _ _ _ _ _ _ _ _ _ _)
   | (with_reducible exact ih2 _)
   | (with_reducible exact option_Valid.mono _ _)
   | (with_reducible exact pool_pools.mono _ _ _ _ _ _ _ _ _ _)
   | (with_reducible exact pool_reserved.mono _ _ _ _ _ _ _ _ _ _)
   | (with_reducible exact prefix_Valid.mono _ _ _ _ _)
   | (with_reducible exact LeO.refl _)
   | (with_reducible exact LeO.none _)
   | (with_reducible refine LeO.ite ?_ ?_)
   | (with_reducible refine LeO.bind ?_ (fun _ => ?_))
  ·intro y0 y1 y2 y3 y4 y5 y6 y7 y8 y9
   unfold pool_Check.j1
   repeat' first
   | (with_reducible exact ih0 _ _ _ _ _ _ _ _ _ _)
   | (with_reducible exact ih1 _ _ _ _ _ _ _ _ _ _)
   | (with_reducible exact ih2 _)
   | (with_reducible exact option_Valid.mono _ _)
   | (with_reducible exact pool_pools.mono _ _ _ _ _ _ _ _ _ _)
   | (with_reducible exact pool_reserved.mono _ _ _ _ _ _ _ _ _ _)
   | (with_reducible exact prefix_Valid.mono _ _ _ _ _)
   | (with_reducible exact LeO.refl _)
   | (with_reducible exact LeO.none _)
   | (with_reducible refine LeO.ite ?_ ?_)
   | (with_reducible refine LeO.bind ?_ (fun _ => ?_))
  ·intro y0
   unfold pool_Check.j2
   repeat' first
   | (with_reducible exact ih0 _ _ _ _ _ _ _ _ _ _)
   | (with_reducible exact ih1 _ _ _ _ _ _ _ _ _ _)
   | (with_reducible exact ih2 _)
   | (with_reducible exact option_Valid.mono _ _)
   | (with_reducible exact pool_pools.mono _ _ _ _ _ _ _ _ _ _)
   | (with_reducible exact pool_reserved.mono _ _ _ _ _ _ _ _ _ _)
   | (with_reducible exact prefix_Valid.mono _ _ _ _ _)
   | (with_reducible exact LeO.refl _)
   | (with_reducible exact LeO.none _)
   | (with_reducible refine LeO.ite ?_ ?_)
   | (with_reducible refine LeO.bind ?_ (fun _ => ?_))
theorem pool_Check.mono : ∀ a0 a1 a2 a3 a4 a5 a6 a7 a8 k,LeO (pool_Check.f k a0 a1 a2 a3 a4 a5 a6 a7 a8) (pool_Check.f (k + 1) a0 a1 a2 a3 a4 a5 a6 a7 a8) := by
 intro a0 a1 a2 a3 a4 a5 a6 a7 a8 k
 obtain ⟨ih0,ih1,ih2⟩ := pool_Check.mono_l k
 unfold pool_Check.f
 repeat' first
   | (with_reducible exact ih0 _ _ _ _ _ _ _ _ _ _)
   | (with_reducible exact ih1 _ _ _ _ _ _ _ _ _ _)
   | (with_reducible exact ih2 _)
   | (with_reducible exact option_Valid.mono _ _)
   | (with_reducible exact pool_pools.mono _ _ _ _ _ _ _ _ _ _)
   | (with_reducible exact pool_reserved.mono _ _ _ _ _ _ _ _ _ _)
   | (with_reducible exact prefix_Valid.mono _ _ _ _ _)
   | (with_reducible exact LeO.refl _)
   | (with_reducible exact LeO.none _)
   | (with_reducible refine LeO.ite ?_ ?_)
   | (with_reducible refine LeO.bind ?_ (fun _ => ?_))
def prefix_Within.f (k : Nat) (a0_0 : Bool) (a0_1 : Int) (a0_2 : Int) (a0_3 : Int) (a1_0 : Bool) (a1_1 : Int) (a1_2 : Int) (a1_3 : Int) : Option (Bool) := (prefix_Valid.f k a0_0 a0_1 a0_2 a0_3).bind fun t283 => (if t283 = true then ((prefix_Valid.f k a1_0 a1_1 a1_2 a1_3).bind fun t284 => (if t284 = true then (if a0_3 ≥ a1_3 then ((prefix_Contains.f k a1_0 a1_1 a1_2 a1_3 a0_0 a0_1 a0_2).bind fun t285 => (some t285)) else (some false)) else (some false))) else (some false))
theorem prefix_Within.mono : ∀ a0 a1 a2 a3 a4 a5 a6 a7 k,LeO (prefix_Within.f k a0 a1 a2 a3 a4 a5 a6 a7) (prefix_Within.f (k + 1) a0 a1 a2 a3 a4 a5 a6 a7) := by
 intro a0 a1 a2 a3 a4 a5 a6 a7 k
 unfold prefix_Within.f
 repeat' first
   | (with_reducible exact prefix_Contains.mono _ _ _ _ _ _ _ _)
   | (with_reducible exact prefix_Valid.mono _ _ _ _ _)
   | (with_reducible exact LeO.refl _)
   | (with_reducible exact LeO.none _)
   | (with_reducible refine LeO.ite ?_ ?_)
   | (with_reducible refine LeO.bind ?_ (fun _ => ?_))
def prefix_Overlap.f (k : Nat) (a0_0 : Bool) (a0_1 : Int) (a0_2 : Int) (a0_3 : Int) (a1_0 : Bool) (a1_1 : Int) (a1_2 : Int) (a1_3 : Int) : Option (Bool) := (prefix_Within.f k a0_0 a0_1 a0_2 a0_3 a1_0 a1_1 a1_2 a1_3).bind fun t288 => (if t288 = true then (some true) else ((prefix_Within.f k a1_0 a1_1 a1_2 a1_3 a0_0 a0_1 a0_2 a0_3).bind fun t289 => (some t289)))
theorem prefix_Overlap.mono : ∀ a0 a1 a2 a3 a4 a5 a6 a7 k,LeO (prefix_Overlap.f k a0 a1 a2 a3 a4 a5 a6 a7) (prefix_Overlap.f (k + 1) a0 a1 a2 a3 a4 a5 a6 a7) := by
 intro a0 a1 a2 a3 a4 a5 a6 a7 k
 unfold prefix_Overlap.f
 repeat' first
   | (with_reducible exact prefix_Within.mono _ _ _ _ _ _ _ _ _)
   | (with_reducible exact LeO.refl _)
   | (with_reducible exact LeO.none _)
   | (with_reducible refine LeO.ite ?_ ?_)
   | (with_reducible refine LeO.bind ?_ (fun _ => ?_))
mutual
def relay_Check.l0 : Nat → List (S49) → List (S49) → Int → Int → Option (Int)
 | 0,_,_,_,_ => none
 | k + 1,x0,x13,x14,x15 => if x15 < x14 then (if 0 ≤ x15 then (if x15 < (x13.length : Int) then ((pool_Check.f k ((rd_T49 x13 x15).f0.f0.f0) ((rd_T49 x13 x15).f0.f0.f1) ((rd_T49 x13 x15).f0.f0.f2) ((rd_T49 x13 x15).f0.f1) ((rd_T49 x13 x15).f1) ((rd_T49 x13 x15).f2) ((rd_T49 x13 x15).f3) ((rd_T49 x13 x15).f4) ((rd_T49 x13 x15).f5)).bind fun t292 => (if t292 = 0 then (relay_Check.l0 k x0 x13 x14 (wrap64 (x15 + 1))) else (some t292))) else (none)) else (none)) else (relay_Check.l1 k x0 x0 (x0.length : Int) 0)
def relay_Check.l1 : Nat → List (S49) → List (S49) → Int → Int → Option (Int)
 | 0,_,_,_,_ => none
 | k + 1,x0,x25,x26,x27 => if x27 < x26 then (if 0 ≤ x27 then (if x27 < (x25.length : Int) then (if x27 ≤ (x0.length : Int) then ((some (x0.take (x27 : Int).toNat : List (S49))).bind fun y295 => (relay_Check.l2 k x0 x25 x26 x27 y295 (y295.length : Int) 0 ((rd_T49 x25 x27).f0.f0.f0) ((rd_T49 x25 x27).f0.f0.f1) ((rd_T49 x25 x27).f0.f0.f2) ((rd_T49 x25 x27).f0.f1) ((rd_T49 x25 x27).f1) ((rd_T49 x25 x27).f2) ((rd_T49 x25 x27).f3) ((rd_T49 x25 x27).f4) ((rd_T49 x25 x27).f5))) else (none)) else (none)) else (none)) else (some 0)
def relay_Check.l2 : Nat → List (S49) → List (S49) → Int → Int → List (S49) → Int → Int → Bool → Int → Int → Int → ByteArray → List (S75) → List (S81) → List (S59) → Int → Option (Int)
 | 0,_,_,_,_,_,_,_,_,_,_,_,_,_,_,_,_ => none
 | k + 1,x0,x25,x26,x27,x34,x35,x36,x295000,x295001,x295002,x295003,x295004,x295005,x295006,x295007,x295008 => if x36 < x35 then (if 0 ≤ x36 then (if x36 < (x34.length : Int) then ((prefix_Overlap.f k x295000 x295001 x295002 x295003 ((rd_T49 x34 x36).f0.f0.f0) ((rd_T49 x34 x36).f0.f0.f1) ((rd_T49 x34 x36).f0.f0.f2) ((rd_T49 x34 x36).f0.f1)).bind fun t301 => (if t301 = true then (some 24) else (relay_Check.l2 k x0 x25 x26 x27 x34 x35 (wrap64 (x36 + 1)) x295000 x295001 x295002 x295003 x295004 x295005 x295006 x295007 x295008))) else (none)) else (none)) else (relay_Check.l1 k x0 x25 x26 (wrap64 (x27 + 1)))
end
def relay_Check.f (k : Nat) (l0 : List (S49)) : Option (Int) := if (l0.length : Int) > 16 then (some 9) else (relay_Check.l0 k l0 l0 (l0.length : Int) 0)
theorem relay_Check.mono_l : ∀ k,(∀ y0 y1 y2 y3,LeO (relay_Check.l0 k y0 y1 y2 y3) (relay_Check.l0 (k + 1) y0 y1 y2 y3)) ∧ (∀ y0 y1 y2 y3,LeO (relay_Check.l1 k y0 y1 y2 y3) (relay_Check.l1 (k + 1) y0 y1 y2 y3)) ∧ (∀ y0 y1 y2 y3 y4 y5 y6 y7 y8 y9 y10 y11 y12 y13 y14 y15,LeO (relay_Check.l2 k y0 y1 y2 y3 y4 y5 y6 y7 y8 y9 y10 y11 y12 y13 y14 y15) (relay_Check.l2 (k + 1) y0 y1 y2 y3 y4 y5 y6 y7 y8 y9 y10 y11 y12 y13 y14 y15))
 | 0 => ⟨fun _ _ _ _ r h => by simp [relay_Check.l0] at h,fun _ _ _ _ r h => by simp [relay_Check.l1] at h,fun _ _ _ _ _ _ _ _ _ _ _ _ _ _ _ _ r h => by simp [relay_Check.l2] at h⟩
 | k + 1 => by
  obtain ⟨ih0,ih1,ih2⟩ := relay_Check.mono_l k
  refine ⟨?_,?_,?_⟩
  ·intro y0 y1 y2 y3
   unfold relay_Check.l0
   repeat' first
   | (with_reducible exact ih0 _ _ _ _)
   | (with_reducible exact ih1 _ _ _ _)
   | (with_reducible exact ih2 _ _ _ _ _ _ _ _ _ _ _ _ _ _ _ _)
   | (with_reducible exact pool_Check.mono _ _ _ _ _ _ _ _ _ _)
   | (with_reducible exact prefix_Overlap.mono _ _ _ _ _ _ _ _ _)
   | (with_reducible exact LeO.refl _)
   | (with_reducible exact LeO.none _)
   | (with_reducible refine LeO.ite ?_ ?_)
   | (with_reducible refine LeO.bind ?_ (fun _ => ?_))
  ·intro y0 y1 y2 y3
   unfold relay_Check.l1
   repeat' first
   | (with_reducible exact ih0 _ _ _ _)
   | (with_reducible exact ih1 _ _ _ _)
   | (with_reducible exact ih2 _ _ _ _ _ _ _ _ _ _ _ _ _ _ _ _)
   | (with_reducible exact pool_Check.mono _ _ _ _ _ _ _ _ _ _)
   | (with_reducible exact prefix_Overlap.mono _ _ _ _ _ _ _ _ _)
   | (with_reducible exact LeO.refl _)
   | (with_reducible exact LeO.none _)
   | (with_reducible refine LeO.ite ?_ ?_)
   | (with_reducible refine LeO.bind ?_ (fun _ => ?_))
  ·intro y0 y1 y2 y3 y4 y5 y6 y7 y8 y9 y10 y11 y12 y13 y14 y15
   unfold relay_Check.l2
   repeat' first
   | (with_reducible exact ih0 _ _ _ _)
   | (with_reducible exact ih1 _ _ _ _)
   | (with_reducible exact ih2 _ _ _ _ _ _ _ _ _ _ _ _ _ _ _ _)
   | (with_reducible exact pool_Check.mono _ _ _ _ _ _ _ _ _ _)
   | (with_reducible exact prefix_Overlap.mono _ _ _ _ _ _ _ _ _)
   | (with_reducible exact LeO.refl _)
   | (with_reducible exact LeO.none _)
   | (with_reducible refine LeO.ite ?_ ?_)
   | (with_reducible refine LeO.bind ?_ (fun _ => ?_))
theorem relay_Check.mono : ∀ a0 k,LeO (relay_Check.f k a0) (relay_Check.f (k + 1) a0) := by
 intro a0 k
 obtain ⟨ih0,ih1,ih2⟩ := relay_Check.mono_l k
 unfold relay_Check.f
 repeat' first
   | (with_reducible exact ih0 _ _ _ _)
   | (with_reducible exact ih1 _ _ _ _)
   | (with_reducible exact ih2 _ _ _ _ _ _ _ _ _ _ _ _ _ _ _ _)
   | (with_reducible exact pool_Check.mono _ _ _ _ _ _ _ _ _ _)
   | (with_reducible exact prefix_Overlap.mono _ _ _ _ _ _ _ _ _)
   | (with_reducible exact LeO.refl _)
   | (with_reducible exact LeO.none _)
   | (with_reducible refine LeO.ite ?_ ?_)
   | (with_reducible refine LeO.bind ?_ (fun _ => ?_))
mutual
def relay_Select.j0 : Nat → List (S49) → Int → Int → Int → ByteArray → Bool → Int → Int → Bool → Int → Int → Bool → Int → Int → Bool → List (S59) → Bool → Int → Int → Option (Int × Bool)
 | 0,_,_,_,_,_,_,_,_,_,_,_,_,_,_,_,_,_,_,_ => none
 | k + 1,x0,x303000,x303001,x303002,x303003,x303004,x303005,x303006,x303007,x303008,x303009,x303010,x303011,x303012,x303013,x303014,x305000,x305001,x305002 => (relay_Circuit.f k x303000 x303001 x303002 x303003 x303004 x303005 x303006 x303007 x303008 x303009 x303010 x303011 x303012 x303013 x303014).bind fun bt305 => (relay_Select.l0 k bt305.1 bt305.2 (-1) x0 (x0.length : Int) 0 x305000 x305001 x305002)
def relay_Select.l0 : Nat → ByteArray → Bool → Int → List (S49) → Int → Int → Bool → Int → Int → Option (Int × Bool)
 | 0,_,_,_,_,_,_,_,_,_ => none
 | k + 1,x9,x10,x11,x24,x25,x26,x305000,x305001,x305002 => if x26 < x25 then (if 0 ≤ x26 then (if x26 < (x24.length : Int) then ((prefix_Contains.f k ((rd_T49 x24 x26).f0.f0.f0) ((rd_T49 x24 x26).f0.f0.f1) ((rd_T49 x24 x26).f0.f0.f2) ((rd_T49 x24 x26).f0.f1) x305000 x305001 x305002).bind fun t309 => (if t309 = true then (if ((rd_T49 x24 x26).f1).toList = ([] : List UInt8) then (relay_Select.j2 k x9 x10 x11 x26 x24 x25 x26 false x305000 x305001 x305002 ((rd_T49 x24 x26).f0.f0.f0) ((rd_T49 x24 x26).f0.f0.f1) ((rd_T49 x24 x26).f0.f0.f2) ((rd_T49 x24 x26).f0.f1) ((rd_T49 x24 x26).f1) ((rd_T49 x24 x26).f2) ((rd_T49 x24 x26).f3) ((rd_T49 x24 x26).f4) ((rd_T49 x24 x26).f5)) else (if x10 = true then (relay_Select.j2 k x9 x10 x11 x26 x24 x25 x26 (((rd_T49 x24 x26).f1).toList == x9.toList) x305000 x305001 x305002 ((rd_T49 x24 x26).f0.f0.f0) ((rd_T49 x24 x26).f0.f0.f1) ((rd_T49 x24 x26).f0.f0.f2) ((rd_T49 x24 x26).f0.f1) ((rd_T49 x24 x26).f1) ((rd_T49 x24 x26).f2) ((rd_T49 x24 x26).f3) ((rd_T49 x24 x26).f4) ((rd_T49 x24 x26).f5)) else (relay_Select.j2 k x9 x10 x11 x26 x24 x25 x26 false x305000 x305001 x305002 ((rd_T49 x24 x26).f0.f0.f0) ((rd_T49 x24 x26).f0.f0.f1) ((rd_T49 x24 x26).f0.f0.f2) ((rd_T49 x24 x26).f0.f1) ((rd_T49 x24 x26).f1) ((rd_T49 x24 x26).f2) ((rd_T49 x24 x26).f3) ((rd_T49 x24 x26).f4) ((rd_T49 x24 x26).f5)))) else (relay_Select.l0 k x9 x10 x11 x24 x25 (wrap64 (x26 + 1)) x305000 x305001 x305002))) else (none)) else (none)) else (if x11 < 0 then (some (0,false)) else (some (x11,true)))
def relay_Select.j2 : Nat → ByteArray → Bool → Int → Int → List (S49) → Int → Int → Bool → Bool → Int → Int → Bool → Int → Int → Int → ByteArray → List (S75) → List (S81) → List (S59) → Int → Option (Int × Bool)
 | 0,_,_,_,_,_,_,_,_,_,_,_,_,_,_,_,_,_,_,_,_ => none
 | k + 1,x9,x10,x11,x12,x24,x25,x26,x47,x305000,x305001,x305002,x309000,x309001,x309002,x309003,x309004,x309005,x309006,x309007,x309008 => if x47 = true then (some (x12,true)) else (if x309004.toList = ([] : List UInt8) then (relay_Select.j3 k x9 x10 x11 x12 x24 x25 x26 (decide (x11 < 0)) x305000 x305001 x305002) else (relay_Select.j3 k x9 x10 x11 x12 x24 x25 x26 false x305000 x305001 x305002))
def relay_Select.j3 : Nat → ByteArray → Bool → Int → Int → List (S49) → Int → Int → Bool → Bool → Int → Int → Option (Int × Bool)
 | 0,_,_,_,_,_,_,_,_,_,_,_ => none
 | k + 1,x9,x10,x11,x12,x24,x25,x26,x55,x305000,x305001,x305002 => if x55 = true then (relay_Select.l0 k x9 x10 x12 x24 x25 (wrap64 (x26 + 1)) x305000 x305001 x305002) else (relay_Select.l0 k x9 x10 x11 x24 x25 (wrap64 (x26 + 1)) x305000 x305001 x305002)
end
def relay_Select.f (k : Nat) (l0 : List (S49)) (a1_0 : Int) (a1_1 : Int) (a1_2 : Int) (a1_3 : ByteArray) (a1_4 : Bool) (a1_5 : Int) (a1_6 : Int) (a1_7 : Bool) (a1_8 : Int) (a1_9 : Int) (a1_10 : Bool) (a1_11 : Int) (a1_12 : Int) (a1_13 : Bool) (l1_14 : List (S59)) (a2_0 : Bool) (a2_1 : Int) (a2_2 : Int) : Option (Int × Bool) := if a1_13 = true then (relay_Select.j0 k l0 a1_0 a1_1 a1_2 a1_3 a1_4 a1_5 a1_6 a1_7 a1_8 a1_9 a1_10 a1_11 a1_12 a1_13 l1_14 a1_10 a1_11 a1_12) else (relay_Select.j0 k l0 a1_0 a1_1 a1_2 a1_3 a1_4 a1_5 a1_6 a1_7 a1_8 a1_9 a1_10 a1_11 a1_12 a1_13 l1_14 a2_0 a2_1 a2_2)
theorem relay_Select.mono_l : ∀ k,(∀ y0 y1 y2 y3 y4 y5 y6 y7 y8 y9 y10 y11 y12 y13 y14 y15 y16 y17 y18,LeO (relay_Select.j0 k y0 y1 y2 y3 y4 y5 y6 y7 y8 y9 y10 y11 y12 y13 y14 y15 y16 y17 y18) (relay_Select.j0 (k + 1) y0 y1 y2 y3 y4 y5 y6 y7 y8 y9 y10 y11 y12 y13 y14 y15 y16 y17 y18)) ∧ (∀ y0 y1 y2 y3 y4 y5 y6 y7 y8,LeO (relay_Select.l0 k y0 y1 y2 y3 y4 y5 y6 y7 y8) (relay_Select.l0 (k + 1) y0 y1 y2 y3 y4 y5 y6 y7 y8)) ∧ (∀ y0 y1 y2 y3 y4 y5 y6 y7 y8 y9 y10 y11 y12 y13 y14 y15 y16 y17 y18 y19,LeO (relay_Select.j2 k y0 y1 y2 y3 y4 y5 y6 y7 y8 y9 y10 y11 y12 y13 y14 y15 y16 y17 y18 y19) (relay_Select.j2 (k + 1) y0 y1 y2 y3 y4 y5 y6 y7 y8 y9 y10 y11 y12 y13 y14 y15 y16 y17 y18 y19)) ∧ (∀ y0 y1 y2 y3 y4 y5 y6 y7 y8 y9 y10,LeO (relay_Select.j3 k y0 y1 y2 y3 y4 y5 y6 y7 y8 y9 y10) (relay_Select.j3 (k + 1) y0 y1 y2 y3 y4 y5 y6 y7 y8 y9 y10))
 | 0 => ⟨fun _ _ _ _ _ _ _ _ _ _ _ _ _ _ _ _ _ _ _ r h => by simp [relay_Select.j0] at h,fun _ _ _ _ _ _ _ _ _ r h => by simp [relay_Select.l0] at h,fun _ _ _ _ _ _ _ _ _ _ _ _ _ _ _ _ _ _ _ _ r h => by simp [relay_Select.j2] at h,fun _ _ _ _ _ _ _ _ _ _ _ r h => by simp [relay_Select.j3] at h⟩
 | k + 1 => by
  obtain ⟨ih0,ih1,ih2,ih3⟩ := relay_Select.mono_l k
  refine ⟨?_,?_,?_,?_⟩
  ·intro y0 y1 y2 y3 y4 y5 y6 y7 y8 y9 y10 y11 y12 y13 y14 y15 y16 y17 y18
   unfold relay_Select.j0
   repeat' first
   | (with_reducible exact ih0 _ _ _ _ _ _ _ _ _ _ _ _ _ _ _ _ _ _ _)
   | (with_reducible exact ih1 _ _ _ _ _ _ _ _ _)
   | (with_reducible exact ih2 _ _ _ _ _ _ _ _ _ _ _ _ _ _ _ _ _ _ _ _)
   | (with_reducible exact ih3 _ _ _ _ _ _ _ _ _ _ _)
   | (with_reducible exact prefix_Contains.mono _ _ _ _ _ _ _ _)
   | (with_reducible exact relay_Circuit.mono _ _ _ _ _ _ _ _ _ _ _ _ _ _ _ _)
   | (with_reducible exact LeO.refl _)
   | (with_reducible exact LeO.none _)
   | (with_reducible refine LeO.ite ?_ ?_)
   | (with_reducible refine LeO.bind ?_ (fun _ => ?_))
  ·intro y0 y1 y2 y3 y4 y5 y6 y7 y8
   unfold relay_Select.l0
   repeat' first
   | (with_reducible exact ih0 _ _ _ _ _ _ _ _ _ _ _ _ _ _ _ _ _ _ _)
   | (with_reducible exact ih1 _ _ _ _ _ _ _ _ _)
   | (with_reducible exact ih2 _ _ _ _ _ _ _ _ _ _ _ _ _ _ _ _ _ _ _ _)
   | (with_reducible exact ih3 _ _ _ _ _ _ _ _ _ _ _)
   | (with_reducible exact prefix_Contains.mono _ _ _ _ _ _ _ _)
   | (with_reducible exact relay_Circuit.mono _ _ _ _ _ _ _ _ _ _ _ _ _ _ _ _)
   | (with_reducible exact LeO.refl _)
   | (with_reducible exact LeO.none _)
   | (with_reducible refine LeO.ite ?_ ?_)
   | (with_reducible refine LeO.bind ?_ (fun _ => ?_))
  ·intro y0 y1 y2 y3 y4 y5 y6 y7 y8 y9 y10 y11 y12 y13 y14 y15 y16 y17 y18 y19
   unfold relay_Select.j2
   repeat' first
   | (with_reducible exact ih0 _ _ _ _ _ _ _ _ _ _ _ _ _ _ _ _ _ _ _)
   | (with_reducible exact ih1 _ _ _ _ _ _ _ _ _)
   | (with_reducible exact ih2 _ _ _ _ _ _ _ _ _ _ _ _ _ _ _ _ _ _ _ _)
   | (with_reducible exact ih3 _ _ _ _ _ _ _ _ _ _ _)
   | (with_reducible exact prefix_Contains.mono _ _ _ _ _ _ _ _)
   | (with_reducible exact relay_Circuit.mono _ _ _ _ _ _ _ _ _ _ _ _ _ _ _ _)
   | (with_reducible exact LeO.refl _)
   | (with_reducible exact LeO.none _)
   | (with_reducible refine LeO.ite ?_ ?_)
   | (with_reducible refine LeO.bind ?_ (fun _ => ?_))
  ·intro y0 y1 y2 y3 y4 y5 y6 y7 y8 y9 y10
   unfold relay_Select.j3
   repeat' first
   | (with_reducible exact ih0 _ _ _ _ _ _ _ _ _ _ _ _ _ _ _ _ _ _ _)
   | (with_reducible exact ih1 _ _ _ _ _ _ _ _ _)
   | (with_reducible exact ih2 _ _ _ _ _ _ _ _ _ _ _ _ _ _ _ _ _ _ _ _)
   | (with_reducible exact ih3 _ _ _ _ _ _ _ _ _ _ _)
   | (with_reducible exact prefix_Contains.mono _ _ _ _ _ _ _ _)
   | (with_reducible exact relay_Circuit.mono _ _ _ _ _ _ _ _ _ _ _ _ _ _ _ _)
   | (with_reducible exact LeO.refl _)
   | (with_reducible exact LeO.none _)
   | (with_reducible refine LeO.ite ?_ ?_)
   | (with_reducible refine LeO.bind ?_ (fun _ => ?_))
theorem relay_Select.mono : ∀ a0 a1 a2 a3 a4 a5 a6 a7 a8 a9 a10 a11 a12 a13 a14 a15 a16 a17 a18 k,LeO (relay_Select.f k a0 a1 a2 a3 a4 a5 a6 a7 a8 a9 a10 a11 a12 a13 a14 a15 a16 a17 a18) (relay_Select.f (k + 1) a0 a1 a2 a3 a4 a5 a6 a7 a8 a9 a10 a11 a12 a13 a14 a15 a16 a17 a18) := by
 intro a0 a1 a2 a3 a4 a5 a6 a7 a8 a9 a10 a11 a12 a13 a14 a15 a16 a17 a18 k
 obtain ⟨ih0,ih1,ih2,ih3⟩ := relay_Select.mono_l k
 unfold relay_Select.f
 repeat' first
   | (with_reducible exact ih0 _ _ _ _ _ _ _ _ _ _ _ _ _ _ _ _ _ _ _)
   | (with_reducible exact ih1 _ _ _ _ _ _ _ _ _)
   | (with_reducible exact ih2 _ _ _ _ _ _ _ _ _ _ _ _ _ _ _ _ _ _ _ _)
   | (with_reducible exact ih3 _ _ _ _ _ _ _ _ _ _ _)
   | (with_reducible exact prefix_Contains.mono _ _ _ _ _ _ _ _)
   | (with_reducible exact relay_Circuit.mono _ _ _ _ _ _ _ _ _ _ _ _ _ _ _ _)
   | (with_reducible exact LeO.refl _)
   | (with_reducible exact LeO.none _)
   | (with_reducible refine LeO.ite ?_ ?_)
   | (with_reducible refine LeO.bind ?_ (fun _ => ?_))
def ddilaw39_subnet.f (a0 : Int) (a1 : ByteArray) : Option (Bool × Int × Int × Int × ByteArray × (List (S75)) × (List (S81)) × (List (S59)) × Int) := some (false,0,a0,24,a1,([] : List (S75)),([] : List (S81)),([] : List (S59)),60)
def ddilaw39_awake.f (k : Nat)  : Option (Bool) := (relay_Insert.f k 1 0 0 (⟨#[99]⟩ : ByteArray) false 0 0 false 0 0 false 0 0 false ([] : List (S59)) false 0 167772161 (⟨#[97,98]⟩ : ByteArray)).bind fun bt312 => ((relay_Insert.f k bt312.1 bt312.2.1 bt312.2.2.1 bt312.2.2.2.1 bt312.2.2.2.2.1 bt312.2.2.2.2.2.1 bt312.2.2.2.2.2.2.1 bt312.2.2.2.2.2.2.2.1 bt312.2.2.2.2.2.2.2.2.1 bt312.2.2.2.2.2.2.2.2.2.1 bt312.2.2.2.2.2.2.2.2.2.2.1 bt312.2.2.2.2.2.2.2.2.2.2.2.1 bt312.2.2.2.2.2.2.2.2.2.2.2.2.1 bt312.2.2.2.2.2.2.2.2.2.2.2.2.2.1 bt312.2.2.2.2.2.2.2.2.2.2.2.2.2.2.1 false 0 167772161 (⟨#[97,98]⟩ : ByteArray)).bind fun bt331 => ((relay_Circuit.f k bt312.1 bt312.2.1 bt312.2.2.1 bt312.2.2.2.1 bt312.2.2.2.2.1 bt312.2.2.2.2.2.1 bt312.2.2.2.2.2.2.1 bt312.2.2.2.2.2.2.2.1 bt312.2.2.2.2.2.2.2.2.1 bt312.2.2.2.2.2.2.2.2.2.1 bt312.2.2.2.2.2.2.2.2.2.2.1 bt312.2.2.2.2.2.2.2.2.2.2.2.1 bt312.2.2.2.2.2.2.2.2.2.2.2.2.1 bt312.2.2.2.2.2.2.2.2.2.2.2.2.2.1 bt312.2.2.2.2.2.2.2.2.2.2.2.2.2.2.1).bind fun bt350 => ((relay_Circuit.f k 0 0 0 (⟨#[]⟩ : ByteArray) false 0 0 false 0 0 false 0 0 false (([(⟨82,(⟨#[1,3,97,98]⟩ : ByteArray)⟩ : S59)] : List (S59)))).bind fun bt355 => ((ddilaw39_subnet.f 167772160 (⟨#[]⟩ : ByteArray)).bind fun bt357 => ((ddilaw39_subnet.f 167772160 (⟨#[97,98]⟩ : ByteArray)).bind fun bt372 => ((ddilaw39_subnet.f 184549376 (⟨#[]⟩ : ByteArray)).bind fun bt387 => ((some (([(⟨(⟨(⟨bt357.1,bt357.2.1,bt357.2.2.1⟩ : S24),bt357.2.2.2.1⟩ : S45),bt357.2.2.2.2.1,bt357.2.2.2.2.2.1,bt357.2.2.2.2.2.2.1,bt357.2.2.2.2.2.2.2.1,bt357.2.2.2.2.2.2.2.2⟩ : S49),(⟨(⟨(⟨bt372.1,bt372.2.1,bt372.2.2.1⟩ : S24),bt372.2.2.2.1⟩ : S45),bt372.2.2.2.2.1,bt372.2.2.2.2.2.1,bt372.2.2.2.2.2.2.1,bt372.2.2.2.2.2.2.2.1,bt372.2.2.2.2.2.2.2.2⟩ : S49),(⟨(⟨(⟨bt387.1,bt387.2.1,bt387.2.2.1⟩ : S24),bt387.2.2.2.1⟩ : S45),bt387.2.2.2.2.1,bt387.2.2.2.2.2.1,bt387.2.2.2.2.2.2.1,bt387.2.2.2.2.2.2.2.1,bt387.2.2.2.2.2.2.2.2⟩ : S49)] : List (S49)) : List (S49))).bind fun y402 => ((relay_Select.f k y402 bt312.1 bt312.2.1 bt312.2.2.1 bt312.2.2.2.1 bt312.2.2.2.2.1 bt312.2.2.2.2.2.1 bt312.2.2.2.2.2.2.1 bt312.2.2.2.2.2.2.2.1 bt312.2.2.2.2.2.2.2.2.1 bt312.2.2.2.2.2.2.2.2.2.1 bt312.2.2.2.2.2.2.2.2.2.2.1 bt312.2.2.2.2.2.2.2.2.2.2.2.1 bt312.2.2.2.2.2.2.2.2.2.2.2.2.1 bt312.2.2.2.2.2.2.2.2.2.2.2.2.2.1 bt312.2.2.2.2.2.2.2.2.2.2.2.2.2.2.1 false 0 0).bind fun bt405 => ((relay_Select.f k y402 1 0 0 (⟨#[99]⟩ : ByteArray) false 0 0 false 0 0 false 0 0 false ([] : List (S59)) false 0 184549381).bind fun bt407 => (if bt312.2.2.2.2.2.2.2.2.2.2.2.2.2.2.2 = 0 then (if (bt312.2.2.2.2.2.2.2.2.2.2.2.2.2.2.1.length : Int) = 1 then (if 0 < (bt312.2.2.2.2.2.2.2.2.2.2.2.2.2.2.1.length : Int) then (if ((rd_T59 bt312.2.2.2.2.2.2.2.2.2.2.2.2.2.2.1 0).f1).toList = ([1,2,97,98] : List UInt8) then (if bt331.2.2.2.2.2.2.2.2.2.2.2.2.2.2.2 = 21 then (if bt350.1.toList = ([97,98] : List UInt8) then (if bt350.2 = true then (if bt355.2 = true then (some false) else (if bt405.1 = 1 then (if bt405.2 = true then (if bt407.1 = 2 then (if bt407.2 = true then (if 2 ≤ (y402.length : Int) then ((relay_Check.f k (y402.take 2)).bind fun t415 => (if t415 = 24 then ((relay_Strip.f k bt312.1 bt312.2.1 bt312.2.2.1 bt312.2.2.2.1 bt312.2.2.2.2.1 bt312.2.2.2.2.2.1 bt312.2.2.2.2.2.2.1 bt312.2.2.2.2.2.2.2.1 bt312.2.2.2.2.2.2.2.2.1 bt312.2.2.2.2.2.2.2.2.2.1 bt312.2.2.2.2.2.2.2.2.2.2.1 bt312.2.2.2.2.2.2.2.2.2.2.2.1 bt312.2.2.2.2.2.2.2.2.2.2.2.2.1 bt312.2.2.2.2.2.2.2.2.2.2.2.2.2.1 bt312.2.2.2.2.2.2.2.2.2.2.2.2.2.2.1).bind fun bt416 => ((ddiref36_Same.f k bt416.1 bt416.2.1 bt416.2.2.1 bt416.2.2.2.1 bt416.2.2.2.2.1 bt416.2.2.2.2.2.1 bt416.2.2.2.2.2.2.1 bt416.2.2.2.2.2.2.2.1 bt416.2.2.2.2.2.2.2.2.1 bt416.2.2.2.2.2.2.2.2.2.1 bt416.2.2.2.2.2.2.2.2.2.2.1 bt416.2.2.2.2.2.2.2.2.2.2.2.1 bt416.2.2.2.2.2.2.2.2.2.2.2.2.1 bt416.2.2.2.2.2.2.2.2.2.2.2.2.2.1 bt416.2.2.2.2.2.2.2.2.2.2.2.2.2.2 1 0 0 (⟨#[99]⟩ : ByteArray) false 0 0 false 0 0 false 0 0 false ([] : List (S59))).bind fun t433 => (some t433))) else (some false))) else (none)) else (some false)) else (some false)) else (some false)) else (some false))) else (some false)) else (some false)) else (some false)) else (some false)) else (none)) else (some false)) else (some false)))))))))))
theorem ddilaw39_awake.mono : ∀ k,LeO (ddilaw39_awake.f k ) (ddilaw39_awake.f (k + 1) ) := by
 intro  k
 unfold ddilaw39_awake.f
 repeat' first
   | (with_reducible exact ddiref36_Same.mono _ _ _ _ _ _ _ _ _ _ _ _ _ _ _ _ _ _ _ _ _ _ _ _ _ _ _ _ _ _ _)
   | (with_reducible exact relay_Check.mono _ _)
   | (with_reducible exact relay_Circuit.mono _ _ _ _ _ _ _ _ _ _ _ _ _ _ _ _)
   | (with_reducible exact relay_Insert.mono _ _ _ _ _ _ _ _ _ _ _ _ _ _ _ _ _ _ _ _)
   | (with_reducible exact relay_Select.mono _ _ _ _ _ _ _ _ _ _ _ _ _ _ _ _ _ _ _ _)
   | (with_reducible exact relay_Strip.mono _ _ _ _ _ _ _ _ _ _ _ _ _ _ _ _)
   | (with_reducible exact LeO.refl _)
   | (with_reducible exact LeO.none _)
   | (with_reducible refine LeO.ite ?_ ?_)
   | (with_reducible refine LeO.bind ?_ (fun _ => ?_))
mutual
def ddilaw39_few.l0 : Nat → List (S49) → List (S49) → Int → Option ((List (S49)))
 | 0,_,_,_ => none
 | k + 1,x0,x3,x4 => if x4 < (x0.length : Int) then (ddilaw39_few.j1 k x0 x3 x4 (decide (x4 < 20))) else (ddilaw39_few.j1 k x0 x3 x4 false)
def ddilaw39_few.j1 : Nat → List (S49) → List (S49) → Int → Bool → Option ((List (S49)))
 | 0,_,_,_,_ => none
 | k + 1,x0,x3,x4,x13 => if x13 = true then (if 0 ≤ x4 then (if x4 < (x0.length : Int) then (if 0 ≤ (mn (((rd_T49 x0 x4).f1).size : Int) 300) then (if (mn (((rd_T49 x0 x4).f1).size : Int) 300) ≤ (((rd_T49 x0 x4).f1).size : Int) then (if 0 ≤ (mn (((rd_T49 x0 x4).f2).length : Int) 20) then (if (mn (((rd_T49 x0 x4).f2).length : Int) 20) ≤ (((rd_T49 x0 x4).f2).length : Int) then (if 0 ≤ (mn (((rd_T49 x0 x4).f3).length : Int) 20) then (if (mn (((rd_T49 x0 x4).f3).length : Int) 20) ≤ (((rd_T49 x0 x4).f3).length : Int) then ((ddiref36_Short.f k 0 0 0 (⟨#[]⟩ : ByteArray) false 0 0 false 0 0 false 0 0 false ((rd_T49 x0 x4).f4)).bind fun bt446 => (if x3.length < 1099511627776 then (ddilaw39_few.l0 k x0 (x3 ++ [(⟨(⟨(⟨(rd_T49 x0 x4).f0.f0.f0,(rd_T49 x0 x4).f0.f0.f1,(rd_T49 x0 x4).f0.f0.f2⟩ : S24),(rd_T49 x0 x4).f0.f1⟩ : S45),((rd_T49 x0 x4).f1).extract 0 ((mn (((rd_T49 x0 x4).f1).size : Int) 300) : Int).toNat,(((rd_T49 x0 x4).f2).take ((mn (((rd_T49 x0 x4).f2).length : Int) 20) : Int).toNat),(((rd_T49 x0 x4).f3).take ((mn (((rd_T49 x0 x4).f3).length : Int) 20) : Int).toNat),bt446.2.2.2.2.2.2.2.2.2.2.2.2.2.2,(rd_T49 x0 x4).f5⟩ : S49)]) (wrap64 (x4 + 1))) else (none))) else (none)) else (none)) else (none)) else (none)) else (none)) else (none)) else (none)) else (none)) else (some x3)
end
def ddilaw39_few.f (k : Nat) (l0 : List (S49)) : Option ((List (S49))) := ddilaw39_few.l0 k l0 ([] : List (S49)) 0
mutual
def ddilaw39_RelayFits.j0 : Nat → List (S49) → Int → Int → Int → ByteArray → Bool → Int → Int → Bool → Int → Int → Bool → Int → Int → Bool → List (S59) → Bool → Int → Int → Bool → Int → Int → Option (Bool)
 | 0,_,_,_,_,_,_,_,_,_,_,_,_,_,_,_,_,_,_,_,_,_,_ => none
 | k + 1,x0,x467000,x467001,x467002,x467003,x467004,x467005,x467006,x467007,x467008,x467009,x467010,x467011,x467012,x467013,x467014,x468000,x468001,x468002,x489000,x489001,x489002 => (relay_Circuit.f k x467000 x467001 x467002 x467003 x467004 x467005 x467006 x467007 x467008 x467009 x467010 x467011 x467012 x467013 x467014).bind fun bt489 => ((relay_Select.f k x0 x467000 x467001 x467002 x467003 x467004 x467005 x467006 x467007 x467008 x467009 x467010 x467011 x467012 x467013 x467014 x468000 x468001 x468002).bind fun bt491 => (if bt491.2 = true then (if bt491.1 < 0 then (ddilaw39_RelayFits.j1 k x0 bt489.1 bt489.2 bt491.1 bt491.2 true x467000 x467001 x467002 x467003 x467004 x467005 x467006 x467007 x467008 x467009 x467010 x467011 x467012 x467013 x467014 x468000 x468001 x468002 x489000 x489001 x489002) else (ddilaw39_RelayFits.j1 k x0 bt489.1 bt489.2 bt491.1 bt491.2 (decide (bt491.1 ≥ (x0.length : Int))) x467000 x467001 x467002 x467003 x467004 x467005 x467006 x467007 x467008 x467009 x467010 x467011 x467012 x467013 x467014 x468000 x468001 x468002 x489000 x489001 x489002)) else (ddilaw39_RelayFits.j1 k x0 bt489.1 bt489.2 bt491.1 bt491.2 false x467000 x467001 x467002 x467003 x467004 x467005 x467006 x467007 x467008 x467009 x467010 x467011 x467012 x467013 x467014 x468000 x468001 x468002 x489000 x489001 x489002)))
def ddilaw39_RelayFits.j1 : Nat → List (S49) → ByteArray → Bool → Int → Bool → Bool → Int → Int → Int → ByteArray → Bool → Int → Int → Bool → Int → Int → Bool → Int → Int → Bool → List (S59) → Bool → Int → Int → Bool → Int → Int → Option (Bool)
 | 0,_,_,_,_,_,_,_,_,_,_,_,_,_,_,_,_,_,_,_,_,_,_,_,_,_,_,_ => none
 | k + 1,x0,x8,x9,x10,x11,x49,x467000,x467001,x467002,x467003,x467004,x467005,x467006,x467007,x467008,x467009,x467010,x467011,x467012,x467013,x467014,x468000,x468001,x468002,x489000,x489001,x489002 => if x49 = true then (some false) else (ddilaw39_RelayFits.l0 k x0 x8 x9 x10 x11 x0 (x0.length : Int) 0 x467000 x467001 x467002 x467003 x467004 x467005 x467006 x467007 x467008 x467009 x467010 x467011 x467012 x467013 x467014 x468000 x468001 x468002 x489000 x489001 x489002)
def ddilaw39_RelayFits.l0 : Nat → List (S49) → ByteArray → Bool → Int → Bool → List (S49) → Int → Int → Int → Int → Int → ByteArray → Bool → Int → Int → Bool → Int → Int → Bool → Int → Int → Bool → List (S59) → Bool → Int → Int → Bool → Int → Int → Option (Bool)
 | 0,_,_,_,_,_,_,_,_,_,_,_,_,_,_,_,_,_,_,_,_,_,_,_,_,_,_,_,_,_ => none
 | k + 1,x0,x8,x9,x10,x11,x50,x51,x52,x467000,x467001,x467002,x467003,x467004,x467005,x467006,x467007,x467008,x467009,x467010,x467011,x467012,x467013,x467014,x468000,x468001,x468002,x489000,x489001,x489002 => if x52 < x51 then (if 0 ≤ x52 then (if x52 < (x50.length : Int) then ((prefix_Contains.f k ((rd_T49 x50 x52).f0.f0.f0) ((rd_T49 x50 x52).f0.f0.f1) ((rd_T49 x50 x52).f0.f0.f2) ((rd_T49 x50 x52).f0.f1) x489000 x489001 x489002).bind fun t495 => (if t495 = true then (if ((rd_T49 x50 x52).f1).toList = ([] : List UInt8) then (ddilaw39_RelayFits.j3 k x0 x8 x9 x10 x11 x52 true x50 x51 x52 x467000 x467001 x467002 x467003 x467004 x467005 x467006 x467007 x467008 x467009 x467010 x467011 x467012 x467013 x467014 x468000 x468001 x468002 x489000 x489001 x489002 ((rd_T49 x50 x52).f0.f0.f0) ((rd_T49 x50 x52).f0.f0.f1) ((rd_T49 x50 x52).f0.f0.f2) ((rd_T49 x50 x52).f0.f1) ((rd_T49 x50 x52).f1) ((rd_T49 x50 x52).f2) ((rd_T49 x50 x52).f3) ((rd_T49 x50 x52).f4) ((rd_T49 x50 x52).f5)) else (if x9 = true then (ddilaw39_RelayFits.j3 k x0 x8 x9 x10 x11 x52 (((rd_T49 x50 x52).f1).toList == x8.toList) x50 x51 x52 x467000 x467001 x467002 x467003 x467004 x467005 x467006 x467007 x467008 x467009 x467010 x467011 x467012 x467013 x467014 x468000 x468001 x468002 x489000 x489001 x489002 ((rd_T49 x50 x52).f0.f0.f0) ((rd_T49 x50 x52).f0.f0.f1) ((rd_T49 x50 x52).f0.f0.f2) ((rd_T49 x50 x52).f0.f1) ((rd_T49 x50 x52).f1) ((rd_T49 x50 x52).f2) ((rd_T49 x50 x52).f3) ((rd_T49 x50 x52).f4) ((rd_T49 x50 x52).f5)) else (ddilaw39_RelayFits.j3 k x0 x8 x9 x10 x11 x52 false x50 x51 x52 x467000 x467001 x467002 x467003 x467004 x467005 x467006 x467007 x467008 x467009 x467010 x467011 x467012 x467013 x467014 x468000 x468001 x468002 x489000 x489001 x489002 ((rd_T49 x50 x52).f0.f0.f0) ((rd_T49 x50 x52).f0.f0.f1) ((rd_T49 x50 x52).f0.f0.f2) ((rd_T49 x50 x52).f0.f1) ((rd_T49 x50 x52).f1) ((rd_T49 x50 x52).f2) ((rd_T49 x50 x52).f3) ((rd_T49 x50 x52).f4) ((rd_T49 x50 x52).f5)))) else (ddilaw39_RelayFits.j3 k x0 x8 x9 x10 x11 x52 false x50 x51 x52 x467000 x467001 x467002 x467003 x467004 x467005 x467006 x467007 x467008 x467009 x467010 x467011 x467012 x467013 x467014 x468000 x468001 x468002 x489000 x489001 x489002 ((rd_T49 x50 x52).f0.f0.f0) ((rd_T49 x50 x52).f0.f0.f1) ((rd_T49 x50 x52).f0.f0.f2) ((rd_T49 x50 x52).f0.f1) ((rd_T49 x50 x52).f1) ((rd_T49 x50 x52).f2) ((rd_T49 x50 x52).f3) ((rd_T49 x50 x52).f4) ((rd_T49 x50 x52).f5)))) else (none)) else (none)) else ((relay_Select.f k x0 (wrap64 (x467000 + 1)) x467001 x467002 (⟨#[]⟩ : ByteArray) x468000 x468001 x468002 x467007 x467008 x467009 x467010 x467011 x467012 x467013 x467014 x468000 x468001 x468002).bind fun bt499 => (if bt499.1 = x10 then (if (bt499.2 == x11) = true then ((ddilaw39_awake.f k).bind fun t501 => (some t501)) else (some false)) else (some false)))
def ddilaw39_RelayFits.j3 : Nat → List (S49) → ByteArray → Bool → Int → Bool → Int → Bool → List (S49) → Int → Int → Int → Int → Int → ByteArray → Bool → Int → Int → Bool → Int → Int → Bool → Int → Int → Bool → List (S59) → Bool → Int → Int → Bool → Int → Int → Bool → Int → Int → Int → ByteArray → List (S75) → List (S81) → List (S59) → Int → Option (Bool)
 | 0,_,_,_,_,_,_,_,_,_,_,_,_,_,_,_,_,_,_,_,_,_,_,_,_,_,_,_,_,_,_,_,_,_,_,_,_,_,_,_,_ => none
 | k + 1,x0,x8,x9,x10,x11,x12,x14,x50,x51,x52,x467000,x467001,x467002,x467003,x467004,x467005,x467006,x467007,x467008,x467009,x467010,x467011,x467012,x467013,x467014,x468000,x468001,x468002,x489000,x489001,x489002,x495000,x495001,x495002,x495003,x495004,x495005,x495006,x495007,x495008 => if x14 = true then (if x11 = true then (if x12 = x10 then (ddilaw39_RelayFits.j4 k x0 x8 x9 x10 x11 x12 x14 x50 x51 x52 (!x14) x467000 x467001 x467002 x467003 x467004 x467005 x467006 x467007 x467008 x467009 x467010 x467011 x467012 x467013 x467014 x468000 x468001 x468002 x489000 x489001 x489002 x495000 x495001 x495002 x495003 x495004 x495005 x495006 x495007 x495008) else (ddilaw39_RelayFits.j4 k x0 x8 x9 x10 x11 x12 x14 x50 x51 x52 false x467000 x467001 x467002 x467003 x467004 x467005 x467006 x467007 x467008 x467009 x467010 x467011 x467012 x467013 x467014 x468000 x468001 x468002 x489000 x489001 x489002 x495000 x495001 x495002 x495003 x495004 x495005 x495006 x495007 x495008)) else (ddilaw39_RelayFits.j4 k x0 x8 x9 x10 x11 x12 x14 x50 x51 x52 true x467000 x467001 x467002 x467003 x467004 x467005 x467006 x467007 x467008 x467009 x467010 x467011 x467012 x467013 x467014 x468000 x468001 x468002 x489000 x489001 x489002 x495000 x495001 x495002 x495003 x495004 x495005 x495006 x495007 x495008)) else (if x11 = true then (if x12 = x10 then (ddilaw39_RelayFits.j4 k x0 x8 x9 x10 x11 x12 x14 x50 x51 x52 (!x14) x467000 x467001 x467002 x467003 x467004 x467005 x467006 x467007 x467008 x467009 x467010 x467011 x467012 x467013 x467014 x468000 x468001 x468002 x489000 x489001 x489002 x495000 x495001 x495002 x495003 x495004 x495005 x495006 x495007 x495008) else (ddilaw39_RelayFits.j4 k x0 x8 x9 x10 x11 x12 x14 x50 x51 x52 false x467000 x467001 x467002 x467003 x467004 x467005 x467006 x467007 x467008 x467009 x467010 x467011 x467012 x467013 x467014 x468000 x468001 x468002 x489000 x489001 x489002 x495000 x495001 x495002 x495003 x495004 x495005 x495006 x495007 x495008)) else (ddilaw39_RelayFits.j4 k x0 x8 x9 x10 x11 x12 x14 x50 x51 x52 false x467000 x467001 x467002 x467003 x467004 x467005 x467006 x467007 x467008 x467009 x467010 x467011 x467012 x467013 x467014 x468000 x468001 x468002 x489000 x489001 x489002 x495000 x495001 x495002 x495003 x495004 x495005 x495006 x495007 x495008))
def ddilaw39_RelayFits.j4 : Nat → List (S49) → ByteArray → Bool → Int → Bool → Int → Bool → List (S49) → Int → Int → Bool → Int → Int → Int → ByteArray → Bool → Int → Int → Bool → Int → Int → Bool → Int → Int → Bool → List (S59) → Bool → Int → Int → Bool → Int → Int → Bool → Int → Int → Int → ByteArray → List (S75) → List (S81) → List (S59) → Int → Option (Bool)
 | 0,_,_,_,_,_,_,_,_,_,_,_,_,_,_,_,_,_,_,_,_,_,_,_,_,_,_,_,_,_,_,_,_,_,_,_,_,_,_,_,_,_ => none
 | k + 1,x0,x8,x9,x10,x11,x12,x14,x50,x51,x52,x91,x467000,x467001,x467002,x467003,x467004,x467005,x467006,x467007,x467008,x467009,x467010,x467011,x467012,x467013,x467014,x468000,x468001,x468002,x489000,x489001,x489002,x495000,x495001,x495002,x495003,x495004,x495005,x495006,x495007,x495008 => if x91 = true then (some false) else (if x14 = true then (if x12 < x10 then (if x495004.toList = ([] : List UInt8) then (if 0 ≤ x10 then (if x10 < (x0.length : Int) then (if ((rd_T49 x0 x10).f1).toList = ([] : List UInt8) then (ddilaw39_RelayFits.j5 k x0 x8 x9 x10 x11 x50 x51 x52 true x467000 x467001 x467002 x467003 x467004 x467005 x467006 x467007 x467008 x467009 x467010 x467011 x467012 x467013 x467014 x468000 x468001 x468002 x489000 x489001 x489002) else (if x12 > x10 then (ddilaw39_RelayFits.j5 k x0 x8 x9 x10 x11 x50 x51 x52 false x467000 x467001 x467002 x467003 x467004 x467005 x467006 x467007 x467008 x467009 x467010 x467011 x467012 x467013 x467014 x468000 x468001 x468002 x489000 x489001 x489002) else (ddilaw39_RelayFits.j5 k x0 x8 x9 x10 x11 x50 x51 x52 false x467000 x467001 x467002 x467003 x467004 x467005 x467006 x467007 x467008 x467009 x467010 x467011 x467012 x467013 x467014 x468000 x468001 x468002 x489000 x489001 x489002))) else (none)) else (none)) else (ddilaw39_RelayFits.j5 k x0 x8 x9 x10 x11 x50 x51 x52 true x467000 x467001 x467002 x467003 x467004 x467005 x467006 x467007 x467008 x467009 x467010 x467011 x467012 x467013 x467014 x468000 x468001 x468002 x489000 x489001 x489002)) else (if x12 > x10 then (if x495004.toList = ([] : List UInt8) then (ddilaw39_RelayFits.j5 k x0 x8 x9 x10 x11 x50 x51 x52 false x467000 x467001 x467002 x467003 x467004 x467005 x467006 x467007 x467008 x467009 x467010 x467011 x467012 x467013 x467014 x468000 x468001 x468002 x489000 x489001 x489002) else (if 0 ≤ x10 then (if x10 < (x0.length : Int) then (ddilaw39_RelayFits.j5 k x0 x8 x9 x10 x11 x50 x51 x52 (((rd_T49 x0 x10).f1).toList == ([] : List UInt8)) x467000 x467001 x467002 x467003 x467004 x467005 x467006 x467007 x467008 x467009 x467010 x467011 x467012 x467013 x467014 x468000 x468001 x468002 x489000 x489001 x489002) else (none)) else (none))) else (ddilaw39_RelayFits.j5 k x0 x8 x9 x10 x11 x50 x51 x52 false x467000 x467001 x467002 x467003 x467004 x467005 x467006 x467007 x467008 x467009 x467010 x467011 x467012 x467013 x467014 x468000 x468001 x468002 x489000 x489001 x489002))) else (ddilaw39_RelayFits.j5 k x0 x8 x9 x10 x11 x50 x51 x52 false x467000 x467001 x467002 x467003 x467004 x467005 x467006 x467007 x467008 x467009 x467010 x467011 x467012 x467013 x467014 x468000 x468001 x468002 x489000 x489001 x489002))
def ddilaw39_RelayFits.j5 : Nat → List (S49) → ByteArray → Bool → Int → Bool → List (S49) → Int → Int → Bool → Int → Int → Int → ByteArray → Bool → Int → Int → Bool → Int → Int → Bool → Int → Int → Bool → List (S59) → Bool → Int → Int → Bool → Int → Int → Option (Bool)
 | 0,_,_,_,_,_,_,_,_,_,_,_,_,_,_,_,_,_,_,_,_,_,_,_,_,_,_,_,_,_,_ => none
 | k + 1,x0,x8,x9,x10,x11,x50,x51,x52,x131,x467000,x467001,x467002,x467003,x467004,x467005,x467006,x467007,x467008,x467009,x467010,x467011,x467012,x467013,x467014,x468000,x468001,x468002,x489000,x489001,x489002 => if x131 = true then (some false) else (ddilaw39_RelayFits.l0 k x0 x8 x9 x10 x11 x50 x51 (wrap64 (x52 + 1)) x467000 x467001 x467002 x467003 x467004 x467005 x467006 x467007 x467008 x467009 x467010 x467011 x467012 x467013 x467014 x468000 x468001 x468002 x489000 x489001 x489002)
end
def ddilaw39_RelayFits.f (k : Nat) (l0 : List (S49)) (a1_0 : Int) (a1_1 : Int) (a1_2 : Int) (a1_3 : ByteArray) (a1_4 : Bool) (a1_5 : Int) (a1_6 : Int) (a1_7 : Bool) (a1_8 : Int) (a1_9 : Int) (a1_10 : Bool) (a1_11 : Int) (a1_12 : Int) (a1_13 : Bool) (l1_14 : List (S59)) (a2_0 : Bool) (a2_1 : Int) (a2_2 : Int) : Option (Bool) := (ddilaw39_few.f k l0).bind fun t468 => ((ddiref36_Short.f k a1_0 a1_1 a1_2 a1_3 a1_4 a1_5 a1_6 a1_7 a1_8 a1_9 a1_10 a1_11 a1_12 a1_13 l1_14).bind fun bt471 => (if bt471.2.2.2.2.2.2.2.2.2.2.2.2.2.1 = true then (ddilaw39_RelayFits.j0 k t468 bt471.1 bt471.2.1 bt471.2.2.1 bt471.2.2.2.1 bt471.2.2.2.2.1 bt471.2.2.2.2.2.1 bt471.2.2.2.2.2.2.1 bt471.2.2.2.2.2.2.2.1 bt471.2.2.2.2.2.2.2.2.1 bt471.2.2.2.2.2.2.2.2.2.1 bt471.2.2.2.2.2.2.2.2.2.2.1 bt471.2.2.2.2.2.2.2.2.2.2.2.1 bt471.2.2.2.2.2.2.2.2.2.2.2.2.1 bt471.2.2.2.2.2.2.2.2.2.2.2.2.2.1 bt471.2.2.2.2.2.2.2.2.2.2.2.2.2.2 a2_0 a2_1 a2_2 bt471.2.2.2.2.2.2.2.2.2.2.1 bt471.2.2.2.2.2.2.2.2.2.2.2.1 bt471.2.2.2.2.2.2.2.2.2.2.2.2.1) else (ddilaw39_RelayFits.j0 k t468 bt471.1 bt471.2.1 bt471.2.2.1 bt471.2.2.2.1 bt471.2.2.2.2.1 bt471.2.2.2.2.2.1 bt471.2.2.2.2.2.2.1 bt471.2.2.2.2.2.2.2.1 bt471.2.2.2.2.2.2.2.2.1 bt471.2.2.2.2.2.2.2.2.2.1 bt471.2.2.2.2.2.2.2.2.2.2.1 bt471.2.2.2.2.2.2.2.2.2.2.2.1 bt471.2.2.2.2.2.2.2.2.2.2.2.2.1 bt471.2.2.2.2.2.2.2.2.2.2.2.2.2.1 bt471.2.2.2.2.2.2.2.2.2.2.2.2.2.2 a2_0 a2_1 a2_2 a2_0 a2_1 a2_2)))
/-- THE ONE PURE STATEMENT of ddilaw39_RelayFits: ours. -/
def ddilaw39_RelayFits.Pure : Prop := ∀ (l0 : List (S49)) (a1_0 : Int) (a1_1 : Int) (a1_2 : Int) (a1_3 : ByteArray) (a1_4 : Bool) (a1_5 : Int) (a1_6 : Int) (a1_7 : Bool) (a1_8 : Int) (a1_9 : Int) (a1_10 : Bool) (a1_11 : Int) (a1_12 : Int) (a1_13 : Bool) (l1_14 : List (S59)) (a2_0 : Bool) (a2_1 : Int) (a2_2 : Int),(l0.length * 128 ≤ 140737488351232 ∧ l0.length ≤ maxLen ∧ ∀ y0_ ∈ l0,okS49 y0_) → okS27 (⟨a1_0,a1_1,a1_2,a1_3,(⟨a1_4,a1_5,a1_6⟩ : S24),(⟨a1_7,a1_8,a1_9⟩ : S24),(⟨a1_10,a1_11,a1_12⟩ : S24),a1_13,l1_14⟩ : S27) → okS24 (⟨a2_0,a2_1,a2_2⟩ : S24) → ∃ k,ddilaw39_RelayFits.f k l0 a1_0 a1_1 a1_2 a1_3 a1_4 a1_5 a1_6 a1_7 a1_8 a1_9 a1_10 a1_11 a1_12 a1_13 l1_14 a2_0 a2_1 a2_2 = some true
end Go.Proofs.YtngfffoeaghhhaaDoor.QA
