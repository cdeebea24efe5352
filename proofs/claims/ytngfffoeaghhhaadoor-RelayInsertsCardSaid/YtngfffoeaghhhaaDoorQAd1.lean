import Derived.Test.YtngfffoeaghhhaaDoorXB
import Derived.Test.YtngfffoeaghhhaaDoorXC
import Derived.Test.YtngfffoeaghhhaaDoorXR
import Derived.Test.YtngfffoeaghhhaaDoorWMore
import Derived.Below
import Derived.Deep.Draws
import Derived.Deep.AppendLies
import Derived.Maps.AppendAt
import Derived.OwnWalk
import Derived.Laws.BytesArg
import Derived.Laws.MakeOwn
import Derived.Laws.OwnMore
import Derived.Deep.OwnRows
import Derived.Tactics
import Derived.Lib.ConvBytes
import Derived.Laws.Slices
import Derived.WalkKit
import Derived.KernelRfl
import Derived.RowKit3
import Derived.Deep.LoopGhost
import Derived.Deep.QuietTactic
import Derived.BigQuiet
import Derived.WideLaws
import Derived.Deep.DeepCutAuto
import Derived.Deep.CutBlock
import Derived.Deep.RegionHeld3
import Derived.Laws.Rows
import Derived.Lib.AppendStr
import Derived.ArgAppend
import Derived.Laws.IdiomCopy
import Derived.OrdersHeld
import Derived.Laws.BitsLemmas
import Derived.RowKit
namespace Go.Proofs.YtngfffoeaghhhaaDoor.QA
open Go.RowKit Go.Proofs.YtngfffoeaghhhaaDoorW.PrintWords Go.Proofs.YtngfffoeaghhhaaDoorW.PrintLast Go.Proofs.YtngfffoeaghhhaaDoorW.PrintMore
set_option linter.unusedVariables false
structure S59 where
 f0 : Int
 f1 : ByteArray
def z59 : S59 := ⟨(0 : Int),(⟨#[]⟩ : ByteArray)⟩
def rd_T59 (xs : List S59) (i : Int) : S59 := xs.getD i.toNat z59
structure S24 where
 f0 : Bool
 f1 : Int
 f2 : Int
def z24 : S24 := ⟨false,(0 : Int),(0 : Int)⟩
structure S75 where
 f0 : S24
 f1 : S24
def z75 : S75 := ⟨z24,z24⟩
def rd_T75 (xs : List S75) (i : Int) : S75 := xs.getD i.toNat z75
structure S81 where
 f0 : ByteArray
 f1 : S24
 f2 : ByteArray
def z81 : S81 := ⟨(⟨#[]⟩ : ByteArray),z24,(⟨#[]⟩ : ByteArray)⟩
def rd_T81 (xs : List S81) (i : Int) : S81 := xs.getD i.toNat z81
structure S45 where
 f0 : S24
 f1 : Int
def z45 : S45 := ⟨z24,(0 : Int)⟩
structure S49 where
 f0 : S45
 f1 : ByteArray
 f2 : (List S75)
 f3 : (List S81)
 f4 : (List S59)
 f5 : Int
def z49 : S49 := ⟨z45,(⟨#[]⟩ : ByteArray),([] : List S75),([] : List S81),([] : List S59),(0 : Int)⟩
def rd_T49 (xs : List S49) (i : Int) : S49 := xs.getD i.toNat z49
structure S27 where
 f0 : Int
 f1 : Int
 f2 : Int
 f3 : ByteArray
 f4 : S24
 f5 : S24
 f6 : S24
 f7 : Bool
 f8 : (List S59)
def okS24 (x : S24) : Prop := True ∧ ((Lit.int .u64 x.f1).wf = true ∧ (Lit.int .u64 x.f2).wf = true)
def okS59 (x : S59) : Prop := (Lit.int .i64 x.f0).wf = true ∧ x.f1.size ≤ 140737488351232
def okS27 (x : S27) : Prop := (Lit.int .i64 x.f0).wf = true ∧ ((Lit.int .i64 x.f1).wf = true ∧ ((Lit.int .i64 x.f2).wf = true ∧ (x.f3.size ≤ 140737488351232 ∧ (okS24 x.f4 ∧ (okS24 x.f5 ∧ (okS24 x.f6 ∧ (True ∧ (x.f8.length * 24 ≤ 140737488351232 ∧ x.f8.length ≤ maxLen ∧ ∀ y0_ ∈ x.f8,okS59 y0_))))))))
def conv_bytes_54.f (a0 : ByteArray) : Option (List Int) := XC.conv a0
mutual
def ddiref36_options.l0 : Nat → List (S59) → List (S59) → Int → Option ((List (S59)))
 | 0,_,_,_ => none
 | k + 1,x0,x3,x4 => if x4 < (x0.length : Int) then (ddiref36_options.j1 k x0 x3 x4 (decide (x4 < 40))) else (ddiref36_options.j1 k x0 x3 x4 false)
def ddiref36_options.j1 : Nat → List (S59) → List (S59) → Int → Bool → Option ((List (S59)))
 | 0,_,_,_,_ => none
 | k + 1,x0,x3,x4,x12 => if x12 = true then (if 0 ≤ x4 then (if x4 < (x0.length : Int) then (if 0 ≤ (mn (((rd_T59 x0 x4).f1).size : Int) 1100) then (if (mn (((rd_T59 x0 x4).f1).size : Int) 1100) ≤ (((rd_T59 x0 x4).f1).size : Int) then (if x3.length < 5864062014805 then (ddiref36_options.l0 k x0 (x3 ++ [(⟨(rd_T59 x0 x4).f0,((rd_T59 x0 x4).f1).extract 0 ((mn (((rd_T59 x0 x4).f1).size : Int) 1100) : Int).toNat⟩ : S59)]) (wrap64 (x4 + 1))) else (none)) else (none)) else (none)) else (none)) else (none)) else (some x3)
end
def ddiref36_options.f (k : Nat) (l0 : List (S59)) : Option ((List (S59))) := ddiref36_options.l0 k l0 ([] : List (S59)) 0
def ddiref36_Short.f (k : Nat) (a0_0 : Int) (a0_1 : Int) (a0_2 : Int) (a0_3 : ByteArray) (a0_4 : Bool) (a0_5 : Int) (a0_6 : Int) (a0_7 : Bool) (a0_8 : Int) (a0_9 : Int) (a0_10 : Bool) (a0_11 : Int) (a0_12 : Int) (a0_13 : Bool) (l0_14 : List (S59)) : Option (Int × Int × Int × ByteArray × Bool × Int × Int × Bool × Int × Int × Bool × Int × Int × Bool × (List (S59))) := if 0 ≤ (mn (a0_3.size : Int) 100) then (if (mn (a0_3.size : Int) 100) ≤ (a0_3.size : Int) then ((ddiref36_options.f k l0_14).bind fun t109 => (some (a0_0,a0_1,a0_2,a0_3.extract 0 ((mn (a0_3.size : Int) 100) : Int).toNat,a0_4,a0_5,a0_6,a0_7,a0_8,a0_9,a0_10,a0_11,a0_12,a0_13,t109))) else (none)) else (none)
def option_Find.l0 : Nat → Int → List (S59) → Int → Int → Option (ByteArray × Bool)
 | 0,_,_,_,_ => none
 | k + 1,x1,x8,x9,x10 => if x10 < x9 then (if 0 ≤ x10 then (if x10 < (x8.length : Int) then (if ((rd_T59 x8 x10).f0) = x1 then (some ((rd_T59 x8 x10).f1,true)) else (option_Find.l0 k x1 x8 x9 (wrap64 (x10 + 1)))) else (none)) else (none)) else (some ((⟨#[]⟩ : ByteArray),false))
def option_Find.f (k : Nat) (l0 : List (S59)) (a1 : Int) : Option (ByteArray × Bool) := option_Find.l0 k a1 l0 (l0.length : Int) 0
theorem option_Find.mono_l : ∀ k,(∀ y0 y1 y2 y3,LeO (option_Find.l0 k y0 y1 y2 y3) (option_Find.l0 (k + 1) y0 y1 y2 y3))
 | 0 => fun _ _ _ _ r h => by simp [option_Find.l0] at h
 | k + 1 => by
  have ih0 := option_Find.mono_l k
  ·intro y0 y1 y2 y3
   unfold option_Find.l0
   repeat' first
   | (with_reducible exact ih0 _ _ _ _)
   | (with_reducible exact LeO.refl _)
   | (with_reducible exact LeO.none _)
   | (with_reducible refine LeO.ite ?_ ?_)
   | (with_reducible refine LeO.bind ?_ (fun _ => ?_))
theorem option_Find.mono : ∀ a0 a1 k,LeO (option_Find.f k a0 a1) (option_Find.f (k + 1) a0 a1) := by
 intro a0 a1 k
 have ih0 := option_Find.mono_l k
 unfold option_Find.f
 repeat' first
   | (with_reducible exact ih0 _ _ _ _)
   | (with_reducible exact LeO.refl _)
   | (with_reducible exact LeO.none _)
   | (with_reducible refine LeO.ite ?_ ?_)
   | (with_reducible refine LeO.bind ?_ (fun _ => ?_))
def option_size.l0 : Nat → Int → List (S59) → Int → Int → Option (Int)
 | 0,_,_,_,_ => none
 | k + 1,x3,x6,x7,x8 => if x8 < x7 then (if 0 ≤ x8 then (if x8 < (x6.length : Int) then (option_size.l0 k (wrap64 (x3 + (((rd_T59 x6 x8).f1).size : Int))) x6 x7 (wrap64 (x8 + 1))) else (none)) else (none)) else (some x3)
def option_size.f (k : Nat) (l0 : List (S59)) : Option (Int) := option_size.l0 k 0 l0 (l0.length : Int) 0
theorem option_size.mono_l : ∀ k,(∀ y0 y1 y2 y3,LeO (option_size.l0 k y0 y1 y2 y3) (option_size.l0 (k + 1) y0 y1 y2 y3))
 | 0 => fun _ _ _ _ r h => by simp [option_size.l0] at h
 | k + 1 => by
  have ih0 := option_size.mono_l k
  ·intro y0 y1 y2 y3
   unfold option_size.l0
   repeat' first
   | (with_reducible exact ih0 _ _ _ _)
   | (with_reducible exact LeO.refl _)
   | (with_reducible exact LeO.none _)
   | (with_reducible refine LeO.ite ?_ ?_)
   | (with_reducible refine LeO.bind ?_ (fun _ => ?_))
theorem option_size.mono : ∀ a0 k,LeO (option_size.f k a0) (option_size.f (k + 1) a0) := by
 intro a0 k
 have ih0 := option_size.mono_l k
 unfold option_size.f
 repeat' first
   | (with_reducible exact ih0 _ _ _ _)
   | (with_reducible exact LeO.refl _)
   | (with_reducible exact LeO.none _)
   | (with_reducible refine LeO.ite ?_ ?_)
   | (with_reducible refine LeO.bind ?_ (fun _ => ?_))
def option_isCode.f (a0 : Int) : Option (Bool) := if a0 ≥ 1 then (some (decide (a0 ≤ 254))) else (some false)
mutual
def option_Valid.j0 : Nat → List (S59) → Bool → Option (Bool)
 | 0,_,_ => none
 | k + 1,x0,x14 => if x14 = true then (some false) else (option_Valid.l0 k x0 x0 (x0.length : Int) 0)
def option_Valid.l0 : Nat → List (S59) → List (S59) → Int → Int → Option (Bool)
 | 0,_,_,_,_ => none
 | k + 1,x0,x15,x16,x17 => if x17 < x16 then (if 0 ≤ x17 then (if x17 < (x15.length : Int) then (if x17 ≤ (x0.length : Int) then ((option_Find.f k (x0.take (x17 : Int).toNat) ((rd_T59 x15 x17).f0)).bind fun bt123 => (if bt123.2 = true then (option_Valid.j2 k x0 x15 x16 x17 true) else ((option_isCode.f ((rd_T59 x15 x17).f0)).bind fun t125 => (if t125 = true then (option_Valid.j2 k x0 x15 x16 x17 (decide ((((rd_T59 x15 x17).f1).size : Int) > 1024))) else (option_Valid.j2 k x0 x15 x16 x17 true))))) else (none)) else (none)) else (none)) else (some true)
def option_Valid.j2 : Nat → List (S59) → List (S59) → Int → Int → Bool → Option (Bool)
 | 0,_,_,_,_,_ => none
 | k + 1,x0,x15,x16,x17,x43 => if x43 = true then (some false) else (option_Valid.l0 k x0 x15 x16 (wrap64 (x17 + 1)))
end
def option_Valid.f (k : Nat) (l0 : List (S59)) : Option (Bool) := if (l0.length : Int) > 32 then (option_Valid.j0 k l0 true) else ((option_size.f k l0).bind fun t116 => (option_Valid.j0 k l0 (decide (t116 > 4096))))
theorem option_Valid.mono_l : ∀ k,(∀ y0 y1,LeO (option_Valid.j0 k y0 y1) (option_Valid.j0 (k + 1) y0 y1)) ∧ (∀ y0 y1 y2 y3,LeO (option_Valid.l0 k y0 y1 y2 y3) (option_Valid.l0 (k + 1) y0 y1 y2 y3)) ∧ (∀ y0 y1 y2 y3 y4,LeO (option_Valid.j2 k y0 y1 y2 y3 y4) (option_Valid.j2 (k + 1) y0 y1 y2 y3 y4))
 | 0 => ⟨fun _ _ r h => by simp [option_Valid.j0] at h,fun _ _ _ _ r h => by simp [option_Valid.l0] at h,fun _ _ _ _ _ r h => by simp [option_Valid.j2] at h⟩
 | k + 1 => by
  obtain ⟨ih0,ih1,ih2⟩ := option_Valid.mono_l k
  refine ⟨?_,?_,?_⟩
  ·intro y0 y1
   unfold option_Valid.j0
   repeat' first
   | (with_reducible exact ih0 _ _)
   | (with_reducible exact ih1 _ _ _ _)
   | (with_reducible exact ih2 _ _ _ _ _)
   | (with_reducible exact option_Find.mono _ _ _)
   | (with_reducible exact option_size.mono _ _)
   | (with_reducible exact LeO.refl _)
   | (with_reducible exact LeO.none _)
   | (with_reducible refine LeO.ite ?_ ?_)
   | (with_reducible refine LeO.bind ?_ (fun _ => ?_))
  ·intro y0 y1 y2 y3
   unfold option_Valid.l0
   repeat' first
   | (with_reducible exact ih0 _ _)
   | (with_reducible exact ih1 _ _ _ _)
   | (with_reducible exact ih2 _ _ _ _ _)
   | (with_reducible exact option_Find.mono _ _ _)
   | (with_reducible exact option_size.mono _ _)
   | (with_reducible exact LeO.refl _)
   | (with_reducible exact LeO.none _)
   | (with_reducible refine LeO.ite ?_ ?_)
   | (with_reducible refine LeO.bind ?_ (fun _ => ?_))
  ·intro y0 y1 y2 y3 y4
   unfold option_Valid.j2
   repeat' first
   | (with_reducible exact ih0 _ _)
   | (with_reducible exact ih1 _ _ _ _)
   | (with_reducible exact ih2 _ _ _ _ _)
   | (with_reducible exact option_Find.mono _ _ _)
   | (with_reducible exact option_size.mono _ _)
   | (with_reducible exact LeO.refl _)
   | (with_reducible exact LeO.none _)
   | (with_reducible refine LeO.ite ?_ ?_)
   | (with_reducible refine LeO.bind ?_ (fun _ => ?_))
theorem option_Valid.mono : ∀ a0 k,LeO (option_Valid.f k a0) (option_Valid.f (k + 1) a0) := by
 intro a0 k
 obtain ⟨ih0,ih1,ih2⟩ := option_Valid.mono_l k
 unfold option_Valid.f
 repeat' first
   | (with_reducible exact ih0 _ _)
   | (with_reducible exact ih1 _ _ _ _)
   | (with_reducible exact ih2 _ _ _ _ _)
   | (with_reducible exact option_Find.mono _ _ _)
   | (with_reducible exact option_size.mono _ _)
   | (with_reducible exact LeO.refl _)
   | (with_reducible exact LeO.none _)
   | (with_reducible refine LeO.ite ?_ ?_)
   | (with_reducible refine LeO.bind ?_ (fun _ => ?_))
def option_Put.l0 : Nat → Int → ByteArray → List (S59) → Int → Int → Option ((List (S59)))
 | 0,_,_,_,_,_ => none
 | k + 1,x1,x2,x7,x16,x17 => if x17 < x16 then (if 0 ≤ x17 then (if x17 < (x7.length : Int) then (if ((rd_T59 x7 x17).f0) = x1 then (some (x7.set (x17 : Int).toNat (⟨(rd_T59 x7 x17).f0,x2⟩ : S59))) else (option_Put.l0 k x1 x2 x7 x16 (wrap64 (x17 + 1)))) else (none)) else (none)) else (if x7.length < 5864062014805 then (some (x7 ++ [(⟨x1,x2⟩ : S59)])) else (none))
def option_Put.f (k : Nat) (l0 : List (S59)) (a1 : Int) (a2 : ByteArray) : Option ((List (S59))) := if ([] : List (S59)).length + l0.length < 5864062014805 then ((some (([] : List (S59)) ++ l0 : List (S59))).bind fun y126 => ((option_isCode.f a1).bind fun t129 => (if t129 = true then (option_Put.l0 k a1 a2 y126 (y126.length : Int) 0) else (some y126)))) else (none)
theorem option_Put.mono_l : ∀ k,(∀ y0 y1 y2 y3 y4,LeO (option_Put.l0 k y0 y1 y2 y3 y4) (option_Put.l0 (k + 1) y0 y1 y2 y3 y4))
 | 0 => fun _ _ _ _ _ r h => by simp [option_Put.l0] at h
 | k + 1 => by
  have ih0 := option_Put.mono_l k
  ·intro y0 y1 y2 y3 y4
   unfold option_Put.l0
   repeat' first
   | (with_reducible exact ih0 _ _ _ _ _)
   | (with_reducible exact LeO.refl _)
   | (with_reducible exact LeO.none _)
   | (with_reducible refine LeO.ite ?_ ?_)
   | (with_reducible refine LeO.bind ?_ (fun _ => ?_))
theorem option_Put.mono : ∀ a0 a1 a2 k,LeO (option_Put.f k a0 a1 a2) (option_Put.f (k + 1) a0 a1 a2) := by
 intro a0 a1 a2 k
 have ih0 := option_Put.mono_l k
 unfold option_Put.f
 repeat' first
   | (with_reducible exact ih0 _ _ _ _ _)
   | (with_reducible exact LeO.refl _)
   | (with_reducible exact LeO.none _)
   | (with_reducible refine LeO.ite ?_ ?_)
   | (with_reducible refine LeO.bind ?_ (fun _ => ?_))
def addr_Valid.f (a0_0 : Bool) (a0_1 : Int) (a0_2 : Int) : Option (Bool) := if a0_0 = true then (some true) else (if a0_1 = 0 then (some (decide (a0_2 ≤ 4294967295))) else (some false))
def relay_Insert.j0 : Nat → ByteArray → Bool → Int → Int → Int → ByteArray → Bool → Int → Int → Bool → Int → Int → Bool → Int → Int → Bool → List (S59) → Bool → Int → Int → Option (Int × Int × Int × ByteArray × Bool × Int × Int × Bool × Int × Int × Bool × Int × Int × Bool × (List (S59)) × Int)
 | 0,_,_,_,_,_,_,_,_,_,_,_,_,_,_,_,_,_,_,_,_ => none
 | k + 1,x2,x15,x137000,x137001,x137002,x137003,x137004,x137005,x137006,x137007,x137008,x137009,x137010,x137011,x137012,x137013,x137014,x138000,x138001,x138002 => if x15 = true then (some (0,0,0,(⟨#[]⟩ : ByteArray),false,0,0,false,0,0,false,0,0,false,([] : List (S59)),3)) else (if x137013 = true then (some (0,0,0,(⟨#[]⟩ : ByteArray),false,0,0,false,0,0,false,0,0,false,([] : List (S59)),21)) else (if (x2.size : Int) > 255 then (some (0,0,0,(⟨#[]⟩ : ByteArray),false,0,0,false,0,0,false,0,0,false,([] : List (S59)),9)) else ((some (([1,((x2.size : Int)) % 256] : List Int) : List Int)).bind fun y140 => (if (strOfNums y140).size + x2.size ≤ 9223372036854775807 then ((option_Put.f k x137014 82 ((strOfNums y140) ++ x2)).bind fun t143 => ((option_Valid.f k t143).bind fun t146 => (if t146 = true then (some (x137000,x137001,x137002,x137003,x137004,x137005,x137006,x137007,x137008,x137009,x138000,x138001,x138002,true,t143,0)) else (some (0,0,0,(⟨#[]⟩ : ByteArray),false,0,0,false,0,0,false,0,0,false,([] : List (S59)),9))))) else (none)))))
def relay_Insert.f (k : Nat) (a0_0 : Int) (a0_1 : Int) (a0_2 : Int) (a0_3 : ByteArray) (a0_4 : Bool) (a0_5 : Int) (a0_6 : Int) (a0_7 : Bool) (a0_8 : Int) (a0_9 : Int) (a0_10 : Bool) (a0_11 : Int) (a0_12 : Int) (a0_13 : Bool) (l0_14 : List (S59)) (a1_0 : Bool) (a1_1 : Int) (a1_2 : Int) (a2 : ByteArray) : Option (Int × Int × Int × ByteArray × Bool × Int × Int × Bool × Int × Int × Bool × Int × Int × Bool × (List (S59)) × Int) := if a1_0 = true then (relay_Insert.j0 k a2 true a0_0 a0_1 a0_2 a0_3 a0_4 a0_5 a0_6 a0_7 a0_8 a0_9 a0_10 a0_11 a0_12 a0_13 l0_14 a1_0 a1_1 a1_2) else ((addr_Valid.f a1_0 a1_1 a1_2).bind fun t139 => (relay_Insert.j0 k a2 (!t139) a0_0 a0_1 a0_2 a0_3 a0_4 a0_5 a0_6 a0_7 a0_8 a0_9 a0_10 a0_11 a0_12 a0_13 l0_14 a1_0 a1_1 a1_2))
theorem relay_Insert.mono_l : ∀ k,(∀ y0 y1 y2 y3 y4 y5 y6 y7 y8 y9 y10 y11 y12 y13 y14 y15 y16 y17 y18 y19,LeO (relay_Insert.j0 k y0 y1 y2 y3 y4 y5 y6 y7 y8 y9 y10 y11 y12 y13 y14 y15 y16 y17 y18 y19) (relay_Insert.j0 (k + 1) y0 y1 y2 y3 y4 y5 y6 y7 y8 y9 y10 y11 y12 y13 y14 y15 y16 y17 y18 y19))
 | 0 => fun _ _ _ _ _ _ _ _ _ _ _ _ _ _ _ _ _ _ _ _ r h => by simp [relay_Insert.j0] at h
 | k + 1 => by
  have ih0 := relay_Insert.mono_l k
  ·intro y0 y1 y2 y3 y4 y5 y6 y7 y8 y9 y10 y11 y12 y13 y14 y15 y16 y17 y18 y19
   unfold relay_Insert.j0
   repeat' first
   | (with_reducible exact ih0 _ _ _ _ _ _ _ _ _ _ _ _ _ _ _ _ _ _ _ _)
   | (with_reducible exact option_Put.mono _ _ _ _)
   | (with_reducible exact option_Valid.mono _ _)
   | (with_reducible exact LeO.refl _)
   | (with_reducible exact LeO.none _)
   | (with_reducible refine LeO.ite ?_ ?_)
   | (with_reducible refine LeO.bind ?_ (fun _ => ?_))
theorem relay_Insert.mono : ∀ a0 a1 a2 a3 a4 a5 a6 a7 a8 a9 a10 a11 a12 a13 a14 a15 a16 a17 a18 k,LeO (relay_Insert.f k a0 a1 a2 a3 a4 a5 a6 a7 a8 a9 a10 a11 a12 a13 a14 a15 a16 a17 a18) (relay_Insert.f (k + 1) a0 a1 a2 a3 a4 a5 a6 a7 a8 a9 a10 a11 a12 a13 a14 a15 a16 a17 a18) := by
 intro a0 a1 a2 a3 a4 a5 a6 a7 a8 a9 a10 a11 a12 a13 a14 a15 a16 a17 a18 k
 have ih0 := relay_Insert.mono_l k
 unfold relay_Insert.f
 repeat' first
   | (with_reducible exact ih0 _ _ _ _ _ _ _ _ _ _ _ _ _ _ _ _ _ _ _ _)
   | (with_reducible exact option_Put.mono _ _ _ _)
   | (with_reducible exact option_Valid.mono _ _)
   | (with_reducible exact LeO.refl _)
   | (with_reducible exact LeO.none _)
   | (with_reducible refine LeO.ite ?_ ?_)
   | (with_reducible refine LeO.bind ?_ (fun _ => ?_))
def ddiref02_Valid.f (a0_0 : Bool) (a0_1 : Int) (a0_2 : Int) : Option (Bool) := if a0_0 = true then (some true) else (if a0_1 = 0 then (some (decide (a0_2 < 4294967296))) else (some false))
def ddiref35_index.l0 : Nat → List (S59) → Int → Int → Option (Int)
 | 0,_,_,_ => none
 | k + 1,x0,x1,x5 => if x5 < (x0.length : Int) then (if 0 ≤ x5 then (if ((rd_T59 x0 x5).f0) = x1 then (some x5) else (ddiref35_index.l0 k x0 x1 (wrap64 (x5 + 1)))) else (none)) else (some (-1))
def ddiref35_index.f (k : Nat) (l0 : List (S59)) (a1 : Int) : Option (Int) := ddiref35_index.l0 k l0 a1 0
mutual
def ddiref35_Put.l0 : Nat → List (S59) → Int → ByteArray → List (S59) → Int → Option ((List (S59)))
 | 0,_,_,_,_,_ => none
 | k + 1,x0,x1,x2,x7,x8 => if x8 < (x0.length : Int) then (if 0 ≤ x8 then (if x7.length < 5864062014805 then (ddiref35_Put.l0 k x0 x1 x2 (x7 ++ [(⟨(rd_T59 x0 x8).f0,(rd_T59 x0 x8).f1⟩ : S59)]) (wrap64 (x8 + 1))) else (none)) else (none)) else (if x1 < 1 then (ddiref35_Put.j1 k x1 x2 x7 true) else (ddiref35_Put.j1 k x1 x2 x7 (decide (x1 > 254))))
def ddiref35_Put.j1 : Nat → Int → ByteArray → List (S59) → Bool → Option ((List (S59)))
 | 0,_,_,_,_ => none
 | k + 1,x1,x2,x7,x28 => if x28 = true then (some x7) else ((ddiref35_index.f k x7 x1).bind fun t153 => (if t153 ≥ 0 then (if 0 ≤ t153 then (if t153 < (x7.length : Int) then (some (x7.set (t153 : Int).toNat (⟨(rd_T59 x7 t153).f0,x2⟩ : S59))) else (none)) else (none)) else (if x7.length < 5864062014805 then (some (x7 ++ [(⟨x1,x2⟩ : S59)])) else (none))))
end
def ddiref35_Put.f (k : Nat) (l0 : List (S59)) (a1 : Int) (a2 : ByteArray) : Option ((List (S59))) := ddiref35_Put.l0 k l0 a1 a2 ([] : List (S59)) 0
mutual
def ddiref35_Valid.l0 : Nat → List (S59) → Int → Int → Option (Bool)
 | 0,_,_,_ => none
 | k + 1,x0,x3,x4 => if x4 < (x0.length : Int) then (if 0 ≤ x4 then (if ((rd_T59 x0 x4).f0) < 1 then (ddiref35_Valid.j1 k x0 (wrap64 (x3 + (((rd_T59 x0 x4).f1).size : Int))) x4 true) else (if ((rd_T59 x0 x4).f0) > 254 then (ddiref35_Valid.j1 k x0 (wrap64 (x3 + (((rd_T59 x0 x4).f1).size : Int))) x4 true) else (if (((rd_T59 x0 x4).f1).size : Int) > 1024 then (ddiref35_Valid.j1 k x0 (wrap64 (x3 + (((rd_T59 x0 x4).f1).size : Int))) x4 true) else ((ddiref35_index.f k x0 ((rd_T59 x0 x4).f0)).bind fun t163 => (ddiref35_Valid.j1 k x0 (wrap64 (x3 + (((rd_T59 x0 x4).f1).size : Int))) x4 (t163 != x4)))))) else (none)) else (some (decide (x3 ≤ 4096)))
def ddiref35_Valid.j1 : Nat → List (S59) → Int → Int → Bool → Option (Bool)
 | 0,_,_,_,_ => none
 | k + 1,x0,x3,x4,x55 => if x55 = true then (some false) else (ddiref35_Valid.l0 k x0 x3 (wrap64 (x4 + 1)))
end
def ddiref35_Valid.f (k : Nat) (l0 : List (S59)) : Option (Bool) := if (l0.length : Int) > 32 then (some false) else (ddiref35_Valid.l0 k l0 0 0)
def ddiref39_Insert.j0 : Nat → ByteArray → Bool → Int → Int → Int → ByteArray → Bool → Int → Int → Bool → Int → Int → Bool → Int → Int → Bool → List (S59) → Bool → Int → Int → Option (Int × Int × Int × ByteArray × Bool × Int × Int × Bool × Int × Int × Bool × Int × Int × Bool × (List (S59)) × Int)
 | 0,_,_,_,_,_,_,_,_,_,_,_,_,_,_,_,_,_,_,_,_ => none
 | k + 1,x2,x14,x165000,x165001,x165002,x165003,x165004,x165005,x165006,x165007,x165008,x165009,x165010,x165011,x165012,x165013,x165014,x166000,x166001,x166002 => if x14 = true then (some (0,0,0,(⟨#[]⟩ : ByteArray),false,0,0,false,0,0,false,0,0,false,([] : List (S59)),3)) else (if x165013 = true then (some (0,0,0,(⟨#[]⟩ : ByteArray),false,0,0,false,0,0,false,0,0,false,([] : List (S59)),21)) else (if (x2.size : Int) > 255 then (some (0,0,0,(⟨#[]⟩ : ByteArray),false,0,0,false,0,0,false,0,0,false,([] : List (S59)),9)) else ((some (([1,((x2.size : Int)) % 256] : List Int) : List Int)).bind fun y168 => (if (strOfNums y168).size + x2.size ≤ 9223372036854775807 then ((ddiref35_Put.f k x165014 82 ((strOfNums y168) ++ x2)).bind fun t171 => ((ddiref35_Valid.f k t171).bind fun t174 => (if t174 = true then (some (x165000,x165001,x165002,x165003,x165004,x165005,x165006,x165007,x165008,x165009,x166000,x166001,x166002,true,t171,0)) else (some (0,0,0,(⟨#[]⟩ : ByteArray),false,0,0,false,0,0,false,0,0,false,([] : List (S59)),9))))) else (none)))))
def ddiref39_Insert.f (k : Nat) (a0_0 : Int) (a0_1 : Int) (a0_2 : Int) (a0_3 : ByteArray) (a0_4 : Bool) (a0_5 : Int) (a0_6 : Int) (a0_7 : Bool) (a0_8 : Int) (a0_9 : Int) (a0_10 : Bool) (a0_11 : Int) (a0_12 : Int) (a0_13 : Bool) (l0_14 : List (S59)) (a1_0 : Bool) (a1_1 : Int) (a1_2 : Int) (a2 : ByteArray) : Option (Int × Int × Int × ByteArray × Bool × Int × Int × Bool × Int × Int × Bool × Int × Int × Bool × (List (S59)) × Int) := (ddiref02_Valid.f a1_0 a1_1 a1_2).bind fun t167 => (if t167 = true then (ddiref39_Insert.j0 k a2 a1_0 a0_0 a0_1 a0_2 a0_3 a0_4 a0_5 a0_6 a0_7 a0_8 a0_9 a0_10 a0_11 a0_12 a0_13 l0_14 a1_0 a1_1 a1_2) else (ddiref39_Insert.j0 k a2 true a0_0 a0_1 a0_2 a0_3 a0_4 a0_5 a0_6 a0_7 a0_8 a0_9 a0_10 a0_11 a0_12 a0_13 l0_14 a1_0 a1_1 a1_2))
def relay_Circuit.j0 : Nat → ByteArray → Bool → Option (ByteArray × Bool)
 | 0,_,_ => none
 | k + 1,x4,x32 => if x32 = true then (some ((⟨#[]⟩ : ByteArray),false)) else (if 2 ≤ (x4.size : Int) then (some (x4.extract 2 x4.size,true)) else (none))
def relay_Circuit.f (k : Nat) (a0_0 : Int) (a0_1 : Int) (a0_2 : Int) (a0_3 : ByteArray) (a0_4 : Bool) (a0_5 : Int) (a0_6 : Int) (a0_7 : Bool) (a0_8 : Int) (a0_9 : Int) (a0_10 : Bool) (a0_11 : Int) (a0_12 : Int) (a0_13 : Bool) (l0_14 : List (S59)) : Option (ByteArray × Bool) := (option_Find.f k l0_14 82).bind fun bt176 => (if bt176.2 = true then (if (bt176.1.size : Int) < 2 then (relay_Circuit.j0 k bt176.1 true) else (if 0 < (bt176.1.size : Int) then (if (bt bt176.1 0) = 1 then (if 1 < (bt176.1.size : Int) then (relay_Circuit.j0 k bt176.1 ((wrap64 (bt bt176.1 1)) != (wrap64 ((bt176.1.size : Int) - 2)))) else (none)) else (relay_Circuit.j0 k bt176.1 true)) else (none))) else (relay_Circuit.j0 k bt176.1 true))
theorem relay_Circuit.mono_l : ∀ k,(∀ y0 y1,LeO (relay_Circuit.j0 k y0 y1) (relay_Circuit.j0 (k + 1) y0 y1))
 | 0 => fun _ _ r h => by simp [relay_Circuit.j0] at h
 | k + 1 => by
  have ih0 := relay_Circuit.mono_l k
  ·intro y0 y1
   unfold relay_Circuit.j0
   repeat' first
   | (with_reducible exact ih0 _ _)
   | (with_reducible exact option_Find.mono _ _ _)
   | (with_reducible exact LeO.refl _)
   | (with_reducible exact LeO.none _)
   | (with_reducible refine LeO.ite ?_ ?_)
   | (with_reducible refine LeO.bind ?_ (fun _ => ?_))
theorem relay_Circuit.mono : ∀ a0 a1 a2 a3 a4 a5 a6 a7 a8 a9 a10 a11 a12 a13 a14 k,LeO (relay_Circuit.f k a0 a1 a2 a3 a4 a5 a6 a7 a8 a9 a10 a11 a12 a13 a14) (relay_Circuit.f (k + 1) a0 a1 a2 a3 a4 a5 a6 a7 a8 a9 a10 a11 a12 a13 a14) := by
 intro a0 a1 a2 a3 a4 a5 a6 a7 a8 a9 a10 a11 a12 a13 a14 k
 have ih0 := relay_Circuit.mono_l k
 unfold relay_Circuit.f
 repeat' first
   | (with_reducible exact ih0 _ _)
   | (with_reducible exact option_Find.mono _ _ _)
   | (with_reducible exact LeO.refl _)
   | (with_reducible exact LeO.none _)
   | (with_reducible refine LeO.ite ?_ ?_)
   | (with_reducible refine LeO.bind ?_ (fun _ => ?_))
def ddiref35_Find.f (k : Nat) (l0 : List (S59)) (a1 : Int) : Option (ByteArray × Bool) := (ddiref35_index.f k l0 a1).bind fun t178 => (if t178 < 0 then (some ((⟨#[]⟩ : ByteArray),false)) else (if 0 ≤ t178 then (if t178 < (l0.length : Int) then (some ((rd_T59 l0 t178).f1,true)) else (none)) else (none)))
def ddiref39_Circuit.j0 : Nat → ByteArray → Bool → Option (ByteArray × Bool)
 | 0,_,_ => none
 | k + 1,x4,x32 => if x32 = true then (some ((⟨#[]⟩ : ByteArray),false)) else (if 2 ≤ (x4.size : Int) then (some (x4.extract 2 x4.size,true)) else (none))
def ddiref39_Circuit.f (k : Nat) (a0_0 : Int) (a0_1 : Int) (a0_2 : Int) (a0_3 : ByteArray) (a0_4 : Bool) (a0_5 : Int) (a0_6 : Int) (a0_7 : Bool) (a0_8 : Int) (a0_9 : Int) (a0_10 : Bool) (a0_11 : Int) (a0_12 : Int) (a0_13 : Bool) (l0_14 : List (S59)) : Option (ByteArray × Bool) := (ddiref35_Find.f k l0_14 82).bind fun bt181 => (if bt181.2 = true then (if (bt181.1.size : Int) < 2 then (ddiref39_Circuit.j0 k bt181.1 true) else (if 0 < (bt181.1.size : Int) then (if (bt bt181.1 0) = 1 then (if 1 < (bt181.1.size : Int) then (ddiref39_Circuit.j0 k bt181.1 ((wrap64 (bt bt181.1 1)) != (wrap64 ((bt181.1.size : Int) - 2)))) else (none)) else (ddiref39_Circuit.j0 k bt181.1 true)) else (none))) else (ddiref39_Circuit.j0 k bt181.1 true))
mutual
def ddiref36_Same.j0 : Nat → Bool → Int → Int → Int → ByteArray → Bool → Int → Int → Bool → Int → Int → Bool → Int → Int → Bool → List (S59) → Int → Int → Int → ByteArray → Bool → Int → Int → Bool → Int → Int → Bool → Int → Int → Bool → List (S59) → Option (Bool)
 | 0,_,_,_,_,_,_,_,_,_,_,_,_,_,_,_,_,_,_,_,_,_,_,_,_,_,_,_,_,_,_,_ => none
 | k + 1,x68,x184000,x184001,x184002,x184003,x184004,x184005,x184006,x184007,x184008,x184009,x184010,x184011,x184012,x184013,x184014,x185000,x185001,x185002,x185003,x185004,x185005,x185006,x185007,x185008,x185009,x185010,x185011,x185012,x185013,x185014 => if x68 = true then (some false) else (ddiref36_Same.l0 k 0 x184000 x184001 x184002 x184003 x184004 x184005 x184006 x184007 x184008 x184009 x184010 x184011 x184012 x184013 x184014 x185000 x185001 x185002 x185003 x185004 x185005 x185006 x185007 x185008 x185009 x185010 x185011 x185012 x185013 x185014)
def ddiref36_Same.l0 : Nat → Int → Int → Int → Int → ByteArray → Bool → Int → Int → Bool → Int → Int → Bool → Int → Int → Bool → List (S59) → Int → Int → Int → ByteArray → Bool → Int → Int → Bool → Int → Int → Bool → Int → Int → Bool → List (S59) → Option (Bool)
 | 0,_,_,_,_,_,_,_,_,_,_,_,_,_,_,_,_,_,_,_,_,_,_,_,_,_,_,_,_,_,_,_ => none
 | k + 1,x5,x184000,x184001,x184002,x184003,x184004,x184005,x184006,x184007,x184008,x184009,x184010,x184011,x184012,x184013,x184014,x185000,x185001,x185002,x185003,x185004,x185005,x185006,x185007,x185008,x185009,x185010,x185011,x185012,x185013,x185014 => if x5 < (x184014.length : Int) then (if 0 ≤ x5 then (if x5 < (x185014.length : Int) then (if (!(((rd_T59 x184014 x5).f0) == ((rd_T59 x185014 x5).f0)) || (!((((rd_T59 x184014 x5).f1).toList) == (((rd_T59 x185014 x5).f1).toList)))) = true then (some false) else (ddiref36_Same.l0 k (wrap64 (x5 + 1)) x184000 x184001 x184002 x184003 x184004 x184005 x184006 x184007 x184008 x184009 x184010 x184011 x184012 x184013 x184014 x185000 x185001 x185002 x185003 x185004 x185005 x185006 x185007 x185008 x185009 x185010 x185011 x185012 x185013 x185014)) else (none)) else (none)) else (some true)
end
def ddiref36_Same.f (k : Nat) (a0_0 : Int) (a0_1 : Int) (a0_2 : Int) (a0_3 : ByteArray) (a0_4 : Bool) (a0_5 : Int) (a0_6 : Int) (a0_7 : Bool) (a0_8 : Int) (a0_9 : Int) (a0_10 : Bool) (a0_11 : Int) (a0_12 : Int) (a0_13 : Bool) (l0_14 : List (S59)) (a1_0 : Int) (a1_1 : Int) (a1_2 : Int) (a1_3 : ByteArray) (a1_4 : Bool) (a1_5 : Int) (a1_6 : Int) (a1_7 : Bool) (a1_8 : Int) (a1_9 : Int) (a1_10 : Bool) (a1_11 : Int) (a1_12 : Int) (a1_13 : Bool) (l1_14 : List (S59)) : Option (Bool) := if a0_0 = a1_0 then (if a0_1 = a1_1 then (if a0_2 = a1_2 then (if a0_3.toList = a1_3.toList then (if (!(a0_4 == a1_4) || (!(a0_5 == a1_5) || (!(a0_6 == a1_6)))) = true then (ddiref36_Same.j0 k true a0_0 a0_1 a0_2 a0_3 a0_4 a0_5 a0_6 a0_7 a0_8 a0_9 a0_10 a0_11 a0_12 a0_13 l0_14 a1_0 a1_1 a1_2 a1_3 a1_4 a1_5 a1_6 a1_7 a1_8 a1_9 a1_10 a1_11 a1_12 a1_13 l1_14) else (if (!(a0_7 == a1_7) || (!(a0_8 == a1_8) || (!(a0_9 == a1_9)))) = true then (ddiref36_Same.j0 k true a0_0 a0_1 a0_2 a0_3 a0_4 a0_5 a0_6 a0_7 a0_8 a0_9 a0_10 a0_11 a0_12 a0_13 l0_14 a1_0 a1_1 a1_2 a1_3 a1_4 a1_5 a1_6 a1_7 a1_8 a1_9 a1_10 a1_11 a1_12 a1_13 l1_14) else (if (!(a0_10 == a1_10) || (!(a0_11 == a1_11) || (!(a0_12 == a1_12)))) = true then (ddiref36_Same.j0 k true a0_0 a0_1 a0_2 a0_3 a0_4 a0_5 a0_6 a0_7 a0_8 a0_9 a0_10 a0_11 a0_12 a0_13 l0_14 a1_0 a1_1 a1_2 a1_3 a1_4 a1_5 a1_6 a1_7 a1_8 a1_9 a1_10 a1_11 a1_12 a1_13 l1_14) else (if (a0_13 != a1_13) = true then (ddiref36_Same.j0 k true a0_0 a0_1 a0_2 a0_3 a0_4 a0_5 a0_6 a0_7 a0_8 a0_9 a0_10 a0_11 a0_12 a0_13 l0_14 a1_0 a1_1 a1_2 a1_3 a1_4 a1_5 a1_6 a1_7 a1_8 a1_9 a1_10 a1_11 a1_12 a1_13 l1_14) else (ddiref36_Same.j0 k ((l0_14.length : Int) != (l1_14.length : Int)) a0_0 a0_1 a0_2 a0_3 a0_4 a0_5 a0_6 a0_7 a0_8 a0_9 a0_10 a0_11 a0_12 a0_13 l0_14 a1_0 a1_1 a1_2 a1_3 a1_4 a1_5 a1_6 a1_7 a1_8 a1_9 a1_10 a1_11 a1_12 a1_13 l1_14))))) else (ddiref36_Same.j0 k true a0_0 a0_1 a0_2 a0_3 a0_4 a0_5 a0_6 a0_7 a0_8 a0_9 a0_10 a0_11 a0_12 a0_13 l0_14 a1_0 a1_1 a1_2 a1_3 a1_4 a1_5 a1_6 a1_7 a1_8 a1_9 a1_10 a1_11 a1_12 a1_13 l1_14)) else (ddiref36_Same.j0 k true a0_0 a0_1 a0_2 a0_3 a0_4 a0_5 a0_6 a0_7 a0_8 a0_9 a0_10 a0_11 a0_12 a0_13 l0_14 a1_0 a1_1 a1_2 a1_3 a1_4 a1_5 a1_6 a1_7 a1_8 a1_9 a1_10 a1_11 a1_12 a1_13 l1_14)) else (ddiref36_Same.j0 k true a0_0 a0_1 a0_2 a0_3 a0_4 a0_5 a0_6 a0_7 a0_8 a0_9 a0_10 a0_11 a0_12 a0_13 l0_14 a1_0 a1_1 a1_2 a1_3 a1_4 a1_5 a1_6 a1_7 a1_8 a1_9 a1_10 a1_11 a1_12 a1_13 l1_14)) else (ddiref36_Same.j0 k true a0_0 a0_1 a0_2 a0_3 a0_4 a0_5 a0_6 a0_7 a0_8 a0_9 a0_10 a0_11 a0_12 a0_13 l0_14 a1_0 a1_1 a1_2 a1_3 a1_4 a1_5 a1_6 a1_7 a1_8 a1_9 a1_10 a1_11 a1_12 a1_13 l1_14)
theorem ddiref36_Same.mono_l : ∀ k,(∀ y0 y1 y2 y3 y4 y5 y6 y7 y8 y9 y10 y11 y12 y13 y14 y15 y16 y17 y18 y19 y20 y21 y22 y23 y24 y25 y26 y27 y28 y29 y30,LeO (ddiref36_Same.j0 k y0 y1 y2 y3 y4 y5 y6 y7 y8 y9 y10 y11 y12 y13 y14 y15 y16 y17 y18 y19 y20 y21 y22 y23 y24 y25 y26 y27 y28 y29 y30) (ddiref36_Same.j0 (k + 1) y0 y1 y2 y3 y4 y5 y6 y7 y8 y9 y10 y11 y12 y13 y14 y15 y16 y17 y18 y19 y20 y21 y22 y23 y24 y25 y26 y27 y28 y29 y30)) ∧ (∀ y0 y1 y2 y3 y4 y5 y6 y7 y8 y9 y10 y11 y12 y13 y14 y15 y16 y17 y18 y19 y20 y21 y22 y23 y24 y25 y26 y27 y28 y29 y30,LeO (ddiref36_Same.l0 k y0 y1 y2 y3 y4 y5 y6 y7 y8 y9 y10 y11 y12 y13 y14 y15 y16 y17 y18 y19 y20 y21 y22 y23 y24 y25 y26 y27 y28 y29 y30) (ddiref36_Same.l0 (k + 1) y0 y1 y2 y3 y4 y5 y6 y7 y8 y9 y10 y11 y12 y13 y14 y15 y16 y17 y18 y19 y20 y21 y22 y23 y24 y25 y26 y27 y28 y29 y30))
 | 0 => ⟨fun _ _ _ _ _ _ _ _ _ _ _ _ _ _ _ _ _ _ _ _ _ _ _ _ _ _ _ _ _ _ _ r h => by simp [ddiref36_Same.j0] at h,fun _ _ _ _ _ _ _ _ _ _ _ _ _ _ _ _ _ _ _ _ _ _ _ _ _ _ _ _ _ _ _ r h => by simp [ddiref36_Same.l0] at h⟩
 | k + 1 => by
  obtain ⟨ih0,ih1⟩ := ddiref36_Same.mono_l k
  refine ⟨?_,?_⟩
  ·intro y0 y1 y2 y3 y4 y5 y6 y7 y8 y9 y10 y11 y12 y13 y14 y15 y16 y17 y18 y19 y20 y21 y22 y23 y24 y25 y26 y27 y28 y29 y30
   unfold ddiref36_Same.j0
   repeat' first
   | (with_reducible exact ih0 _ _ _ _ _ _ _ _ _ _ _ _ _ _ _ _ _ _ _ _ _ _ _ _ _ _ _ _ _ _ _)
   | (with_reducible exact ih1 _ _ _ _ _ _ _ _ _ _ _ _ _ _ _ _ _ _ _ _ _ _ _ _ _ _ _ _ _ _ _)
   | (with_reducible exact LeO.refl _)
   | (with_reducible exact LeO.none _)
   | (with_reducible refine LeO.ite ?_ ?_)
   | (with_reducible refine LeO.bind ?_ (fun _ => ?_))
  ·intro y0 y1 y2 y3 y4 y5 y6 y7 y8 y9 y10 y11 y12 y13 y14 y15 y16 y17 y18 y19 y20 y21 y22 y23 y24 y25 y26 y27 y28 y29 y30
   unfold ddiref36_Same.l0
   repeat' first
   | (with_reducible exact ih0 _ _ _ _ _ _ _ _ _ _ _ _ _ _ _ _ _ _ _ _ _ _ _ _ _ _ _ _ _ _ _)
   | (with_reducible exact ih1 _ _ _ _ _ _ _ _ _ _ _ _ _ _ _ _ _ _ _ _ _ _ _ _ _ _ _ _ _ _ _)
   | (with_reducible exact LeO.refl _)
   | (with_reducible exact LeO.none _)
   | (with_reducible refine LeO.ite ?_ ?_)
   | (with_reducible refine LeO.bind ?_ (fun _ => ?_))
theorem ddiref36_Same.mono : ∀ a0 a1 a2 a3 a4 a5 a6 a7 a8 a9 a10 a11 a12 a13 a14 a15 a16 a17 a18 a19 a20 a21 a22 a23 a24 a25 a26 a27 a28 a29 k,LeO (ddiref36_Same.f k a0 a1 a2 a3 a4 a5 a6 a7 a8 a9 a10 a11 a12 a13 a14 a15 a16 a17 a18 a19 a20 a21 a22 a23 a24 a25 a26 a27 a28 a29) (ddiref36_Same.f (k + 1) a0 a1 a2 a3 a4 a5 a6 a7 a8 a9 a10 a11 a12 a13 a14 a15 a16 a17 a18 a19 a20 a21 a22 a23 a24 a25 a26 a27 a28 a29) := by
 intro a0 a1 a2 a3 a4 a5 a6 a7 a8 a9 a10 a11 a12 a13 a14 a15 a16 a17 a18 a19 a20 a21 a22 a23 a24 a25 a26 a27 a28 a29 k
 obtain ⟨ih0,ih1⟩ := ddiref36_Same.mono_l k
 unfold ddiref36_Same.f
 repeat' first
   | (with_reducible exact ih0 _ _ _ _ _ _ _ _ _ _ _ _ _ _ _ _ _ _ _ _ _ _ _ _ _ _ _ _ _ _ _)
   | (with_reducible exact ih1 _ _ _ _ _ _ _ _ _ _ _ _ _ _ _ _ _ _ _ _ _ _ _ _ _ _ _ _ _ _ _)
   | (with_reducible exact LeO.refl _)
   | (with_reducible exact LeO.none _)
   | (with_reducible refine LeO.ite ?_ ?_)
   | (with_reducible refine LeO.bind ?_ (fun _ => ?_))
def relay_Strip.l0 : Nat → List (S59) → List (S59) → Int → Int → Int → Int → Int → ByteArray → Bool → Int → Int → Bool → Int → Int → Bool → Int → Int → Bool → List (S59) → Option (Int × Int × Int × ByteArray × Bool × Int × Int × Bool × Int × Int × Bool × Int × Int × Bool × (List (S59)))
 | 0,_,_,_,_,_,_,_,_,_,_,_,_,_,_,_,_,_,_,_ => none
 | k + 1,x3,x7,x8,x9,x188000,x188001,x188002,x188003,x188004,x188005,x188006,x188007,x188008,x188009,x188010,x188011,x188012,x188013,x188014 => if x9 < x8 then (if 0 ≤ x9 then (if x9 < (x7.length : Int) then (if ((rd_T59 x7 x9).f0) = 82 then (relay_Strip.l0 k x3 x7 x8 (wrap64 (x9 + 1)) x188000 x188001 x188002 x188003 x188004 x188005 x188006 x188007 x188008 x188009 x188010 x188011 x188012 x188013 x188014) else (if x3.length < 5864062014805 then (relay_Strip.l0 k (x3 ++ [(⟨(rd_T59 x7 x9).f0,(rd_T59 x7 x9).f1⟩ : S59)]) x7 x8 (wrap64 (x9 + 1)) x188000 x188001 x188002 x188003 x188004 x188005 x188006 x188007 x188008 x188009 x188010 x188011 x188012 x188013 x188014) else (none))) else (none)) else (none)) else (some (x188000,x188001,x188002,x188003,x188004,x188005,x188006,x188007,x188008,x188009,false,0,0,false,x3))
def relay_Strip.f (k : Nat) (a0_0 : Int) (a0_1 : Int) (a0_2 : Int) (a0_3 : ByteArray) (a0_4 : Bool) (a0_5 : Int) (a0_6 : Int) (a0_7 : Bool) (a0_8 : Int) (a0_9 : Int) (a0_10 : Bool) (a0_11 : Int) (a0_12 : Int) (a0_13 : Bool) (l0_14 : List (S59)) : Option (Int × Int × Int × ByteArray × Bool × Int × Int × Bool × Int × Int × Bool × Int × Int × Bool × (List (S59))) := relay_Strip.l0 k ([] : List (S59)) l0_14 (l0_14.length : Int) 0 a0_0 a0_1 a0_2 a0_3 a0_4 a0_5 a0_6 a0_7 a0_8 a0_9 a0_10 a0_11 a0_12 a0_13 l0_14
theorem relay_Strip.mono_l : ∀ k,(∀ y0 y1 y2 y3 y4 y5 y6 y7 y8 y9 y10 y11 y12 y13 y14 y15 y16 y17 y18,LeO (relay_Strip.l0 k y0 y1 y2 y3 y4 y5 y6 y7 y8 y9 y10 y11 y12 y13 y14 y15 y16 y17 y18) (relay_Strip.l0 (k + 1) y0 y1 y2 y3 y4 y5 y6 y7 y8 y9 y10 y11 y12 y13 y14 y15 y16 y17 y18))
 | 0 => fun _ _ _ _ _ _ _ _ _ _ _ _ _ _ _ _ _ _ _ r h => by simp [relay_Strip.l0] at h
 | k + 1 => by
  have ih0 := relay_Strip.mono_l k
  ·intro y0 y1 y2 y3 y4 y5 y6 y7 y8 y9 y10 y11 y12 y13 y14 y15 y16 y17 y18
   unfold relay_Strip.l0
   repeat' first
   | (with_reducible exact ih0 _ _ _ _ _ _ _ _ _ _ _ _ _ _ _ _ _ _ _)
   | (with_reducible exact LeO.refl _)
   | (with_reducible exact LeO.none _)
   | (with_reducible refine LeO.ite ?_ ?_)
   | (with_reducible refine LeO.bind ?_ (fun _ => ?_))
theorem relay_Strip.mono : ∀ a0 a1 a2 a3 a4 a5 a6 a7 a8 a9 a10 a11 a12 a13 a14 k,LeO (relay_Strip.f k a0 a1 a2 a3 a4 a5 a6 a7 a8 a9 a10 a11 a12 a13 a14) (relay_Strip.f (k + 1) a0 a1 a2 a3 a4 a5 a6 a7 a8 a9 a10 a11 a12 a13 a14) := by
 intro a0 a1 a2 a3 a4 a5 a6 a7 a8 a9 a10 a11 a12 a13 a14 k
 have ih0 := relay_Strip.mono_l k
 unfold relay_Strip.f
 repeat' first
   | (with_reducible exact ih0 _ _ _ _ _ _ _ _ _ _ _ _ _ _ _ _ _ _ _)
   | (with_reducible exact LeO.refl _)
   | (with_reducible exact LeO.none _)
   | (with_reducible refine LeO.ite ?_ ?_)
   | (with_reducible refine LeO.bind ?_ (fun _ => ?_))
def ddiref39_Strip.l0 : Nat → List (S59) → Int → Int → Int → Int → ByteArray → Bool → Int → Int → Bool → Int → Int → Bool → Int → Int → Bool → List (S59) → Option (Int × Int × Int × ByteArray × Bool × Int × Int × Bool × Int × Int × Bool × Int × Int × Bool × (List (S59)))
 | 0,_,_,_,_,_,_,_,_,_,_,_,_,_,_,_,_,_ => none
 | k + 1,x3,x4,x195000,x195001,x195002,x195003,x195004,x195005,x195006,x195007,x195008,x195009,x195010,x195011,x195012,x195013,x195014 => if x4 < (x195014.length : Int) then (if 0 ≤ x4 then (if ((rd_T59 x195014 x4).f0) = 82 then (ddiref39_Strip.l0 k x3 (wrap64 (x4 + 1)) x195000 x195001 x195002 x195003 x195004 x195005 x195006 x195007 x195008 x195009 x195010 x195011 x195012 x195013 x195014) else (if x3.length < 5864062014805 then (ddiref39_Strip.l0 k (x3 ++ [(⟨(rd_T59 x195014 x4).f0,(rd_T59 x195014 x4).f1⟩ : S59)]) (wrap64 (x4 + 1)) x195000 x195001 x195002 x195003 x195004 x195005 x195006 x195007 x195008 x195009 x195010 x195011 x195012 x195013 x195014) else (none))) else (none)) else (some (x195000,x195001,x195002,x195003,x195004,x195005,x195006,x195007,x195008,x195009,false,0,0,false,x3))
def ddiref39_Strip.f (k : Nat) (a0_0 : Int) (a0_1 : Int) (a0_2 : Int) (a0_3 : ByteArray) (a0_4 : Bool) (a0_5 : Int) (a0_6 : Int) (a0_7 : Bool) (a0_8 : Int) (a0_9 : Int) (a0_10 : Bool) (a0_11 : Int) (a0_12 : Int) (a0_13 : Bool) (l0_14 : List (S59)) : Option (Int × Int × Int × ByteArray × Bool × Int × Int × Bool × Int × Int × Bool × Int × Int × Bool × (List (S59))) := ddiref39_Strip.l0 k ([] : List (S59)) 0 a0_0 a0_1 a0_2 a0_3 a0_4 a0_5 a0_6 a0_7 a0_8 a0_9 a0_10 a0_11 a0_12 a0_13 l0_14
def prefix_length.f (a0_0 : Bool) (a0_1 : Int) (a0_2 : Int) : Option (Int) := if a0_0 = true then (some 128) else (some 32)
def prefix_later.f (a0 : Bool) (a1 : Int) : Option (Int × Int) := if a0 = true then (if a1 ≥ 64 then (if 0 ≤ (IntKind.u64.wrap (wrap64 (128 - a1))) then (some (0,IntKind.u64.wrap ((shl .u64 1 (IntKind.u64.wrap (wrap64 (128 - a1)))) - 1))) else (none)) else (if 0 ≤ (IntKind.u64.wrap (wrap64 (64 - a1))) then (some (IntKind.u64.wrap ((shl .u64 1 (IntKind.u64.wrap (wrap64 (64 - a1)))) - 1),18446744073709551615)) else (none))) else (if 0 ≤ (IntKind.u64.wrap (wrap64 (32 - a1))) then (some (0,IntKind.u64.wrap ((shl .u64 1 (IntKind.u64.wrap (wrap64 (32 - a1)))) - 1))) else (none))
def prefix_Valid.j0 : Nat → Bool → Bool → Int → Int → Int → Option (Bool)
 | 0,_,_,_,_,_ => none
 | k + 1,x21,x203000,x203001,x203002,x203003 => if x21 = true then (some false) else ((prefix_later.f x203000 x203003).bind fun bt205 => (if (Go.bits .and .u64 x203001 bt205.1) = 0 then (some ((Go.bits .and .u64 x203002 bt205.2) == 0)) else (some false)))
def prefix_Valid.f (k : Nat) (a0_0 : Bool) (a0_1 : Int) (a0_2 : Int) (a0_3 : Int) : Option (Bool) := (addr_Valid.f a0_0 a0_1 a0_2).bind fun t203 => (if t203 = true then (if a0_3 < 0 then (prefix_Valid.j0 k true a0_0 a0_1 a0_2 a0_3) else ((prefix_length.f a0_0 a0_1 a0_2).bind fun t204 => (prefix_Valid.j0 k (decide (a0_3 > t204)) a0_0 a0_1 a0_2 a0_3))) else (prefix_Valid.j0 k true a0_0 a0_1 a0_2 a0_3))
theorem prefix_Valid.mono_l : ∀ k,(∀ y0 y1 y2 y3 y4,LeO (prefix_Valid.j0 k y0 y1 y2 y3 y4) (prefix_Valid.j0 (k + 1) y0 y1 y2 y3 y4))
 | 0 => fun _ _ _ _ _ r h => by simp [prefix_Valid.j0] at h
 | k + 1 => by
  have ih0 := prefix_Valid.mono_l k
  ·intro y0 y1 y2 y3 y4
   unfold prefix_Valid.j0
   repeat' first
   | (with_reducible exact ih0 _ _ _ _ _)
   | (with_reducible exact LeO.refl _)
   | (with_reducible exact LeO.none _)
   | (with_reducible refine LeO.ite ?_ ?_)
   | (with_reducible refine LeO.bind ?_ (fun _ => ?_))
theorem prefix_Valid.mono : ∀ a0 a1 a2 a3 k,LeO (prefix_Valid.f k a0 a1 a2 a3) (prefix_Valid.f (k + 1) a0 a1 a2 a3) := by
 intro a0 a1 a2 a3 k
 have ih0 := prefix_Valid.mono_l k
 unfold prefix_Valid.f
 repeat' first
   | (with_reducible exact ih0 _ _ _ _ _)
   | (with_reducible exact LeO.refl _)
   | (with_reducible exact LeO.none _)
   | (with_reducible refine LeO.ite ?_ ?_)
   | (with_reducible refine LeO.bind ?_ (fun _ => ?_))
def prefix_Of.j0 : Nat → Int → Bool → Bool → Int → Int → Option (Bool × Int × Int × Int × Bool)
 | 0,_,_,_,_,_ => none
 | k + 1,x1,x20,x208000,x208001,x208002 => if x20 = true then (some (false,0,0,0,false)) else ((prefix_later.f x208000 x1).bind fun bt211 => (some (x208000,Go.bits .andNot .u64 x208001 bt211.1,Go.bits .andNot .u64 x208002 bt211.2,x1,true)))
def prefix_Of.f (k : Nat) (a0_0 : Bool) (a0_1 : Int) (a0_2 : Int) (a1 : Int) : Option (Bool × Int × Int × Int × Bool) := (addr_Valid.f a0_0 a0_1 a0_2).bind fun t209 => (if t209 = true then (if a1 < 0 then (prefix_Of.j0 k a1 true a0_0 a0_1 a0_2) else ((prefix_length.f a0_0 a0_1 a0_2).bind fun t210 => (prefix_Of.j0 k a1 (decide (a1 > t210)) a0_0 a0_1 a0_2))) else (prefix_Of.j0 k a1 true a0_0 a0_1 a0_2))
theorem prefix_Of.mono_l : ∀ k,(∀ y0 y1 y2 y3 y4,LeO (prefix_Of.j0 k y0 y1 y2 y3 y4) (prefix_Of.j0 (k + 1) y0 y1 y2 y3 y4))
 | 0 => fun _ _ _ _ _ r h => by simp [prefix_Of.j0] at h
 | k + 1 => by
  have ih0 := prefix_Of.mono_l k
  ·intro y0 y1 y2 y3 y4
   unfold prefix_Of.j0
   repeat' first
   | (with_reducible exact ih0 _ _ _ _ _)
   | (with_reducible exact LeO.refl _)
   | (with_reducible exact LeO.none _)
   | (with_reducible refine LeO.ite ?_ ?_)
   | (with_reducible refine LeO.bind ?_ (fun _ => ?_))
theorem prefix_Of.mono : ∀ a0 a1 a2 a3 k,LeO (prefix_Of.f k a0 a1 a2 a3) (prefix_Of.f (k + 1) a0 a1 a2 a3) := by
 intro a0 a1 a2 a3 k
 have ih0 := prefix_Of.mono_l k
 unfold prefix_Of.f
 repeat' first
   | (with_reducible exact ih0 _ _ _ _ _)
   | (with_reducible exact LeO.refl _)
   | (with_reducible exact LeO.none _)
   | (with_reducible refine LeO.ite ?_ ?_)
   | (with_reducible refine LeO.bind ?_ (fun _ => ?_))
def prefix_Contains.j0 : Nat → Bool → Bool → Int → Int → Int → Bool → Int → Int → Option (Bool)
 | 0,_,_,_,_,_,_,_,_ => none
 | k + 1,x17,x214000,x214001,x214002,x214003,x215000,x215001,x215002 => if x17 = true then (some false) else ((prefix_Of.f k x215000 x215001 x215002 x214003).bind fun bt216 => (if bt216.2.2.2.2 = true then (some ((bt216.1 == x214000 && (bt216.2.1 == x214001 && (bt216.2.2.1 == x214002))) && (bt216.2.2.2.1 == x214003))) else (some false)))
def prefix_Contains.f (k : Nat) (a0_0 : Bool) (a0_1 : Int) (a0_2 : Int) (a0_3 : Int) (a1_0 : Bool) (a1_1 : Int) (a1_2 : Int) : Option (Bool) := (prefix_Valid.f k a0_0 a0_1 a0_2 a0_3).bind fun t215 => (if t215 = true then (prefix_Contains.j0 k (a0_0 != a1_0) a0_0 a0_1 a0_2 a0_3 a1_0 a1_1 a1_2) else (prefix_Contains.j0 k true a0_0 a0_1 a0_2 a0_3 a1_0 a1_1 a1_2))
theorem prefix_Contains.mono_l : ∀ k,(∀ y0 y1 y2 y3 y4 y5 y6 y7,LeO (prefix_Contains.j0 k y0 y1 y2 y3 y4 y5 y6 y7) (prefix_Contains.j0 (k + 1) y0 y1 y2 y3 y4 y5 y6 y7))
 | 0 => fun _ _ _ _ _ _ _ _ r h => by simp [prefix_Contains.j0] at h
 | k + 1 => by
  have ih0 := prefix_Contains.mono_l k
  ·intro y0 y1 y2 y3 y4 y5 y6 y7
   unfold prefix_Contains.j0
   repeat' first
   | (with_reducible exact ih0 _ _ _ _ _ _ _ _)
   | (with_reducible exact prefix_Of.mono _ _ _ _ _)
   | (with_reducible exact prefix_Valid.mono _ _ _ _ _)
   | (with_reducible exact LeO.refl _)
   | (with_reducible exact LeO.none _)
   | (with_reducible refine LeO.ite ?_ ?_)
   | (with_reducible refine LeO.bind ?_ (fun _ => ?_))
theorem prefix_Contains.mono : ∀ a0 a1 a2 a3 a4 a5 a6 k,LeO (prefix_Contains.f k a0 a1 a2 a3 a4 a5 a6) (prefix_Contains.f (k + 1) a0 a1 a2 a3 a4 a5 a6) := by
 intro a0 a1 a2 a3 a4 a5 a6 k
 have ih0 := prefix_Contains.mono_l k
 unfold prefix_Contains.f
 repeat' first
   | (with_reducible exact ih0 _ _ _ _ _ _ _ _)
   | (with_reducible exact prefix_Of.mono _ _ _ _ _)
   | (with_reducible exact prefix_Valid.mono _ _ _ _ _)
   | (with_reducible exact LeO.refl _)
   | (with_reducible exact LeO.none _)
   | (with_reducible refine LeO.ite ?_ ?_)
   | (with_reducible refine LeO.bind ?_ (fun _ => ?_))
def prefix_Bounds.f (k : Nat) (a0_0 : Bool) (a0_1 : Int) (a0_2 : Int) (a0_3 : Int) : Option (Bool × Int × Int × Bool × Int × Int × Bool) := (prefix_Valid.f k a0_0 a0_1 a0_2 a0_3).bind fun t224 => (if t224 = true then ((prefix_later.f a0_0 a0_3).bind fun bt225 => (some (a0_0,a0_1,a0_2,a0_0,Go.bits .or .u64 a0_1 bt225.1,Go.bits .or .u64 a0_2 bt225.2,true))) else (some (false,0,0,false,0,0,false)))
theorem prefix_Bounds.mono : ∀ a0 a1 a2 a3 k,LeO (prefix_Bounds.f k a0 a1 a2 a3) (prefix_Bounds.f (k + 1) a0 a1 a2 a3) := by
 intro a0 a1 a2 a3 k
 unfold prefix_Bounds.f
 repeat' first
   | (with_reducible exact prefix_Valid.mono _ _ _ _ _)
   | (with_reducible exact LeO.refl _)
   | (with_reducible exact LeO.none _)
   | (with_reducible refine LeO.ite ?_ ?_)
   | (with_reducible refine LeO.bind ?_ (fun _ => ?_))
def pool_leased.f (k : Nat) (a0_0 : Bool) (a0_1 : Int) (a0_2 : Int) (a0_3 : Int) (a1_0 : Bool) (a1_1 : Int) (a1_2 : Int) : Option (Bool) := (prefix_Bounds.f k a0_0 a0_1 a0_2 a0_3).bind fun bt230 => ((prefix_Contains.f k a0_0 a0_1 a0_2 a0_3 a1_0 a1_1 a1_2).bind fun t238 => (if t238 = true then (if (!(a1_0 == bt230.1) || (!(a1_1 == bt230.2.1) || (!(a1_2 == bt230.2.2.1)))) = true then (some (!(a1_0 == bt230.2.2.2.1) || (!(a1_1 == bt230.2.2.2.2.1) || (!(a1_2 == bt230.2.2.2.2.2.1))))) else (some false)) else (some false)))
theorem pool_leased.mono : ∀ a0 a1 a2 a3 a4 a5 a6 k,LeO (pool_leased.f k a0 a1 a2 a3 a4 a5 a6) (pool_leased.f (k + 1) a0 a1 a2 a3 a4 a5 a6) := by
 intro a0 a1 a2 a3 a4 a5 a6 k
 unfold pool_leased.f
 repeat' first
   | (with_reducible exact prefix_Bounds.mono _ _ _ _ _)
   | (with_reducible exact prefix_Contains.mono _ _ _ _ _ _ _ _)
   | (with_reducible exact LeO.refl _)
   | (with_reducible exact LeO.none _)
   | (with_reducible refine LeO.ite ?_ ?_)
   | (with_reducible refine LeO.bind ?_ (fun _ => ?_))
def addr_number.f (a0 : Int) (a1 : Int) : Option (Int) := if a0 < a1 then (some (-1)) else (if a0 > a1 then (some 1) else (some 0))
def addr_Compare.j0 : Nat → Bool → Bool → Int → Int → Bool → Int → Int → Option (Int)
 | 0,_,_,_,_,_,_,_ => none
 | k + 1,x5,x240000,x240001,x240002,x241000,x241001,x241002 => if x5 = true then (some (-1)) else (if (x240000 != x241000) = true then (some 1) else (if x240001 = x241001 then ((addr_number.f x240002 x241002).bind fun t242 => (some t242)) else ((addr_number.f x240001 x241001).bind fun t241 => (some t241))))
def addr_Compare.f (k : Nat) (a0_0 : Bool) (a0_1 : Int) (a0_2 : Int) (a1_0 : Bool) (a1_1 : Int) (a1_2 : Int) : Option (Int) := if (a0_0 != a1_0) = true then (addr_Compare.j0 k a1_0 a0_0 a0_1 a0_2 a1_0 a1_1 a1_2) else (addr_Compare.j0 k false a0_0 a0_1 a0_2 a1_0 a1_1 a1_2)
theorem addr_Compare.mono_l : ∀ k,(∀ y0 y1 y2 y3 y4 y5 y6,LeO (addr_Compare.j0 k y0 y1 y2 y3 y4 y5 y6) (addr_Compare.j0 (k + 1) y0 y1 y2 y3 y4 y5 y6))
 | 0 => fun _ _ _ _ _ _ _ r h => by simp [addr_Compare.j0] at h
 | k + 1 => by
  have ih0 := addr_Compare.mono_l k
  ·intro y0 y1 y2 y3 y4 y5 y6
   unfold addr_Compare.j0
   repeat' first
   | (with_reducible exact ih0 _ _ _ _ _ _ _)
   | (with_reducible exact LeO.refl _)
   | (with_reducible exact LeO.none _)
   | (with_reducible refine LeO.ite ?_ ?_)
   | (with_reducible refine LeO.bind ?_ (fun _ => ?_))
theorem addr_Compare.mono : ∀ a0 a1 a2 a3 a4 a5 k,LeO (addr_Compare.f k a0 a1 a2 a3 a4 a5) (addr_Compare.f (k + 1) a0 a1 a2 a3 a4 a5) := by
 intro a0 a1 a2 a3 a4 a5 k
 have ih0 := addr_Compare.mono_l k
 unfold addr_Compare.f
 repeat' first
   | (with_reducible exact ih0 _ _ _ _ _ _ _)
   | (with_reducible exact LeO.refl _)
   | (with_reducible exact LeO.none _)
   | (with_reducible refine LeO.ite ?_ ?_)
   | (with_reducible refine LeO.bind ?_ (fun _ => ?_))
def pool_in.f (k : Nat) (a0_0 : Bool) (a0_1 : Int) (a0_2 : Int) (a0_3 : Bool) (a0_4 : Int) (a0_5 : Int) (a1_0 : Bool) (a1_1 : Int) (a1_2 : Int) : Option (Bool) := (addr_Compare.f k a0_0 a0_1 a0_2 a1_0 a1_1 a1_2).bind fun t245 => (if t245 ≤ 0 then ((addr_Compare.f k a1_0 a1_1 a1_2 a0_3 a0_4 a0_5).bind fun t246 => (some (decide (t246 ≤ 0)))) else (some false))
theorem pool_in.mono : ∀ a0 a1 a2 a3 a4 a5 a6 a7 a8 k,LeO (pool_in.f k a0 a1 a2 a3 a4 a5 a6 a7 a8) (pool_in.f (k + 1) a0 a1 a2 a3 a4 a5 a6 a7 a8) := by
 intro a0 a1 a2 a3 a4 a5 a6 a7 a8 k
 unfold pool_in.f
 repeat' first
   | (with_reducible exact addr_Compare.mono _ _ _ _ _ _ _)
   | (with_reducible exact LeO.refl _)
   | (with_reducible exact LeO.none _)
   | (with_reducible refine LeO.ite ?_ ?_)
   | (with_reducible refine LeO.bind ?_ (fun _ => ?_))
def pool_pools_1.f (k : Nat) (a0_0 : Bool) (a0_1 : Int) (a0_2 : Int) (a0_3 : Bool) (a0_4 : Int) (a0_5 : Int) (a1_0 : Bool) (a1_1 : Int) (a1_2 : Int) (a1_3 : Bool) (a1_4 : Int) (a1_5 : Int) : Option (Bool) := (pool_in.f k a0_0 a0_1 a0_2 a0_3 a0_4 a0_5 a1_0 a1_1 a1_2).bind fun t248 => (if t248 = true then (some true) else ((pool_in.f k a1_0 a1_1 a1_2 a1_3 a1_4 a1_5 a0_0 a0_1 a0_2).bind fun t249 => (some t249)))
theorem pool_pools_1.mono : ∀ a0 a1 a2 a3 a4 a5 a6 a7 a8 a9 a10 a11 k,LeO (pool_pools_1.f k a0 a1 a2 a3 a4 a5 a6 a7 a8 a9 a10 a11) (pool_pools_1.f (k + 1) a0 a1 a2 a3 a4 a5 a6 a7 a8 a9 a10 a11) := by
 intro a0 a1 a2 a3 a4 a5 a6 a7 a8 a9 a10 a11 k
 unfold pool_pools_1.f
 repeat' first
   | (with_reducible exact pool_in.mono _ _ _ _ _ _ _ _ _ _)
   | (with_reducible exact LeO.refl _)
   | (with_reducible exact LeO.none _)
   | (with_reducible refine LeO.ite ?_ ?_)
   | (with_reducible refine LeO.bind ?_ (fun _ => ?_))
def slices_IndexFunc_60.l0 : Nat → List (S75) → Int → Int → Bool → Int → Int → Bool → Int → Int → Option (Int)
 | 0,_,_,_,_,_,_,_,_,_ => none
 | k + 1,x0,x7,x8,x700101000,x700101001,x700101002,x700101003,x700101004,x700101005 => if x8 < x7 then (if 0 ≤ x8 then (if x8 < (x0.length : Int) then ((pool_pools_1.f k ((rd_T75 x0 x8).f0.f0) ((rd_T75 x0 x8).f0.f1) ((rd_T75 x0 x8).f0.f2) ((rd_T75 x0 x8).f1.f0) ((rd_T75 x0 x8).f1.f1) ((rd_T75 x0 x8).f1.f2) x700101000 x700101001 x700101002 x700101003 x700101004 x700101005).bind fun t251 => (if t251 = true then (some x8) else (slices_IndexFunc_60.l0 k x0 x7 (wrap64 (x8 + 1)) x700101000 x700101001 x700101002 x700101003 x700101004 x700101005))) else (none)) else (none)) else (some (-1))
def slices_IndexFunc_60.f (k : Nat) (l0 : List (S75)) (a1_0 : Bool) (a1_1 : Int) (a1_2 : Int) (a1_3 : Bool) (a1_4 : Int) (a1_5 : Int) : Option (Int) := slices_IndexFunc_60.l0 k l0 (l0.length : Int) 0 a1_0 a1_1 a1_2 a1_3 a1_4 a1_5
theorem slices_IndexFunc_60.mono_l : ∀ k,(∀ y0 y1 y2 y3 y4 y5 y6 y7 y8,LeO (slices_IndexFunc_60.l0 k y0 y1 y2 y3 y4 y5 y6 y7 y8) (slices_IndexFunc_60.l0 (k + 1) y0 y1 y2 y3 y4 y5 y6 y7 y8))
 | 0 => fun _ _ _ _ _ _ _ _ _ r h => by simp [slices_IndexFunc_60.l0] at h
 | k + 1 => by
  have ih0 := slices_IndexFunc_60.mono_l k
  ·intro y0 y1 y2 y3 y4 y5 y6 y7 y8
   unfold slices_IndexFunc_60.l0
   repeat' first
   | (with_reducible exact ih0 _ _ _ _ _ _ _ _ _)
   | (with_reducible exact pool_pools_1.mono _ _ _ _ _ _ _ _ _ _ _ _ _)
   | (with_reducible exact LeO.refl _)
   | (with_reducible exact LeO.none _)
   | (with_reducible refine LeO.ite ?_ ?_)
   | (with_reducible refine LeO.bind ?_ (fun _ => ?_))
theorem slices_IndexFunc_60.mono : ∀ a0 a1 a2 a3 a4 a5 a6 k,LeO (slices_IndexFunc_60.f k a0 a1 a2 a3 a4 a5 a6) (slices_IndexFunc_60.f (k + 1) a0 a1 a2 a3 a4 a5 a6) := by
 intro a0 a1 a2 a3 a4 a5 a6 k
 have ih0 := slices_IndexFunc_60.mono_l k
 unfold slices_IndexFunc_60.f
 repeat' first
   | (with_reducible exact ih0 _ _ _ _ _ _ _ _ _)
   | (with_reducible exact pool_pools_1.mono _ _ _ _ _ _ _ _ _ _ _ _ _)
   | (with_reducible exact LeO.refl _)
   | (with_reducible exact LeO.none _)
   | (with_reducible refine LeO.ite ?_ ?_)
   | (with_reducible refine LeO.bind ?_ (fun _ => ?_))
def slices_ContainsFunc_60.f (k : Nat) (l0 : List (S75)) (a1_0 : Bool) (a1_1 : Int) (a1_2 : Int) (a1_3 : Bool) (a1_4 : Int) (a1_5 : Int) : Option (Bool) := (slices_IndexFunc_60.f k l0 a1_0 a1_1 a1_2 a1_3 a1_4 a1_5).bind fun t252 => (some (decide (t252 ≥ 0)))
theorem slices_ContainsFunc_60.mono : ∀ a0 a1 a2 a3 a4 a5 a6 k,LeO (slices_ContainsFunc_60.f k a0 a1 a2 a3 a4 a5 a6) (slices_ContainsFunc_60.f (k + 1) a0 a1 a2 a3 a4 a5 a6) := by
 intro a0 a1 a2 a3 a4 a5 a6 k
 unfold slices_ContainsFunc_60.f
 repeat' first
   | (with_reducible exact slices_IndexFunc_60.mono _ _ _ _ _ _ _ _)
   | (with_reducible exact LeO.refl _)
   | (with_reducible exact LeO.none _)
   | (with_reducible refine LeO.ite ?_ ?_)
   | (with_reducible refine LeO.bind ?_ (fun _ => ?_))
mutual
def pool_pools.l0 : Nat → List (S75) → Int → Int → Bool → Int → Int → Int → ByteArray → List (S75) → List (S81) → List (S59) → Int → Option (Int)
 | 0,_,_,_,_,_,_,_,_,_,_,_,_ => none
 | k + 1,x6,x7,x8,x254000,x254001,x254002,x254003,x254004,x254005,x254006,x254007,x254008 => if x8 < x7 then (if 0 ≤ x8 then (if x8 < (x6.length : Int) then ((pool_leased.f k x254000 x254001 x254002 x254003 ((rd_T75 x6 x8).f0.f0) ((rd_T75 x6 x8).f0.f1) ((rd_T75 x6 x8).f0.f2)).bind fun t256 => (if t256 = true then ((pool_leased.f k x254000 x254001 x254002 x254003 ((rd_T75 x6 x8).f1.f0) ((rd_T75 x6 x8).f1.f1) ((rd_T75 x6 x8).f1.f2)).bind fun t257 => (if t257 = true then ((addr_Compare.f k ((rd_T75 x6 x8).f0.f0) ((rd_T75 x6 x8).f0.f1) ((rd_T75 x6 x8).f0.f2) ((rd_T75 x6 x8).f1.f0) ((rd_T75 x6 x8).f1.f1) ((rd_T75 x6 x8).f1.f2)).bind fun t258 => (pool_pools.j1 k x8 x6 x7 x8 (decide (t258 > 0)) x254000 x254001 x254002 x254003 x254004 x254005 x254006 x254007 x254008 ((rd_T75 x6 x8).f0.f0) ((rd_T75 x6 x8).f0.f1) ((rd_T75 x6 x8).f0.f2) ((rd_T75 x6 x8).f1.f0) ((rd_T75 x6 x8).f1.f1) ((rd_T75 x6 x8).f1.f2))) else (pool_pools.j1 k x8 x6 x7 x8 true x254000 x254001 x254002 x254003 x254004 x254005 x254006 x254007 x254008 ((rd_T75 x6 x8).f0.f0) ((rd_T75 x6 x8).f0.f1) ((rd_T75 x6 x8).f0.f2) ((rd_T75 x6 x8).f1.f0) ((rd_T75 x6 x8).f1.f1) ((rd_T75 x6 x8).f1.f2)))) else (pool_pools.j1 k x8 x6 x7 x8 true x254000 x254001 x254002 x254003 x254004 x254005 x254006 x254007 x254008 ((rd_T75 x6 x8).f0.f0) ((rd_T75 x6 x8).f0.f1) ((rd_T75 x6 x8).f0.f2) ((rd_T75 x6 x8).f1.f0) ((rd_T75 x6 x8).f1.f1) ((rd_T75 x6 x8).f1.f2)))) else (none)) else (none)) else (some 0)
def pool_pools.j1 : Nat → Int → List (S75) → Int → Int → Bool → Bool → Int → Int → Int → ByteArray → List (S75) → List (S81) → List (S59) → Int → Bool → Int → Int → Bool → Int → Int → Option (Int)
 | 0,_,_,_,_,_,_,_,_,_,_,_,_,_,_,_,_,_,_,_,_ => none
 | k + 1,x3,x6,x7,x8,x34,x254000,x254001,x254002,x254003,x254004,x254005,x254006,x254007,x254008,x256000,x256001,x256002,x256003,x256004,x256005 => if x34 = true then (some 3) else (if 0 ≤ x3 then (if x3 ≤ (x254005.length : Int) then ((slices_ContainsFunc_60.f k (x254005.take (x3 : Int).toNat) x256000 x256001 x256002 x256003 x256004 x256005).bind fun t263 => (if t263 = true then (some 24) else (pool_pools.l0 k x6 x7 (wrap64 (x8 + 1)) x254000 x254001 x254002 x254003 x254004 x254005 x254006 x254007 x254008))) else (none)) else (none))
end
def pool_pools.f (k : Nat) (a0_0 : Bool) (a0_1 : Int) (a0_2 : Int) (a0_3 : Int) (a0_4 : ByteArray) (l0_5 : List (S75)) (l0_6 : List (S81)) (l0_7 : List (S59)) (a0_8 : Int) : Option (Int) := pool_pools.l0 k l0_5 (l0_5.length : Int) 0 a0_0 a0_1 a0_2 a0_3 a0_4 l0_5 l0_6 l0_7 a0_8
theorem pool_pools.mono_l : ∀ k,(∀ y0 y1 y2 y3 y4 y5 y6 y7 y8 y9 y10 y11,LeO (pool_pools.l0 k y0 y1 y2 y3 y4 y5 y6 y7 y8 y9 y10 y11) (pool_pools.l0 (k + 1) y0 y1 y2 y3 y4 y5 y6 y7 y8 y9 y10 y11)) ∧ (∀ y0 y1 y2 y3 y4 y5 y6 y7 y8 y9 y10 y11 y12 y13 y14 y15 y16 y17 y18 y19,LeO (pool_pools.j1 k y0 y1 y2 y3 y4 y5 y6 y7 y8 y9 y10 y11 y12 y13 y14 y15 y16 y17 y18 y19) (pool_pools.j1 (k + 1) y0 y1 y2 y3 y4 y5 y6 y7 y8 y9 y10 y11 y12 y13 y14 y15 y16 y17 y18 y19))
 | 0 => ⟨fun _ _ _ _ _ _ _ _ _ _ _ _ r h => by simp [pool_pools.l0] at h,fun _ _ _ _ _ _ _ _ _ _ _ _ _ _ _ _ _ _ _ _ r h => by simp [pool_pools.j1] at h⟩
 | k + 1 => by
  obtain ⟨ih0,ih1⟩ := pool_pools.mono_l k
  refine ⟨?_,?_⟩
  ·intro y0 y1 y2 y3 y4 y5 y6 y7 y8 y9 y10 y11
   unfold pool_pools.l0
   repeat' first
   | (with_reducible exact ih0 _ _ _ _ _ _ _ _ _ _ _ _)
   | (with_reducible exact ih1 _ _ _ _ _ _ _ _ _ _ _ _ _ _ _ _ _ _ _ _)
   | (with_reducible exact addr_Compare.mono _ _ _ _ _ _ _)
   | (with_reducible exact pool_leased.mono _ _ _ _ _ _ _ _)
   | (with_reducible exact slices_ContainsFunc_60.mono _ _ _ _ _ _ _ _)
   | (with_reducible exact LeO.refl _)
   | (with_reducible exact LeO.none _)
   | (with_reducible refine LeO.ite ?_ ?_)
   | (with_reducible refine LeO.bind ?_ (fun _ => ?_))
  ·intro y0 y1 y2 y3 y4 y5 y6 y7 y8 y9 y10 y11 y12 y13 y14 y15 y16 y17 y18 y19
   unfold pool_pools.j1
   repeat' first
   | (with_reducible exact ih0 _ _ _ _ _ _ _ _ _ _ _ _)
   | (with_reducible exact ih1 _ _ _ _ _ _ _ _ _ _ _ _ _ _ _ _ _ _ _ _)
   | (with_reducible exact addr_Compare.mono _ _ _ _ _ _ _)
   | (with_reducible exact pool_leased.mono _ _ _ _ _ _ _ _)
   | (with_reducible exact slices_ContainsFunc_60.mono _ _ _ _ _ _ _ _)
   | (with_reducible exact LeO.refl _)
   | (with_reducible exact LeO.none _)
   | (with_reducible refine LeO.ite ?_ ?_)
   | (with_reducible refine LeO.bind ?_ (fun _ => ?_))
theorem pool_pools.mono : ∀ a0 a1 a2 a3 a4 a5 a6 a7 a8 k,LeO (pool_pools.f k a0 a1 a2 a3 a4 a5 a6 a7 a8) (pool_pools.f (k + 1) a0 a1 a2 a3 a4 a5 a6 a7 a8) := by
 intro a0 a1 a2 a3 a4 a5 a6 a7 a8 k
 obtain ⟨ih0,ih1⟩ := pool_pools.mono_l k
 unfold pool_pools.f
 repeat' first
   | (with_reducible exact ih0 _ _ _ _ _ _ _ _ _ _ _ _)
   | (with_reducible exact ih1 _ _ _ _ _ _ _ _ _ _ _ _ _ _ _ _ _ _ _ _)
   | (with_reducible exact addr_Compare.mono _ _ _ _ _ _ _)
   | (with_reducible exact pool_leased.mono _ _ _ _ _ _ _ _)
   | (with_reducible exact slices_ContainsFunc_60.mono _ _ _ _ _ _ _ _)
   | (with_reducible exact LeO.refl _)
   | (with_reducible exact LeO.none _)
   | (with_reducible refine LeO.ite ?_ ?_)
   | (with_reducible refine LeO.bind ?_ (fun _ => ?_))
def pool_client_1.f (a0 : Int) : Option (Bool) := if a0 < 33 then (some true) else (some (decide (a0 > 126)))
def slices_IndexFunc_77.l0 : Nat → List Int → Int → Int → Option (Int)
 | 0,_,_,_ => none
 | k + 1,x0,x7,x8 => if x8 < x7 then (if 0 ≤ x8 then (if x8 < (x0.length : Int) then ((pool_client_1.f (rd x0 x8)).bind fun t265 => (if t265 = true then (some x8) else (slices_IndexFunc_77.l0 k x0 x7 (wrap64 (x8 + 1))))) else (none)) else (none)) else (some (-1))
def slices_IndexFunc_77.f (k : Nat) (l0 : List Int)  : Option (Int) := slices_IndexFunc_77.l0 k l0 (l0.length : Int) 0
theorem slices_IndexFunc_77.mono_l : ∀ k,(∀ y0 y1 y2,LeO (slices_IndexFunc_77.l0 k y0 y1 y2) (slices_IndexFunc_77.l0 (k + 1) y0 y1 y2))
 | 0 => fun _ _ _ r h => by simp [slices_IndexFunc_77.l0] at h
 | k + 1 => by
  have ih0 := slices_IndexFunc_77.mono_l k
  ·intro y0 y1 y2
   unfold slices_IndexFunc_77.l0
   repeat' first
   | (with_reducible exact ih0 _ _ _)
   | (with_reducible exact LeO.refl _)
   | (with_reducible exact LeO.none _)
   | (with_reducible refine LeO.ite ?_ ?_)
   | (with_reducible refine LeO.bind ?_ (fun _ => ?_))
theorem slices_IndexFunc_77.mono : ∀ a0 k,LeO (slices_IndexFunc_77.f k a0) (slices_IndexFunc_77.f (k + 1) a0) := by
 intro a0 k
 have ih0 := slices_IndexFunc_77.mono_l k
 unfold slices_IndexFunc_77.f
 repeat' first
   | (with_reducible exact ih0 _ _ _)
   | (with_reducible exact LeO.refl _)
   | (with_reducible exact LeO.none _)
   | (with_reducible refine LeO.ite ?_ ?_)
   | (with_reducible refine LeO.bind ?_ (fun _ => ?_))
def slices_ContainsFunc_77.f (k : Nat) (l0 : List Int)  : Option (Bool) := (slices_IndexFunc_77.f k l0).bind fun t266 => (some (decide (t266 ≥ 0)))
theorem slices_ContainsFunc_77.mono : ∀ a0 k,LeO (slices_ContainsFunc_77.f k a0) (slices_ContainsFunc_77.f (k + 1) a0) := by
 intro a0 k
 unfold slices_ContainsFunc_77.f
 repeat' first
   | (with_reducible exact slices_IndexFunc_77.mono _ _)
   | (with_reducible exact LeO.refl _)
   | (with_reducible exact LeO.none _)
   | (with_reducible refine LeO.ite ?_ ?_)
   | (with_reducible refine LeO.bind ?_ (fun _ => ?_))
def pool_client.f (k : Nat) (a0 : ByteArray) : Option (Bool) := if (a0.size : Int) ≥ 1 then (if (a0.size : Int) ≤ 32 then ((conv_bytes_54.f a0).bind fun t267 => ((slices_ContainsFunc_77.f k t267).bind fun t270 => (some (!t270)))) else (some false)) else (some false)
theorem pool_client.mono : ∀ a0 k,LeO (pool_client.f k a0) (pool_client.f (k + 1) a0) := by
 intro a0 k
 unfold pool_client.f
 repeat' first
   | (with_reducible exact slices_ContainsFunc_77.mono _ _)
   | (with_reducible exact LeO.refl _)
   | (with_reducible exact LeO.none _)
   | (with_reducible refine LeO.ite ?_ ?_)
   | (with_reducible refine LeO.bind ?_ (fun _ => ?_))
def pool_reserved_1.f (a0_0 : ByteArray) (a0_1 : Bool) (a0_2 : Int) (a0_3 : Int) (a0_4 : ByteArray) (a1_0 : ByteArray) (a1_1 : Bool) (a1_2 : Int) (a1_3 : Int) (a1_4 : ByteArray) : Option (Bool) := if a0_0.toList = a1_0.toList then (some true) else (some (a0_1 == a1_1 && (a0_2 == a1_2 && (a0_3 == a1_3))))
def stringslite_HasSuffix.f (a0 : ByteArray) (a1 : ByteArray) : Option (Bool) := if (a0.size : Int) ≥ (a1.size : Int) then (if 0 ≤ (wrap64 ((a0.size : Int) - (a1.size : Int))) then (if (wrap64 ((a0.size : Int) - (a1.size : Int))) ≤ (a0.size : Int) then (some ((a0.extract ((wrap64 ((a0.size : Int) - (a1.size : Int))) : Int).toNat a0.size).toList == a1.toList)) else (none)) else (none)) else (some false)
def strings_HasSuffix.f (a0 : ByteArray) (a1 : ByteArray) : Option (Bool) := (stringslite_HasSuffix.f a0 a1).bind fun t272 => (some t272)
def strings_explode.f (a0 : ByteArray) (a1 : Int) : Option (List ByteArray) := none
def stringslite_Index.f (a0 : ByteArray) (a1 : ByteArray) : Option (Int) := if a1.size = 1 then some (XB.index a0 a1) else none
def strings_Index.f (a0 : ByteArray) (a1 : ByteArray) : Option (Int) := (stringslite_Index.f a0 a1).bind fun t275 => (some t275)
def strings_Count.f (a0 : ByteArray) (a1 : ByteArray) : Option (Int) := if a1.size = 1 then some (XB.count a0 a1) else none
mutual
def strings_genSplit.j0 : Nat → ByteArray → ByteArray → Int → Int → Option (List ByteArray)
 | 0,_,_,_,_ => none
 | k + 1,x0,x1,x2,x3 => if 0 ≤ (mn x3 (wrap64 ((x0.size : Int) + 1))) then (if (mn x3 (wrap64 ((x0.size : Int) + 1)) : Int).toNat ≤ 17592186044416 then (strings_genSplit.l0 k x0 x1 x2 (wrap64 ((mn x3 (wrap64 ((x0.size : Int) + 1))) - 1)) (List.replicate (mn x3 (wrap64 ((x0.size : Int) + 1)) : Int).toNat (⟨#[]⟩ : ByteArray)) 0) else (none)) else (none)
def strings_genSplit.l0 : Nat → ByteArray → ByteArray → Int → Int → List ByteArray → Int → Option (List ByteArray)
 | 0,_,_,_,_,_,_ => none
 | k + 1,x0,x1,x2,x3,x9,x10 => if x10 < x3 then ((strings_Index.f x0 x1).bind fun t287 => (if t287 < 0 then (if 0 ≤ x10 then (if x10 < (x9.length : Int) then (if 0 ≤ (wrap64 (x10 + 1)) then (if (wrap64 (x10 + 1)) ≤ (x9.length : Int) then (some ((x9.set (x10 : Int).toNat x0).take ((wrap64 (x10 + 1)) : Int).toNat)) else (none)) else (none)) else (none)) else (none)) else (if 0 ≤ (wrap64 (t287 + x2)) then (if (wrap64 (t287 + x2)) ≤ (x0.size : Int) then (if 0 ≤ x10 then (if x10 < (x9.length : Int) then (if 0 ≤ (wrap64 (t287 + (x1.size : Int))) then (if (wrap64 (t287 + (x1.size : Int))) ≤ (x0.size : Int) then (strings_genSplit.l0 k (x0.extract ((wrap64 (t287 + (x1.size : Int))) : Int).toNat x0.size) x1 x2 x3 (x9.set (x10 : Int).toNat (x0.extract 0 ((wrap64 (t287 + x2)) : Int).toNat)) (wrap64 (x10 + 1))) else (none)) else (none)) else (none)) else (none)) else (none)) else (none)))) else (if 0 ≤ x10 then (if x10 < (x9.length : Int) then (if 0 ≤ (wrap64 (x10 + 1)) then (if (wrap64 (x10 + 1)) ≤ (x9.length : Int) then (some ((x9.set (x10 : Int).toNat x0).take ((wrap64 (x10 + 1)) : Int).toNat)) else (none)) else (none)) else (none)) else (none))
end
def strings_genSplit.f (k : Nat) (a0 : ByteArray) (a1 : ByteArray) (a2 : Int) (a3 : Int) : Option (List ByteArray) := if a3 = 0 then (some ([] : List ByteArray)) else (if a1.toList = ([] : List UInt8) then ((strings_explode.f a0 a3).bind fun t276 => (some t276)) else (if a3 < 0 then ((strings_Count.f a0 a1).bind fun t279 => (strings_genSplit.j0 k a0 a1 a2 (wrap64 (t279 + 1)))) else (strings_genSplit.j0 k a0 a1 a2 a3)))
theorem strings_genSplit.mono_l : ∀ k,(∀ y0 y1 y2 y3,LeO (strings_genSplit.j0 k y0 y1 y2 y3) (strings_genSplit.j0 (k + 1) y0 y1 y2 y3)) ∧ (∀ y0 y1 y2 y3 y4 y5,LeO (strings_genSplit.l0 k y0 y1 y2 y3 y4 y5) (strings_genSplit.l0 (k + 1) y0 y1 y2 y3 y4 y5))
 | 0 => ⟨fun _ _ _ _ r h => by simp [strings_genSplit.j0] at h,fun _ _ _ _ _ _ r h => by simp [strings_genSplit.l0] at h⟩
 | k + 1 => by
  obtain ⟨ih0,ih1⟩ := strings_genSplit.mono_l k
  refine ⟨?_,?_⟩
  ·intro y0 y1 y2 y3
   unfold strings_genSplit.j0
   repeat' first
   | (with_reducible exact ih0 _ _ _ _)
   | (with_reducible exact ih1 _ _ _ _ _ _)
   | (with_reducible exact LeO.refl _)
   | (with_reducible exact LeO.none _)
   | (with_reducible refine LeO.ite ?_ ?_)
   | (with_reducible refine LeO.bind ?_ (fun _ => ?_))
  ·intro y0 y1 y2 y3 y4 y5
   unfold strings_genSplit.l0
   repeat' first
   | (with_reducible exact ih0 _ _ _ _)
   | (with_reducible exact ih1 _ _ _ _ _ _)
   | (with_reducible exact LeO.refl _)
   | (with_reducible exact LeO.none _)
   | (with_reducible refine LeO.ite ?_ ?_)
   | (with_reducible refine LeO.bind ?_ (fun _ => ?_))
theorem strings_genSplit.mono : ∀ a0 a1 a2 a3 k,LeO (strings_genSplit.f k a0 a1 a2 a3) (strings_genSplit.f (k + 1) a0 a1 a2 a3) := by
 intro a0 a1 a2 a3 k
 obtain ⟨ih0,ih1⟩ := strings_genSplit.mono_l k
 unfold strings_genSplit.f
 repeat' first
   | (with_reducible exact ih0 _ _ _ _)
   | (with_reducible exact ih1 _ _ _ _ _ _)
   | (with_reducible exact LeO.refl _)
   | (with_reducible exact LeO.none _)
   | (with_reducible refine LeO.ite ?_ ?_)
   | (with_reducible refine LeO.bind ?_ (fun _ => ?_))
def strings_Split.f (k : Nat) (a0 : ByteArray) (a1 : ByteArray) : Option (List ByteArray) := (strings_genSplit.f k a0 a1 0 (-1)).bind fun t293 => (some t293)
theorem strings_Split.mono : ∀ a0 a1 k,LeO (strings_Split.f k a0 a1) (strings_Split.f (k + 1) a0 a1) := by
 intro a0 a1 k
 unfold strings_Split.f
 repeat' first
   | (with_reducible exact strings_genSplit.mono _ _ _ _ _)
   | (with_reducible exact LeO.refl _)
   | (with_reducible exact LeO.none _)
   | (with_reducible refine LeO.ite ?_ ?_)
   | (with_reducible refine LeO.bind ?_ (fun _ => ?_))
mutual
def dname_ordinary.j0 : Nat → ByteArray → Bool → Option (Bool)
 | 0,_,_ => none
 | k + 1,x0,x11 => if x11 = true then (some false) else (dname_ordinary.l0 k x0 (x0.size : Int) 0)
def dname_ordinary.l0 : Nat → ByteArray → Int → Int → Option (Bool)
 | 0,_,_,_ => none
 | k + 1,x0,x13,x14 => if x14 < x13 then (if 0 ≤ x14 then (if x14 < (x0.size : Int) then (if (bt x0 x14) < 97 then (if (bt x0 x14) < 48 then (if (bt x0 x14) = 45 then (dname_ordinary.j2 k x0 x13 x14 false) else (dname_ordinary.j2 k x0 x13 x14 ((bt x0 x14) != 95))) else (if (bt x0 x14) > 57 then (if (bt x0 x14) = 45 then (dname_ordinary.j2 k x0 x13 x14 false) else (dname_ordinary.j2 k x0 x13 x14 ((bt x0 x14) != 95))) else (dname_ordinary.j2 k x0 x13 x14 false))) else (if (bt x0 x14) > 122 then (if (bt x0 x14) < 48 then (if (bt x0 x14) = 45 then (dname_ordinary.j2 k x0 x13 x14 false) else (dname_ordinary.j2 k x0 x13 x14 ((bt x0 x14) != 95))) else (if (bt x0 x14) > 57 then (if (bt x0 x14) = 45 then (dname_ordinary.j2 k x0 x13 x14 false) else (dname_ordinary.j2 k x0 x13 x14 ((bt x0 x14) != 95))) else (dname_ordinary.j2 k x0 x13 x14 false))) else (dname_ordinary.j2 k x0 x13 x14 false))) else (none)) else (none)) else (some true)
def dname_ordinary.j2 : Nat → ByteArray → Int → Int → Bool → Option (Bool)
 | 0,_,_,_,_ => none
 | k + 1,x0,x13,x14,x41 => if x41 = true then (some false) else (dname_ordinary.l0 k x0 x13 (wrap64 (x14 + 1)))
end
def dname_ordinary.f (k : Nat) (a0 : ByteArray) : Option (Bool) := if a0.toList = ([] : List UInt8) then (dname_ordinary.j0 k a0 true) else (dname_ordinary.j0 k a0 (decide ((a0.size : Int) > 63)))
theorem dname_ordinary.mono_l : ∀ k,(∀ y0 y1,LeO (dname_ordinary.j0 k y0 y1) (dname_ordinary.j0 (k + 1) y0 y1)) ∧ (∀ y0 y1 y2,LeO (dname_ordinary.l0 k y0 y1 y2) (dname_ordinary.l0 (k + 1) y0 y1 y2)) ∧ (∀ y0 y1 y2 y3,LeO (dname_ordinary.j2 k y0 y1 y2 y3) (dname_ordinary.j2 (k + 1) y0 y1 y2 y3))
 | 0 => ⟨fun _ _ r h => by simp [dname_ordinary.j0] at h,fun _ _ _ r h => by simp [dname_ordinary.l0] at h,fun _ _ _ _ r h => by simp [dname_ordinary.j2] at h⟩
 | k + 1 => by
  obtain ⟨ih0,ih1,ih2⟩ := dname_ordinary.mono_l k
  refine ⟨?_,?_,?_⟩
  ·intro y0 y1
   unfold dname_ordinary.j0
   repeat' first
   | (with_reducible exact ih0 _ _)
   | (with_reducible exact ih1 _ _ _)
   | (with_reducible exact ih2 _ _ _ _)
   | (with_reducible exact LeO.refl _)
   | (with_reducible exact LeO.none _)
   | (with_reducible refine LeO.ite ?_ ?_)
   | (with_reducible refine LeO.bind ?_ (fun _ => ?_))
  ·intro y0 y1 y2
   unfold dname_ordinary.l0
   repeat' first
   | (with_reducible exact ih0 _ _)
   | (with_reducible exact ih1 _ _ _)
   | (with_reducible exact ih2 _ _ _ _)
   | (with_reducible exact LeO.refl _)
   | (with_reducible exact LeO.none _)
   | (with_reducible refine LeO.ite ?_ ?_)
   | (with_reducible refine LeO.bind ?_ (fun _ => ?_))
  ·intro y0 y1 y2 y3
   unfold dname_ordinary.j2
   repeat' first
   | (with_reducible exact ih0 _ _)
   | (with_reducible exact ih1 _ _ _)
   | (with_reducible exact ih2 _ _ _ _)
   | (with_reducible exact LeO.refl _)
   | (with_reducible exact LeO.none _)
   | (with_reducible refine LeO.ite ?_ ?_)
   | (with_reducible refine LeO.bind ?_ (fun _ => ?_))
theorem dname_ordinary.mono : ∀ a0 k,LeO (dname_ordinary.f k a0) (dname_ordinary.f (k + 1) a0) := by
 intro a0 k
 obtain ⟨ih0,ih1,ih2⟩ := dname_ordinary.mono_l k
 unfold dname_ordinary.f
 repeat' first
   | (with_reducible exact ih0 _ _)
   | (with_reducible exact ih1 _ _ _)
   | (with_reducible exact ih2 _ _ _ _)
   | (with_reducible exact LeO.refl _)
   | (with_reducible exact LeO.none _)
   | (with_reducible refine LeO.ite ?_ ?_)
   | (with_reducible refine LeO.bind ?_ (fun _ => ?_))
mutual
def dname_Valid.j0 : Nat → ByteArray → Bool → Option (Bool)
 | 0,_,_ => none
 | k + 1,x0,x14 => if x14 = true then (some false) else (if 0 ≤ (wrap64 ((x0.size : Int) - 1)) then (if (wrap64 ((x0.size : Int) - 1)) ≤ (x0.size : Int) then ((strings_Split.f k (x0.extract 0 ((wrap64 ((x0.size : Int) - 1)) : Int).toNat) (⟨#[46]⟩ : ByteArray)).bind fun t297 => (dname_Valid.l0 k t297 (t297.length : Int) 0)) else (none)) else (none))
def dname_Valid.l0 : Nat → List ByteArray → Int → Int → Option (Bool)
 | 0,_,_,_ => none
 | k + 1,x20,x21,x22 => if x22 < x21 then (if 0 ≤ x22 then (if x22 < (x20.length : Int) then ((dname_ordinary.f k (rdOf ByteArray.empty x20 x22)).bind fun t301 => (if t301 = true then (dname_Valid.j2 k x20 x21 x22 false) else (if x22 > 0 then (dname_Valid.j2 k x20 x21 x22 true) else (dname_Valid.j2 k x20 x21 x22 ((rdOf ByteArray.empty x20 x22).toList != ([42] : List UInt8)))))) else (none)) else (none)) else (some true)
def dname_Valid.j2 : Nat → List ByteArray → Int → Int → Bool → Option (Bool)
 | 0,_,_,_,_ => none
 | k + 1,x20,x21,x22,x37 => if x37 = true then (some false) else (dname_Valid.l0 k x20 x21 (wrap64 (x22 + 1)))
end
def dname_Valid.f (k : Nat) (a0 : ByteArray) : Option (Bool) := if a0.toList = ([46] : List UInt8) then (some true) else (if (a0.size : Int) ≥ 255 then (dname_Valid.j0 k a0 true) else ((strings_HasSuffix.f a0 (⟨#[46]⟩ : ByteArray)).bind fun t296 => (dname_Valid.j0 k a0 (!t296))))
theorem dname_Valid.mono_l : ∀ k,(∀ y0 y1,LeO (dname_Valid.j0 k y0 y1) (dname_Valid.j0 (k + 1) y0 y1)) ∧ (∀ y0 y1 y2,LeO (dname_Valid.l0 k y0 y1 y2) (dname_Valid.l0 (k + 1) y0 y1 y2)) ∧ (∀ y0 y1 y2 y3,LeO (dname_Valid.j2 k y0 y1 y2 y3) (dname_Valid.j2 (k + 1) y0 y1 y2 y3))
 | 0 => ⟨fun _ _ r h => by simp [dname_Valid.j0] at h,fun _ _ _ r h => by simp [dname_Valid.l0] at h,fun _ _ _ _ r h => by simp [dname_Valid.j2] at h⟩
 | k + 1 => by
  obtain ⟨ih0,ih1,ih2⟩ := dname_Valid.mono_l k
  refine ⟨?_,?_,?_⟩
  ·intro y0 y1
   unfold dname_Valid.j0
   repeat' first
   | (with_reducible exact ih0 _ _)
   | (with_reducible exact ih1 _ _ _)
   | (with_reducible exact ih2 _ _ _ _)
   | (with_reducible exact dname_ordinary.mono _ _)
   | (with_reducible exact strings_Split.mono _ _ _)
   | (with_reducible exact LeO.refl _)
   | (with_reducible exact LeO.none _)
   | (with_reducible refine LeO.ite ?_ ?_)
   | (with_reducible refine LeO.bind ?_ (fun _ => ?_))
  ·intro y0 y1 y2
   unfold dname_Valid.l0
   repeat' first
   | (with_reducible exact ih0 _ _)
   | (with_reducible exact ih1 _ _ _)
   | (with_reducible exact ih2 _ _ _ _)
   | (with_reducible exact dname_ordinary.mono _ _)
   | (with_reducible exact strings_Split.mono _ _ _)
   | (with_reducible exact LeO.refl _)
   | (with_reducible exact LeO.none _)
   | (with_reducible refine LeO.ite ?_ ?_)
   | (with_reducible refine LeO.bind ?_ (fun _ => ?_))
  ·intro y0 y1 y2 y3
   unfold dname_Valid.j2
   repeat' first
   | (with_reducible exact ih0 _ _)
   | (with_reducible exact ih1 _ _ _)
   | (with_reducible exact ih2 _ _ _ _)
   | (with_reducible exact dname_ordinary.mono _ _)
   | (with_reducible exact strings_Split.mono _ _ _)
   | (with_reducible exact LeO.refl _)
   | (with_reducible exact LeO.none _)
   | (with_reducible refine LeO.ite ?_ ?_)
   | (with_reducible refine LeO.bind ?_ (fun _ => ?_))
theorem dname_Valid.mono : ∀ a0 k,LeO (dname_Valid.f k a0) (dname_Valid.f (k + 1) a0) := by
 intro a0 k
 obtain ⟨ih0,ih1,ih2⟩ := dname_Valid.mono_l k
 unfold dname_Valid.f
 repeat' first
   | (with_reducible exact ih0 _ _)
   | (with_reducible exact ih1 _ _ _)
   | (with_reducible exact ih2 _ _ _ _)
   | (with_reducible exact dname_ordinary.mono _ _)
   | (with_reducible exact strings_Split.mono _ _ _)
   | (with_reducible exact LeO.refl _)
   | (with_reducible exact LeO.none _)
   | (with_reducible refine LeO.ite ?_ ?_)
   | (with_reducible refine LeO.bind ?_ (fun _ => ?_))
def slices_IndexFunc_64.l0 : Nat → List (S81) → Int → Int → ByteArray → Bool → Int → Int → ByteArray → Option (Int)
 | 0,_,_,_,_,_,_,_,_ => none
 | k + 1,x0,x7,x8,x700101000,x700101001,x700101002,x700101003,x700101004 => if x8 < x7 then (if 0 ≤ x8 then (if x8 < (x0.length : Int) then ((pool_reserved_1.f ((rd_T81 x0 x8).f0) ((rd_T81 x0 x8).f1.f0) ((rd_T81 x0 x8).f1.f1) ((rd_T81 x0 x8).f1.f2) ((rd_T81 x0 x8).f2) x700101000 x700101001 x700101002 x700101003 x700101004).bind fun t303 => (if t303 = true then (some x8) else (slices_IndexFunc_64.l0 k x0 x7 (wrap64 (x8 + 1)) x700101000 x700101001 x700101002 x700101003 x700101004))) else (none)) else (none)) else (some (-1))
def slices_IndexFunc_64.f (k : Nat) (l0 : List (S81)) (a1_0 : ByteArray) (a1_1 : Bool) (a1_2 : Int) (a1_3 : Int) (a1_4 : ByteArray) : Option (Int) := slices_IndexFunc_64.l0 k l0 (l0.length : Int) 0 a1_0 a1_1 a1_2 a1_3 a1_4
theorem slices_IndexFunc_64.mono_l : ∀ k,(∀ y0 y1 y2 y3 y4 y5 y6 y7,LeO (slices_IndexFunc_64.l0 k y0 y1 y2 y3 y4 y5 y6 y7) (slices_IndexFunc_64.l0 (k + 1) y0 y1 y2 y3 y4 y5 y6 y7))
 | 0 => fun _ _ _ _ _ _ _ _ r h => by simp [slices_IndexFunc_64.l0] at h
 | k + 1 => by
  have ih0 := slices_IndexFunc_64.mono_l k
  ·intro y0 y1 y2 y3 y4 y5 y6 y7
   unfold slices_IndexFunc_64.l0
   repeat' first
   | (with_reducible exact ih0 _ _ _ _ _ _ _ _)
   | (with_reducible exact LeO.refl _)
   | (with_reducible exact LeO.none _)
   | (with_reducible refine LeO.ite ?_ ?_)
   | (with_reducible refine LeO.bind ?_ (fun _ => ?_))
theorem slices_IndexFunc_64.mono : ∀ a0 a1 a2 a3 a4 a5 k,LeO (slices_IndexFunc_64.f k a0 a1 a2 a3 a4 a5) (slices_IndexFunc_64.f (k + 1) a0 a1 a2 a3 a4 a5) := by
 intro a0 a1 a2 a3 a4 a5 k
 have ih0 := slices_IndexFunc_64.mono_l k
 unfold slices_IndexFunc_64.f
 repeat' first
   | (with_reducible exact ih0 _ _ _ _ _ _ _ _)
   | (with_reducible exact LeO.refl _)
   | (with_reducible exact LeO.none _)
   | (with_reducible refine LeO.ite ?_ ?_)
   | (with_reducible refine LeO.bind ?_ (fun _ => ?_))
def slices_ContainsFunc_64.f (k : Nat) (l0 : List (S81)) (a1_0 : ByteArray) (a1_1 : Bool) (a1_2 : Int) (a1_3 : Int) (a1_4 : ByteArray) : Option (Bool) := (slices_IndexFunc_64.f k l0 a1_0 a1_1 a1_2 a1_3 a1_4).bind fun t304 => (some (decide (t304 ≥ 0)))
theorem slices_ContainsFunc_64.mono : ∀ a0 a1 a2 a3 a4 a5 k,LeO (slices_ContainsFunc_64.f k a0 a1 a2 a3 a4 a5) (slices_ContainsFunc_64.f (k + 1) a0 a1 a2 a3 a4 a5) := by
 intro a0 a1 a2 a3 a4 a5 k
 unfold slices_ContainsFunc_64.f
 repeat' first
   | (with_reducible exact slices_IndexFunc_64.mono _ _ _ _ _ _ _)
   | (with_reducible exact LeO.refl _)
   | (with_reducible exact LeO.none _)
   | (with_reducible refine LeO.ite ?_ ?_)
   | (with_reducible refine LeO.bind ?_ (fun _ => ?_))
mutual
def pool_reserved.l0 : Nat → List (S81) → Int → Int → Bool → Int → Int → Int → ByteArray → List (S75) → List (S81) → List (S59) → Int → Option (Int)
 | 0,_,_,_,_,_,_,_,_,_,_,_,_ => none
 | k + 1,x6,x7,x8,x306000,x306001,x306002,x306003,x306004,x306005,x306006,x306007,x306008 => if x8 < x7 then (if 0 ≤ x8 then (if x8 < (x6.length : Int) then ((pool_client.f k ((rd_T81 x6 x8).f0)).bind fun t308 => (if t308 = true then ((pool_leased.f k x306000 x306001 x306002 x306003 ((rd_T81 x6 x8).f1.f0) ((rd_T81 x6 x8).f1.f1) ((rd_T81 x6 x8).f1.f2)).bind fun t309 => (if t309 = true then (if x8 ≤ (x306006.length : Int) then ((slices_ContainsFunc_64.f k (x306006.take (x8 : Int).toNat) ((rd_T81 x6 x8).f0) ((rd_T81 x6 x8).f1.f0) ((rd_T81 x6 x8).f1.f1) ((rd_T81 x6 x8).f1.f2) ((rd_T81 x6 x8).f2)).bind fun t314 => (if t314 = true then (some 12) else (if ((rd_T81 x6 x8).f2).toList = ([] : List UInt8) then (pool_reserved.j1 k x6 x7 x8 false x306000 x306001 x306002 x306003 x306004 x306005 x306006 x306007 x306008) else ((dname_Valid.f k ((rd_T81 x6 x8).f2)).bind fun t315 => (pool_reserved.j1 k x6 x7 x8 (!t315) x306000 x306001 x306002 x306003 x306004 x306005 x306006 x306007 x306008))))) else (none)) else (some 3))) else (some 9))) else (none)) else (none)) else (some 0)
def pool_reserved.j1 : Nat → List (S81) → Int → Int → Bool → Bool → Int → Int → Int → ByteArray → List (S75) → List (S81) → List (S59) → Int → Option (Int)
 | 0,_,_,_,_,_,_,_,_,_,_,_,_,_ => none
 | k + 1,x6,x7,x8,x32,x306000,x306001,x306002,x306003,x306004,x306005,x306006,x306007,x306008 => if x32 = true then (some 2) else (pool_reserved.l0 k x6 x7 (wrap64 (x8 + 1)) x306000 x306001 x306002 x306003 x306004 x306005 x306006 x306007 x306008)
end
def pool_reserved.f (k : Nat) (a0_0 : Bool) (a0_1 : Int) (a0_2 : Int) (a0_3 : Int) (a0_4 : ByteArray) (l0_5 : List (S75)) (l0_6 : List (S81)) (l0_7 : List (S59)) (a0_8 : Int) : Option (Int) := pool_reserved.l0 k l0_6 (l0_6.length : Int) 0 a0_0 a0_1 a0_2 a0_3 a0_4 l0_5 l0_6 l0_7 a0_8
theorem pool_reserved.mono_l : ∀ k,(∀ y0 y1 y2 y3 y4 y5 y6 y7 y8 y9 y10 y11,LeO (pool_reserved.l0 k y0 y1 y2 y3 y4 y5 y6 y7 y8 y9 y10 y11) (pool_reserved.l0 (k + 1) y0 y1 y2 y3 y4 y5 y6 y7 y8 y9 y10 y11)) ∧ (∀ y0 y1 y2 y3 y4 y5 y6 y7 y8 y9 y10 y11 y12,LeO (pool_reserved.j1 k y0 y1 y2 y3 y4 y5 y6 y7 y8 y9 y10 y11 y12) (pool_reserved.j1 (k + 1) y0 y1 y2 y3 y4 y5 y6 y7 y8 y9 y10 y11 y12))
 | 0 => ⟨fun _ _ _ _ _ _ _ _ _ _ _ _ r h => by simp [pool_reserved.l0] at h,fun _ _ _ _ _ _ _ _ _ _ _ _ _ r h => by simp [pool_reserved.j1] at h⟩
 | k + 1 => by
  obtain ⟨ih0,ih1⟩ := pool_reserved.mono_l k
  refine ⟨?_,?_⟩
  ·intro y0 y1 y2 y3 y4 y5 y6 y7 y8 y9 y10 y11
   unfold pool_reserved.l0
   repeat' first
   | (with_reducible exact ih0 _ _ _ _ _ _ _ _ _ _ _ _)
   | (with_reducible exact ih1 _ _ _ _ _ _ _ _ _ _ _ _ _)
   | (with_reducible exact dname_Valid.mono _ _)
   | (with_reducible exact pool_client.mono _ _)
   | (with_reducible exact pool_leased.mono _ _ _ _ _ _ _ _)
   | (with_reducible exact slices_ContainsFunc_64.mono _ _ _ _ _ _ _)
   | (with_reducible exact LeO.refl _)
   | (with_reducible exact LeO.none _)
   | (with_reducible refine LeO.ite ?_ ?_)
   | (with_reducible refine LeO.bind ?_ (fun _ => ?_))
  ·intro y0 y1 y2 y3 y4 y5 y6 y7 y8 y9 y10 y11 y12
   unfold pool_reserved.j1
   repeat' first
   | (with_reducible exact ih0 _ _ _ _ _ _ _ _ _ _ _ _)
   | (with_reducible exact ih1 _ _ _ _ _ _ _ _ _ _ _ _ _)
   | (with_reducible exact dname_Valid.mono _ _)
   | (with_reducible exact pool_client.mono _ _)
   | (with_reducible exact pool_leased.mono _ _ _ _ _ _ _ _)
   | (with_reducible exact slices_ContainsFunc_64.mono _ _ _ _ _ _ _)
   | (with_reducible exact LeO.refl _)
   | (with_reducible exact LeO.none _)
   | (with_reducible refine LeO.ite ?_ ?_)
   | (with_reducible refine LeO.bind ?_ (fun _ => ?_))
theorem pool_reserved.mono : ∀ a0 a1 a2 a3 a4 a5 a6 a7 a8 k,LeO (pool_reserved.f k a0 a1 a2 a3 a4 a5 a6 a7 a8) (pool_reserved.f (k + 1) a0 a1 a2 a3 a4 a5 a6 a7 a8) := by
 intro a0 a1 a2 a3 a4 a5 a6 a7 a8 k
 obtain ⟨ih0,ih1⟩ := pool_reserved.mono_l k
 unfold pool_reserved.f
 repeat' first
   | (with_reducible exact ih0 _ _ _ _ _ _ _ _ _ _ _ _)
   | (with_reducible exact ih1 _ _ _ _ _ _ _ _ _ _ _ _ _)
   | (with_reducible exact dname_Valid.mono _ _)
   | (with_reducible exact pool_client.mono _ _)
   | (with_reducible exact pool_leased.mono _ _ _ _ _ _ _ _)
   | (with_reducible exact slices_ContainsFunc_64.mono _ _ _ _ _ _ _)
   | (with_reducible exact LeO.refl _)
   | (with_reducible exact LeO.none _)
   | (with_reducible refine LeO.ite ?_ ?_)
   | (with_reducible refine LeO.bind ?_ (fun _ => ?_))
mutual
def pool_Check.j0 : Nat → Bool → Bool → Int → Int → Int → ByteArray → List (S75) → List (S81) → List (S59) → Int → Option (Int)
 | 0,_,_,_,_,_,_,_,_,_,_ => none
 | k + 1,x5,x317000,x317001,x317002,x317003,x317004,x317005,x317006,x317007,x317008 => if x5 = true then (some 3) else (if (x317005.length : Int) > 16 then (pool_Check.j1 k true x317000 x317001 x317002 x317003 x317004 x317005 x317006 x317007 x317008) else (pool_Check.j1 k (decide ((x317006.length : Int) > 16)) x317000 x317001 x317002 x317003 x317004 x317005 x317006 x317007 x317008))
def pool_Check.j1 : Nat → Bool → Bool → Int → Int → Int → ByteArray → List (S75) → List (S81) → List (S59) → Int → Option (Int)
 | 0,_,_,_,_,_,_,_,_,_,_ => none
 | k + 1,x22,x317000,x317001,x317002,x317003,x317004,x317005,x317006,x317007,x317008 => if x22 = true then (some 9) else ((pool_pools.f k x317000 x317001 x317002 x317003 x317004 x317005 x317006 x317007 x317008).bind fun t318 => (if t318 = 0 then ((pool_reserved.f k x317000 x317001 x317002 x317003 x317004 x317005 x317006 x317007 x317008).bind fun t319 => (if t319 = 0 then ((option_Valid.f k x317007).bind fun t320 => (if t320 = true then (if x317008 < 1 then (pool_Check.j2 k true) else (if x317008 > 1073741824 then (pool_Check.j2 k true) else (pool_Check.j2 k (decide ((x317004.size : Int) > 255))))) else (pool_Check.j2 k true))) else (some t319))) else (some t318)))
def pool_Check.j2 : Nat → Bool → Option (Int)
 | 0,_ => none
 | k + 1,x62 => if x62 = true then (some 1) else (some 0)
end
def pool_Check.f (k : Nat) (a0_0 : Bool) (a0_1 : Int) (a0_2 : Int) (a0_3 : Int) (a0_4 : ByteArray) (l0_5 : List (S75)) (l0_6 : List (S81)) (l0_7 : List (S59)) (a0_8 : Int) : Option (Int) := (prefix_Valid.f k a0_0 a0_1 a0_2 a0_3).bind fun t317 => (if t317 = true then (if a0_0 = true then (pool_Check.j0 k true a0_0 a0_1 a0_2 a0_3 a0_4 l0_5 l0_6 l0_7 a0_8) else (pool_Check.j0 k (decide (a0_3 > 30)) a0_0 a0_1 a0_2 a0_3 a0_4 l0_5 l0_6 l0_7 a0_8)) else (pool_Check.j0 k true a0_0 a0_1 a0_2 a0_3 a0_4 l0_5 l0_6 l0_7 a0_8))
theorem pool_Check.mono_l : ∀ k,(∀ y0 y1 y2 y3 y4 y5 y6 y7 y8 y9,LeO (pool_Check.j0 k y0 y1 y2 y3 y4 y5 y6 y7 y8 y9) (pool_Check.j0 (k + 1) y0 y1 y2 y3 y4 y5 y6 y7 y8 y9)) ∧ (∀ y0 y1 y2 y3 y4 y5 y6 y7 y8 y9,LeO (pool_Check.j1 k y0 y1 y2 y3 y4 y5 y6 y7 y8 y9) (pool_Check.j1 (k + 1) y0 y1 y2 y3 y4 y5 y6 y7 y8 y9)) ∧ (∀ y0,LeO (pool_Check.j2 k y0) (pool_Check.j2 (k + 1) y0))
 | 0 => ⟨fun _ _ _ _ _ _ _ _ _ _ r h => by simp [pool_Check.j0] at h,fun _ _ _ _ _ _ _ _ _ _ r h => by simp [pool_Check.j1] at h,fun _ r h => by simp [pool_Check.j2] at h⟩
 | k + 1 => by
  obtain ⟨ih0,ih1,ih2⟩ := pool_Check.mono_l k
  refine ⟨?_,?_,?_⟩
  ·intro y0 y1 y2 y3 y4 y5 y6 y7 y8 y9
   unfold pool_Check.j0
   repeat' first
   | (with_reducible exact ih0 _ _ _ _ _ _ _ _ _ _)
   | (with_reducible exact ih1 _ _ _ _ _ _ _ _ _ _)
   | (with_reducible exact ih2 _)
   | (with_reducible exact option_Valid.mono _ _)
   | (with_reducible exact pool_pools.mono _ _ _ _ _ _ _ _ _ _)
   | (with_reducible exact pool_reserved.mono _ _ _ _ _ _ _ _ _ _)
   | (with_reducible exact prefix_Valid.mono _ _ _ _ _)
   | (with_reducible exact LeO.refl _)
   | (with_reducible exact LeO.none _)
   | (with_reducible refine LeO.ite ?_ ?_)
   | (with_reducible refine LeO.bind ?_ (fun _ => ?_))
  ·intro y0 y1 y2 y3 y4 y5 y6 y7 y8 y9
   unfold pool_Check.j1
   repeat' first
   | (with_reducible exact ih0 _ _ _ _ _ _ _ _ _ _)
   | (with_reducible exact ih1 _ _ _ _ _ _ _ _ _ _)
   | (with_reducible exact ih2 _)
   | (with_reducible exact option_Valid.mono _ _)
   | (with_reducible exact pool_pools.mono _ _ _ _ _ _ _ _ _ _)
   | (with_reducible exact pool_reserved.mono _ _ _ _ _ _ _ _ _ _)
   | (with_reducible exact prefix_Valid.mono _ _ _ _ _)
   | (with_reducible exact LeO.refl _)
   | (with_reducible exact LeO.none _)
   | (with_reducible refine LeO.ite ?_ ?_)
   | (with_reducible refine LeO.bind ?_ (fun _ => ?_))
  ·intro y0
   unfold pool_Check.j2
   repeat' first
   | (with_reducible exact ih0 _ _ _ _ _ _ _ _ _ _)
   | (with_reducible exact ih1 _ _ _ _ _ _ _ _ _ _)
   | (with_reducible exact ih2 _)
   | (with_reducible exact option_Valid.mono _ _)
   | (with_reducible exact pool_pools.mono _ _ _ _ _ _ _ _ _ _)
   | (with_reducible exact pool_reserved.mono _ _ _ _ _ _ _ _ _ _)
   | (with_reducible exact prefix_Valid.mono _ _ _ _ _)
   | (with_reducible exact LeO.refl _)
   | (with_reducible exact LeO.none _)
   | (with_reducible refine LeO.ite ?_ ?_)
   | (with_reducible refine LeO.bind ?_ (fun _ => ?_))
theorem pool_Check.mono : ∀ a0 a1 a2 a3 a4 a5 a6 a7 a8 k,LeO (pool_Check.f k a0 a1 a2 a3 a4 a5 a6 a7 a8) (pool_Check.f (k + 1) a0 a1 a2 a3 a4 a5 a6 a7 a8) := by
 intro a0 a1 a2 a3 a4 a5 a6 a7 a8 k
 obtain ⟨ih0,ih1,ih2⟩ := pool_Check.mono_l k
 unfold pool_Check.f
 repeat' first
   | (with_reducible exact ih0 _ _ _ _ _ _ _ _ _ _)
   | (with_reducible exact ih1 _ _ _ _ _ _ _ _ _ _)
   | (with_reducible exact ih2 _)
   | (with_reducible exact option_Valid.mono _ _)
   | (with_reducible exact pool_pools.mono _ _ _ _ _ _ _ _ _ _)
   | (with_reducible exact pool_reserved.mono _ _ _ _ _ _ _ _ _ _)
   | (with_reducible exact prefix_Valid.mono _ _ _ _ _)
   | (with_reducible exact LeO.refl _)
   | (with_reducible exact LeO.none _)
   | (with_reducible refine LeO.ite ?_ ?_)
   | (with_reducible refine LeO.bind ?_ (fun _ => ?_))
def prefix_Within.f (k : Nat) (a0_0 : Bool) (a0_1 : Int) (a0_2 : Int) (a0_3 : Int) (a1_0 : Bool) (a1_1 : Int) (a1_2 : Int) (a1_3 : Int) : Option (Bool) := (prefix_Valid.f k a0_0 a0_1 a0_2 a0_3).bind fun t323 => (if t323 = true then ((prefix_Valid.f k a1_0 a1_1 a1_2 a1_3).bind fun t324 => (if t324 = true then (if a0_3 ≥ a1_3 then ((prefix_Contains.f k a1_0 a1_1 a1_2 a1_3 a0_0 a0_1 a0_2).bind fun t325 => (some t325)) else (some false)) else (some false))) else (some false))
theorem prefix_Within.mono : ∀ a0 a1 a2 a3 a4 a5 a6 a7 k,LeO (prefix_Within.f k a0 a1 a2 a3 a4 a5 a6 a7) (prefix_Within.f (k + 1) a0 a1 a2 a3 a4 a5 a6 a7) := by
 intro a0 a1 a2 a3 a4 a5 a6 a7 k
 unfold prefix_Within.f
 repeat' first
   | (with_reducible exact prefix_Contains.mono _ _ _ _ _ _ _ _)
   | (with_reducible exact prefix_Valid.mono _ _ _ _ _)
   | (with_reducible exact LeO.refl _)
   | (with_reducible exact LeO.none _)
   | (with_reducible refine LeO.ite ?_ ?_)
   | (with_reducible refine LeO.bind ?_ (fun _ => ?_))
def prefix_Overlap.f (k : Nat) (a0_0 : Bool) (a0_1 : Int) (a0_2 : Int) (a0_3 : Int) (a1_0 : Bool) (a1_1 : Int) (a1_2 : Int) (a1_3 : Int) : Option (Bool) := (prefix_Within.f k a0_0 a0_1 a0_2 a0_3 a1_0 a1_1 a1_2 a1_3).bind fun t328 => (if t328 = true then (some true) else ((prefix_Within.f k a1_0 a1_1 a1_2 a1_3 a0_0 a0_1 a0_2 a0_3).bind fun t329 => (some t329)))
theorem prefix_Overlap.mono : ∀ a0 a1 a2 a3 a4 a5 a6 a7 k,LeO (prefix_Overlap.f k a0 a1 a2 a3 a4 a5 a6 a7) (prefix_Overlap.f (k + 1) a0 a1 a2 a3 a4 a5 a6 a7) := by
 intro a0 a1 a2 a3 a4 a5 a6 a7 k
 unfold prefix_Overlap.f
 repeat' first
   | (with_reducible exact prefix_Within.mono _ _ _ _ _ _ _ _ _)
   | (with_reducible exact LeO.refl _)
   | (with_reducible exact LeO.none _)
   | (with_reducible refine LeO.ite ?_ ?_)
   | (with_reducible refine LeO.bind ?_ (fun _ => ?_))
mutual
def relay_Check.l0 : Nat → List (S49) → List (S49) → Int → Int → Option (Int)
 | 0,_,_,_,_ => none
 | k + 1,x0,x13,x14,x15 => if x15 < x14 then (if 0 ≤ x15 then (if x15 < (x13.length : Int) then ((pool_Check.f k ((rd_T49 x13 x15).f0.f0.f0) ((rd_T49 x13 x15).f0.f0.f1) ((rd_T49 x13 x15).f0.f0.f2) ((rd_T49 x13 x15).f0.f1) ((rd_T49 x13 x15).f1) ((rd_T49 x13 x15).f2) ((rd_T49 x13 x15).f3) ((rd_T49 x13 x15).f4) ((rd_T49 x13 x15).f5)).bind fun t332 => (if t332 = 0 then (relay_Check.l0 k x0 x13 x14 (wrap64 (x15 + 1))) else (some t332))) else (none)) else (none)) else (relay_Check.l1 k x0 x0 (x0.length : Int) 0)
def relay_Check.l1 : Nat → List (S49) → List (S49) → Int → Int → Option (Int)
 | 0,_,_,_,_ => none
 | k + 1,x0,x25,x26,x27 => if x27 < x26 then (if 0 ≤ x27 then (if x27 < (x25.length : Int) then (if x27 ≤ (x0.length : Int) then ((some (x0.take (x27 : Int).toNat : List (S49))).bind fun y335 => (relay_Check.l2 k x0 x25 x26 x27 y335 (y335.length : Int) 0 ((rd_T49 x25 x27).f0.f0.f0) ((rd_T49 x25 x27).f0.f0.f1) ((rd_T49 x25 x27).f0.f0.f2) ((rd_T49 x25 x27).f0.f1) ((rd_T49 x25 x27).f1) ((rd_T49 x25 x27).f2) ((rd_T49 x25 x27).f3) ((rd_T49 x25 x27).f4) ((rd_T49 x25 x27).f5))) else (none)) else (none)) else (none)) else (some 0)
def relay_Check.l2 : Nat → List (S49) → List (S49) → Int → Int → List (S49) → Int → Int → Bool → Int → Int → Int → ByteArray → List (S75) → List (S81) → List (S59) → Int → Option (Int)
 | 0,_,_,_,_,_,_,_,_,_,_,_,_,_,_,_,_ => none
 | k + 1,x0,x25,x26,x27,x34,x35,x36,x335000,x335001,x335002,x335003,x335004,x335005,x335006,x335007,x335008 => if x36 < x35 then (if 0 ≤ x36 then (if x36 < (x34.length : Int) then ((prefix_Overlap.f k x335000 x335001 x335002 x335003 ((rd_T49 x34 x36).f0.f0.f0) ((rd_T49 x34 x36).f0.f0.f1) ((rd_T49 x34 x36).f0.f0.f2) ((rd_T49 x34 x36).f0.f1)).bind fun t341 => (if t341 = true then (some 24) else (relay_Check.l2 k x0 x25 x26 x27 x34 x35 (wrap64 (x36 + 1)) x335000 x335001 x335002 x335003 x335004 x335005 x335006 x335007 x335008))) else (none)) else (none)) else (relay_Check.l1 k x0 x25 x26 (wrap64 (x27 + 1)))
end
def relay_Check.f (k : Nat) (l0 : List (S49)) : Option (Int) := if (l0.length : Int) > 16 then (some 9) else (relay_Check.l0 k l0 l0 (l0.length : Int) 0)
theorem relay_Check.mono_l : ∀ k,(∀ y0 y1 y2 y3,LeO (relay_Check.l0 k y0 y1 y2 y3) (relay_Check.l0 (k + 1) y0 y1 y2 y3)) ∧ (∀ y0 y1 y2 y3,LeO (relay_Check.l1 k y0 y1 y2 y3) (relay_Check.l1 (k + 1) y0 y1 y2 y3)) ∧ (∀ y0 y1 y2 y3 y4 y5 y6 y7 y8 y9 y10 y11 y12 y13 y14 y15,LeO (relay_Check.l2 k y0 y1 y2 y3 y4 y5 y6 y7 y8 y9 y10 y11 y12 y13 y14 y15) (relay_Check.l2 (k + 1) y0 y1 y2 y3 y4 y5 y6 y7 y8 y9 y10 y11 y12 y13 y14 y15))
 | 0 => ⟨fun _ _ _ _ r h => by simp [relay_Check.l0] at h,fun _ _ _ _ r h => by simp [relay_Check.l1] at h,fun _ _ _ _ _ _ _ _ _ _ _ _ _ _ _ _ r h => by simp [relay_Check.l2] at h⟩
 | k + 1 => by
  obtain ⟨ih0,ih1,ih2⟩ := relay_Check.mono_l k
  refine ⟨?_,?_,?_⟩
  ·intro y0 y1 y2 y3
   unfold relay_Check.l0
   repeat' first
   | (with_reducible exact ih0 _ _ _ _)
   | (with_reducible exact ih1 _ _ _ _)
   | (with_reducible exact ih2 _ _ _ _ _ _ _ _ _ _ _ _ _ _ _ _)
   | (with_reducible exact pool_Check.mono _ _ _ _ _ _ _ _ _ _)
   | (with_reducible exact prefix_Overlap.mono _ _ _ _ _ _ _ _ _)
   | (with_reducible exact LeO.refl _)
   | (with_reducible exact LeO.none _)
   | (with_reducible refine LeO.ite ?_ ?_)
   | (with_reducible refine LeO.bind ?_ (fun _ => ?_))
  ·intro y0 y1 y2 y3
   unfold relay_Check.l1
   repeat' first
   | (with_reducible exact ih0 _ _ _ _)
   | (with_reducible exact ih1 _ _ _ _)
   | (with_reducible exact ih2 _ _ _ _ _ _ _ _ _ _ _ _ _ _ _ _)
   | (with_reducible exact pool_Check.mono _ _ _ _ _ _ _ _ _ _)
   | (with_reducible exact prefix_Overlap.mono _ _ _ _ _ _ _ _ _)
   | (with_reducible exact LeO.refl _)
   | (with_reducible exact LeO.none _)
   | (with_reducible refine LeO.ite ?_ ?_)
   | (with_reducible refine LeO.bind ?_ (fun _ => ?_))
  ·intro y0 y1 y2 y3 y4 y5 y6 y7 y8 y9 y10 y11 y12 y13 y14 y15
   unfold relay_Check.l2
   repeat' first
   | (with_reducible exact ih0 _ _ _ _)
   | (with_reducible exact ih1 _ _ _ _)
   | (with_reducible exact ih2 _ _ _ _ _ _ _ _ _ _ _ _ _ _ _ _)
   | (with_reducible exact pool_Check.mono _ _ _ _ _ _ _ _ _ _)
   | (with_reducible exact prefix_Overlap.mono _ _ _ _ _ _ _ _ _)
   | (with_reducible exact LeO.refl _)
   | (with_reducible exact LeO.none _)
   | (with_reducible refine LeO.ite ?_ ?_)
   | (with_reducible refine LeO.bind ?_ (fun _ => ?_))
theorem relay_Check.mono : ∀ a0 k,LeO (relay_Check.f k a0) (relay_Check.f (k + 1) a0) := by
 intro a0 k
 obtain ⟨ih0,ih1,ih2⟩ := relay_Check.mono_l k
 unfold relay_Check.f
 repeat' first
   | (with_reducible exact ih0 _ _ _ _)
   | (with_reducible exact ih1 _ _ _ _)
   | (with_reducible exact ih2 _ _ _ _ _ _ _ _ _ _ _ _ _ _ _ _)
   | (with_reducible exact pool_Check.mono _ _ _ _ _ _ _ _ _ _)
   | (with_reducible exact prefix_Overlap.mono _ _ _ _ _ _ _ _ _)
   | (with_reducible exact LeO.refl _)
   | (with_reducible exact LeO.none _)
   | (with_reducible refine LeO.ite ?_ ?_)
   | (with_reducible refine LeO.bind ?_ (fun _ => ?_))
mutual
def relay_Select.j0 : Nat → List (S49) → Int → Int → Int → ByteArray → Bool → Int → Int → Bool → Int → Int → Bool → Int → Int → Bool → List (S59) → Bool → Int → Int → Option (Int × Bool)
 | 0,_,_,_,_,_,_,_,_,_,_,_,_,_,_,_,_,_,_,_ => none
 | k + 1,x0,x343000,x343001,x343002,x343003,x343004,x343005,x343006,x343007,x343008,x343009,x343010,x343011,x343012,x343013,x343014,x345000,x345001,x345002 => (relay_Circuit.f k x343000 x343001 x343002 x343003 x343004 x343005 x343006 x343007 x343008 x343009 x343010 x343011 x343012 x343013 x343014).bind fun bt345 => (relay_Select.l0 k bt345.1 bt345.2 (-1) x0 (x0.length : Int) 0 x345000 x345001 x345002)
def relay_Select.l0 : Nat → ByteArray → Bool → Int → List (S49) → Int → Int → Bool → Int → Int → Option (Int × Bool)
 | 0,_,_,_,_,_,_,_,_,_ => none
 | k + 1,x9,x10,x11,x24,x25,x26,x345000,x345001,x345002 => if x26 < x25 then (if 0 ≤ x26 then (if x26 < (x24.length : Int) then ((prefix_Contains.f k ((rd_T49 x24 x26).f0.f0.f0) ((rd_T49 x24 x26).f0.f0.f1) ((rd_T49 x24 x26).f0.f0.f2) ((rd_T49 x24 x26).f0.f1) x345000 x345001 x345002).bind fun t349 => (if t349 = true then (if ((rd_T49 x24 x26).f1).toList = ([] : List UInt8) then (relay_Select.j2 k x9 x10 x11 x26 x24 x25 x26 false x345000 x345001 x345002 ((rd_T49 x24 x26).f0.f0.f0) ((rd_T49 x24 x26).f0.f0.f1) ((rd_T49 x24 x26).f0.f0.f2) ((rd_T49 x24 x26).f0.f1) ((rd_T49 x24 x26).f1) ((rd_T49 x24 x26).f2) ((rd_T49 x24 x26).f3) ((rd_T49 x24 x26).f4) ((rd_T49 x24 x26).f5)) else (if x10 = true then (relay_Select.j2 k x9 x10 x11 x26 x24 x25 x26 (((rd_T49 x24 x26).f1).toList == x9.toList) x345000 x345001 x345002 ((rd_T49 x24 x26).f0.f0.f0) ((rd_T49 x24 x26).f0.f0.f1) ((rd_T49 x24 x26).f0.f0.f2) ((rd_T49 x24 x26).f0.f1) ((rd_T49 x24 x26).f1) ((rd_T49 x24 x26).f2) ((rd_T49 x24 x26).f3) ((rd_T49 x24 x26).f4) ((rd_T49 x24 x26).f5)) else (relay_Select.j2 k x9 x10 x11 x26 x24 x25 x26 false x345000 x345001 x345002 ((rd_T49 x24 x26).f0.f0.f0) ((rd_T49 x24 x26).f0.f0.f1) ((rd_T49 x24 x26).f0.f0.f2) ((rd_T49 x24 x26).f0.f1) ((rd_T49 x24 x26).f1) ((rd_T49 x24 x26).f2) ((rd_T49 x24 x26).f3) ((rd_T49 x24 x26).f4) ((rd_T49 x24 x26).f5)))) else (relay_Select.l0 k x9 x10 x11 x24 x25 (wrap64 (x26 + 1)) x345000 x345001 x345002))) else (none)) else (none)) else (if x11 < 0 then (some (0,false)) else (some (x11,true)))
def relay_Select.j2 : Nat → ByteArray → Bool → Int → Int → List (S49) → Int → Int → Bool → Bool → Int → Int → Bool → Int → Int → Int → ByteArray → List (S75) → List (S81) → List (S59) → Int → Option (Int × Bool)
 | 0,_,_,_,_,_,_,_,_,_,_,_,_,_,_,_,_,_,_,_,_ => none
 | k + 1,x9,x10,x11,x12,x24,x25,x26,x47,x345000,x345001,x345002,x349000,x349001,x349002,x349003,x349004,x349005,x349006,x349007,x349008 => if x47 = true then (some (x12,true)) else (if x349004.toList = ([] : List UInt8) then (relay_Select.j3 k x9 x10 x11 x12 x24 x25 x26 (decide (x11 < 0)) x345000 x345001 x345002) else (relay_Select.j3 k x9 x10 x11 x12 x24 x25 x26 false x345000 x345001 x345002))
def relay_Select.j3 : Nat → ByteArray → Bool → Int → Int → List (S49) → Int → Int → Bool → Bool → Int → Int → Option (Int × Bool)
 | 0,_,_,_,_,_,_,_,_,_,_,_ => none
 | k + 1,x9,x10,x11,x12,x24,x25,x26,x55,x345000,x345001,x345002 => if x55 = true then (relay_Select.l0 k x9 x10 x12 x24 x25 (wrap64 (x26 + 1)) x345000 x345001 x345002) else (relay_Select.l0 k x9 x10 x11 x24 x25 (wrap64 (x26 + 1)) x345000 x345001 x345002)
end
def relay_Select.f (k : Nat) (l0 : List (S49)) (a1_0 : Int) (a1_1 : Int) (a1_2 : Int) (a1_3 : ByteArray) (a1_4 : Bool) (a1_5 : Int) (a1_6 : Int) (a1_7 : Bool) (a1_8 : Int) (a1_9 : Int) (a1_10 : Bool) (a1_11 : Int) (a1_12 : Int) (a1_13 : Bool) (l1_14 : List (S59)) (a2_0 : Bool) (a2_1 : Int) (a2_2 : Int) : Option (Int × Bool) := if a1_13 = true then (relay_Select.j0 k l0 a1_0 a1_1 a1_2 a1_3 a1_4 a1_5 a1_6 a1_7 a1_8 a1_9 a1_10 a1_11 a1_12 a1_13 l1_14 a1_10 a1_11 a1_12) else (relay_Select.j0 k l0 a1_0 a1_1 a1_2 a1_3 a1_4 a1_5 a1_6 a1_7 a1_8 a1_9 a1_10 a1_11 a1_12 a1_13 l1_14 a2_0 a2_1 a2_2)
theorem relay_Select.mono_l : ∀ k,(∀ y0 y1 y2 y3 y4 y5 y6 y7 y8 y9 y10 y11 y12 y13 y14 y15 y16 y17 y18,LeO (relay_Select.j0 k y0 y1 y2 y3 y4 y5 y6 y7 y8 y9 y10 y11 y12 y13 y14 y15 y16 y17 y18) (relay_Select.j0 (k + 1) y0 y1 y2 y3 y4 y5 y6 y7 y8 y9 y10 y11 y12 y13 y14 y15 y16 y17 y18)) ∧ (∀ y0 y1 y2 y3 y4 y5 y6 y7 y8,LeO (relay_Select.l0 k y0 y1 y2 y3 y4 y5 y6 y7 y8) (relay_Select.l0 (k + 1) y0 y1 y2 y3 y4 y5 y6 y7 y8)) ∧ (∀ y0 y1 y2 y3 y4 y5 y6 y7 y8 y9 y10 y11 y12 y13 y14 y15 y16 y17 y18 y19,LeO (relay_Select.j2 k y0 y1 y2 y3 y4 y5 y6 y7 y8 y9 y10 y11 y12 y13 y14 y15 y16 y17 y18 y19) (relay_Select.j2 (k + 1) y0 y1 y2 y3 y4 y5 y6 y7 y8 y9 y10 y11 y12 y13 y14 y15 y16 y17 y18 y19)) ∧ (∀ y0 y1 y2 y3 y4 y5 y6 y7 y8 y9 y10,LeO (relay_Select.j3 k y0 y1 y2 y3 y4 y5 y6 y7 y8 y9 y10) (relay_Select.j3 (k + 1) y0 y1 y2 y3 y4 y5 y6 y7 y8 y9 y10))
 | 0 => ⟨fun _ _ _ _ _ _ _ _ _ _ _ _ _ _ _ _ _ _ _ r h => by simp [relay_Select.j0] at h,fun _ _ _ _ _ _ _ _ _ r h => by simp [relay_Select.l0] at h,fun _ _ _ _ _ _ _ _ _ _ _ _ _ _ _ _ _ _ _ _ r h => by simp [relay_Select.j2] at h,fun _ _ _ _ _ _ _ _ _ _ _ r h => by simp [relay_Select.j3] at h⟩
 | k + 1 => by
  obtain ⟨ih0,ih1,ih2,ih3⟩ := relay_Select.mono_l k
  refine ⟨?_,?_,?_,?_⟩
  ·intro y0 y1 y2 y3 y4 y5 y6 y7 y8 y9 y10 y11 y12 y13 y14 y15 y16 y17 y18
   unfold relay_Select.j0
   repeat' first
   | (with_reducible exact ih0 _ _ _ _ _ _ _ _ _ _ _ _ _ _ _ _ _ _ _)
   | (with_reducible exact ih1 _ _ _ _ _ _ _ _ _)
   | (with_reducible exact ih2 _ _ _ _ _ _ _ _ _ _ _ _ _ _ _ _ _ _ _ _)
   | (with_reducible exact ih3 _ _ _ _ _ _ _ _ _ _ _)
   | (with_reducible exact prefix_Contains.mono _ _ _ _ _ _ _ _)
   | (with_reducible exact relay_Circuit.mono _ _ _ _ _ _ _ _ _ _ _ _ _ _ _ _)
   | (with_reducible exact LeO.refl _)
   | (with_reducible exact LeO.none _)
   | (with_reducible refine LeO.ite ?_ ?_)
   | (with_reducible refine LeO.bind ?_ (fun _ => ?_))
  ·intro y0 y1 y2 y3 y4 y5 y6 y7 y8
   unfold relay_Select.l0
   repeat' first
   | (with_reducible exact ih0 _ _ _ _ _ _ _ _ _ _ _ _ _ _ _ _ _ _ _)
   | (with_reducible exact ih1 _ _ _ _ _ _ _ _ _)
   | (with_reducible exact ih2 _ _ _ _ _ _ _ _ _ _ _ _ _ _ _ _ _ _ _ _)
   | (with_reducible exact ih3 _ _ _ _ _ _ _ _ _ _ _)
   | (with_reducible exact prefix_Contains.mono _ _ _ _ _ _ _ _)
   | (with_reducible exact relay_Circuit.mono _ _ _ _ _ _ _ _ _ _ _ _ _ _ _ _)
   | (with_reducible exact LeO.refl _)
   | (with_reducible exact LeO.none _)
   | (with_reducible refine LeO.ite ?_ ?_)
   | (with_reducible refine LeO.bind ?_ (fun _ => ?_))
  ·intro y0 y1 y2 y3 y4 y5 y6 y7 y8 y9 y10 y11 y12 y13 y14 y15 y16 y17 y18 y19
   unfold relay_Select.j2
   repeat' first
   | (with_reducible exact ih0 _ _ _ _ _ _ _ _ _ _ _ _ _ _ _ _ _ _ _)
   | (with_reducible exact ih1 _ _ _ _ _ _ _ _ _)
   | (with_reducible exact ih2 _ _ _ _ _ _ _ _ _ _ _ _ _ _ _ _ _ _ _ _)
   | (with_reducible exact ih3 _ _ _ _ _ _ _ _ _ _ _)
   | (with_reducible exact prefix_Contains.mono _ _ _ _ _ _ _ _)
   | (with_reducible exact relay_Circuit.mono _ _ _ _ _ _ _ _ _ _ _ _ _ _ _ _)
   | (with_reducible exact LeO.refl _)
   | (with_reducible exact LeO.none _)
   | (with_reducible refine LeO.ite ?_ ?_)
   | (with_reducible refine LeO.bind ?_ (fun _ => ?_))
  ·intro y0 y1 y2 y3 y4 y5 y6 y7 y8 y9 y10
   unfold relay_Select.j3
   repeat' first
   | (with_reducible exact ih0 _ _ _ _ _ _ _ _ _ _ _ _ _ _ _ _ _ _ _)
   | (with_reducible exact ih1 _ _ _ _ _ _ _ _ _)
   | (with_reducible exact ih2 _ _ _ _ _ _ _ _ _ _ _ _ _ _ _ _ _ _ _ _)
   | (with_reducible exact ih3 _ _ _ _ _ _ _ _ _ _ _)
   | (with_reducible exact prefix_Contains.mono _ _ _ _ _ _ _ _)
   | (with_reducible exact relay_Circuit.mono _ _ _ _ _ _ _ _ _ _ _ _ _ _ _ _)
   | (with_reducible exact LeO.refl _)
   | (with_reducible exact LeO.none _)
   | (with_reducible refine LeO.ite ?_ ?_)
   | (with_reducible refine LeO.bind ?_ (fun _ => ?_))
theorem relay_Select.mono : ∀ a0 a1 a2 a3 a4 a5 a6 a7 a8 a9 a10 a11 a12 a13 a14 a15 a16 a17 a18 k,LeO (relay_Select.f k a0 a1 a2 a3 a4 a5 a6 a7 a8 a9 a10 a11 a12 a13 a14 a15 a16 a17 a18) (relay_Select.f (k + 1) a0 a1 a2 a3 a4 a5 a6 a7 a8 a9 a10 a11 a12 a13 a14 a15 a16 a17 a18) := by
 intro a0 a1 a2 a3 a4 a5 a6 a7 a8 a9 a10 a11 a12 a13 a14 a15 a16 a17 a18 k
 obtain ⟨ih0,ih1,ih2,ih3⟩ := relay_Select.mono_l k
 unfold relay_Select.f
 repeat' first
   | (with_reducible exact ih0 _ _ _ _ _ _ _ _ _ _ _ _ _ _ _ _ _ _ _)
   | (with_reducible exact ih1 _ _ _ _ _ _ _ _ _)
   | (with_reducible exact ih2 _ _ _ _ _ _ _ _ _ _ _ _ _ _ _ _ _ _ _ _)
   | (with_reducible exact ih3 _ _ _ _ _ _ _ _ _ _ _)
   | (with_reducible exact prefix_Contains.mono _ _ _ _ _ _ _ _)
   | (with_reducible exact relay_Circuit.mono _ _ _ _ _ _ _ _ _ _ _ _ _ _ _ _)
   | (with_reducible exact LeO.refl _)
   | (with_reducible exact LeO.none _)
   | (with_reducible refine LeO.ite ?_ ?_)
   | (with_reducible refine LeO.bind ?_ (fun _ => ?_))
def ddilaw39_subnet.f (a0 : Int) (a1 : ByteArray) : Option (Bool × Int × Int × Int × ByteArray × (List (S75)) × (List (S81)) × (List (S59)) × Int) := some (false,0,a0,24,a1,([] : List (S75)),([] : List (S81)),([] : List (S59)),60)
def ddilaw39_awake.f (k : Nat)  : Option (Bool) := (relay_Insert.f k 1 0 0 (⟨#[99]⟩ : ByteArray) false 0 0 false 0 0 false 0 0 false ([] : List (S59)) false 0 167772161 (⟨#[97,98]⟩ : ByteArray)).bind fun bt352 => ((relay_Insert.f k bt352.1 bt352.2.1 bt352.2.2.1 bt352.2.2.2.1 bt352.2.2.2.2.1 bt352.2.2.2.2.2.1 bt352.2.2.2.2.2.2.1 bt352.2.2.2.2.2.2.2.1 bt352.2.2.2.2.2.2.2.2.1 bt352.2.2.2.2.2.2.2.2.2.1 bt352.2.2.2.2.2.2.2.2.2.2.1 bt352.2.2.2.2.2.2.2.2.2.2.2.1 bt352.2.2.2.2.2.2.2.2.2.2.2.2.1 bt352.2.2.2.2.2.2.2.2.2.2.2.2.2.1 bt352.2.2.2.2.2.2.2.2.2.2.2.2.2.2.1 false 0 167772161 (⟨#[97,98]⟩ : ByteArray)).bind fun bt371 => ((relay_Circuit.f k bt352.1 bt352.2.1 bt352.2.2.1 bt352.2.2.2.1 bt352.2.2.2.2.1 bt352.2.2.2.2.2.1 bt352.2.2.2.2.2.2.1 bt352.2.2.2.2.2.2.2.1 bt352.2.2.2.2.2.2.2.2.1 bt352.2.2.2.2.2.2.2.2.2.1 bt352.2.2.2.2.2.2.2.2.2.2.1 bt352.2.2.2.2.2.2.2.2.2.2.2.1 bt352.2.2.2.2.2.2.2.2.2.2.2.2.1 bt352.2.2.2.2.2.2.2.2.2.2.2.2.2.1 bt352.2.2.2.2.2.2.2.2.2.2.2.2.2.2.1).bind fun bt390 => ((relay_Circuit.f k 0 0 0 (⟨#[]⟩ : ByteArray) false 0 0 false 0 0 false 0 0 false (([(⟨82,(⟨#[1,3,97,98]⟩ : ByteArray)⟩ : S59)] : List (S59)))).bind fun bt395 => ((ddilaw39_subnet.f 167772160 (⟨#[]⟩ : ByteArray)).bind fun bt397 => ((ddilaw39_subnet.f 167772160 (⟨#[97,98]⟩ : ByteArray)).bind fun bt412 => ((ddilaw39_subnet.f 184549376 (⟨#[]⟩ : ByteArray)).bind fun bt427 => ((some (([(⟨(⟨(⟨bt397.1,bt397.2.1,bt397.2.2.1⟩ : S24),bt397.2.2.2.1⟩ : S45),bt397.2.2.2.2.1,bt397.2.2.2.2.2.1,bt397.2.2.2.2.2.2.1,bt397.2.2.2.2.2.2.2.1,bt397.2.2.2.2.2.2.2.2⟩ : S49),(⟨(⟨(⟨bt412.1,bt412.2.1,bt412.2.2.1⟩ : S24),bt412.2.2.2.1⟩ : S45),bt412.2.2.2.2.1,bt412.2.2.2.2.2.1,bt412.2.2.2.2.2.2.1,bt412.2.2.2.2.2.2.2.1,bt412.2.2.2.2.2.2.2.2⟩ : S49),(⟨(⟨(⟨bt427.1,bt427.2.1,bt427.2.2.1⟩ : S24),bt427.2.2.2.1⟩ : S45),bt427.2.2.2.2.1,bt427.2.2.2.2.2.1,bt427.2.2.2.2.2.2.1,bt427.2.2.2.2.2.2.2.1,bt427.2.2.2.2.2.2.2.2⟩ : S49)] : List (S49)) : List (S49))).bind fun y442 => ((relay_Select.f k y442 bt352.1 bt352.2.1 bt352.2.2.1 bt352.2.2.2.1 bt352.2.2.2.2.1 bt352.2.2.2.2.2.1 bt352.2.2.2.2.2.2.1 bt352.2.2.2.2.2.2.2.1 bt352.2.2.2.2.2.2.2.2.1 bt352.2.2.2.2.2.2.2.2.2.1 bt352.2.2.2.2.2.2.2.2.2.2.1 bt352.2.2.2.2.2.2.2.2.2.2.2.1 bt352.2.2.2.2.2.2.2.2.2.2.2.2.1 bt352.2.2.2.2.2.2.2.2.2.2.2.2.2.1 bt352.2.2.2.2.2.2.2.2.2.2.2.2.2.2.1 false 0 0).bind fun bt445 => ((relay_Select.f k y442 1 0 0 (⟨#[99]⟩ : ByteArray) false 0 0 false 0 0 false 0 0 false ([] : List (S59)) false 0 184549381).bind fun bt447 => (if bt352.2.2.2.2.2.2.2.2.2.2.2.2.2.2.2 = 0 then (if (bt352.2.2.2.2.2.2.2.2.2.2.2.2.2.2.1.length : Int) = 1 then (if 0 < (bt352.2.2.2.2.2.2.2.2.2.2.2.2.2.2.1.length : Int) then (if ((rd_T59 bt352.2.2.2.2.2.2.2.2.2.2.2.2.2.2.1 0).f1).toList = ([1,2,97,98] : List UInt8) then (if bt371.2.2.2.2.2.2.2.2.2.2.2.2.2.2.2 = 21 then (if bt390.1.toList = ([97,98] : List UInt8) then (if bt390.2 = true then (if bt395.2 = true then (some false) else (if bt445.1 = 1 then (if bt445.2 = true then (if bt447.1 = 2 then (if bt447.2 = true then (if 2 ≤ (y442.length : Int) then ((relay_Check.f k (y442.take 2)).bind fun t455 => (if t455 = 24 then ((relay_Strip.f k bt352.1 bt352.2.1 bt352.2.2.1 bt352.2.2.2.1 bt352.2.2.2.2.1 bt352.2.2.2.2.2.1 bt352.2.2.2.2.2.2.1 bt352.2.2.2.2.2.2.2.1 bt352.2.2.2.2.2.2.2.2.1 bt352.2.2.2.2.2.2.2.2.2.1 bt352.2.2.2.2.2.2.2.2.2.2.1 bt352.2.2.2.2.2.2.2.2.2.2.2.1 bt352.2.2.2.2.2.2.2.2.2.2.2.2.1 bt352.2.2.2.2.2.2.2.2.2.2.2.2.2.1 bt352.2.2.2.2.2.2.2.2.2.2.2.2.2.2.1).bind fun bt456 => ((ddiref36_Same.f k bt456.1 bt456.2.1 bt456.2.2.1 bt456.2.2.2.1 bt456.2.2.2.2.1 bt456.2.2.2.2.2.1 bt456.2.2.2.2.2.2.1 bt456.2.2.2.2.2.2.2.1 bt456.2.2.2.2.2.2.2.2.1 bt456.2.2.2.2.2.2.2.2.2.1 bt456.2.2.2.2.2.2.2.2.2.2.1 bt456.2.2.2.2.2.2.2.2.2.2.2.1 bt456.2.2.2.2.2.2.2.2.2.2.2.2.1 bt456.2.2.2.2.2.2.2.2.2.2.2.2.2.1 bt456.2.2.2.2.2.2.2.2.2.2.2.2.2.2 1 0 0 (⟨#[99]⟩ : ByteArray) false 0 0 false 0 0 false 0 0 false ([] : List (S59))).bind fun t473 => (some t473))) else (some false))) else (none)) else (some false)) else (some false)) else (some false)) else (some false))) else (some false)) else (some false)) else (some false)) else (some false)) else (none)) else (some false)) else (some false)))))))))))
theorem ddilaw39_awake.mono : ∀ k,LeO (ddilaw39_awake.f k ) (ddilaw39_awake.f (k + 1) ) := by
 intro  k
 unfold ddilaw39_awake.f
 repeat' first
   | (with_reducible exact ddiref36_Same.mono _ _ _ _ _ _ _ _ _ _ _ _ _ _ _ _ _ _ _ _ _ _ _ _ _ _ _ _ _ _ _)
   | (with_reducible exact relay_Check.mono _ _)
   | (with_reducible exact relay_Circuit.mono _ _ _ _ _ _ _ _ _ _ _ _ _ _ _ _)
   | (with_reducible exact relay_Insert.mono _ _ _ _ _ _ _ _ _ _ _ _ _ _ _ _ _ _ _ _)
   | (with_reducible exact relay_Select.mono _ _ _ _ _ _ _ _ _ _ _ _ _ _ _ _ _ _ _ _)
   | (with_reducible exact relay_Strip.mono _ _ _ _ _ _ _ _ _ _ _ _ _ _ _ _)
   | (with_reducible exact LeO.refl _)
   | (with_reducible exact LeO.none _)
   | (with_reducible refine LeO.ite ?_ ?_)
   | (with_reducible refine LeO.bind ?_ (fun _ => ?_))
def ddilaw39_RelayInserts.f (k : Nat) (a0_0 : Int) (a0_1 : Int) (a0_2 : Int) (a0_3 : ByteArray) (a0_4 : Bool) (a0_5 : Int) (a0_6 : Int) (a0_7 : Bool) (a0_8 : Int) (a0_9 : Int) (a0_10 : Bool) (a0_11 : Int) (a0_12 : Int) (a0_13 : Bool) (l0_14 : List (S59)) (a1_0 : Bool) (a1_1 : Int) (a1_2 : Int) (a2 : ByteArray) : Option (Bool) := (ddiref36_Short.f k a0_0 a0_1 a0_2 a0_3 a0_4 a0_5 a0_6 a0_7 a0_8 a0_9 a0_10 a0_11 a0_12 a0_13 l0_14).bind fun bt476 => (if 0 ≤ (mn (a2.size : Int) 400) then (if (mn (a2.size : Int) 400) ≤ (a2.size : Int) then ((relay_Insert.f k bt476.1 bt476.2.1 bt476.2.2.1 bt476.2.2.2.1 bt476.2.2.2.2.1 bt476.2.2.2.2.2.1 bt476.2.2.2.2.2.2.1 bt476.2.2.2.2.2.2.2.1 bt476.2.2.2.2.2.2.2.2.1 bt476.2.2.2.2.2.2.2.2.2.1 bt476.2.2.2.2.2.2.2.2.2.2.1 bt476.2.2.2.2.2.2.2.2.2.2.2.1 bt476.2.2.2.2.2.2.2.2.2.2.2.2.1 bt476.2.2.2.2.2.2.2.2.2.2.2.2.2.1 bt476.2.2.2.2.2.2.2.2.2.2.2.2.2.2 a1_0 a1_1 a1_2 (a2.extract 0 ((mn (a2.size : Int) 400) : Int).toNat)).bind fun bt493 => ((ddiref39_Insert.f k bt476.1 bt476.2.1 bt476.2.2.1 bt476.2.2.2.1 bt476.2.2.2.2.1 bt476.2.2.2.2.2.1 bt476.2.2.2.2.2.2.1 bt476.2.2.2.2.2.2.2.1 bt476.2.2.2.2.2.2.2.2.1 bt476.2.2.2.2.2.2.2.2.2.1 bt476.2.2.2.2.2.2.2.2.2.2.1 bt476.2.2.2.2.2.2.2.2.2.2.2.1 bt476.2.2.2.2.2.2.2.2.2.2.2.2.1 bt476.2.2.2.2.2.2.2.2.2.2.2.2.2.1 bt476.2.2.2.2.2.2.2.2.2.2.2.2.2.2 a1_0 a1_1 a1_2 (a2.extract 0 ((mn (a2.size : Int) 400) : Int).toNat)).bind fun bt512 => ((relay_Circuit.f k bt476.1 bt476.2.1 bt476.2.2.1 bt476.2.2.2.1 bt476.2.2.2.2.1 bt476.2.2.2.2.2.1 bt476.2.2.2.2.2.2.1 bt476.2.2.2.2.2.2.2.1 bt476.2.2.2.2.2.2.2.2.1 bt476.2.2.2.2.2.2.2.2.2.1 bt476.2.2.2.2.2.2.2.2.2.2.1 bt476.2.2.2.2.2.2.2.2.2.2.2.1 bt476.2.2.2.2.2.2.2.2.2.2.2.2.1 bt476.2.2.2.2.2.2.2.2.2.2.2.2.2.1 bt476.2.2.2.2.2.2.2.2.2.2.2.2.2.2).bind fun bt531 => ((ddiref39_Circuit.f k bt476.1 bt476.2.1 bt476.2.2.1 bt476.2.2.2.1 bt476.2.2.2.2.1 bt476.2.2.2.2.2.1 bt476.2.2.2.2.2.2.1 bt476.2.2.2.2.2.2.2.1 bt476.2.2.2.2.2.2.2.2.1 bt476.2.2.2.2.2.2.2.2.2.1 bt476.2.2.2.2.2.2.2.2.2.2.1 bt476.2.2.2.2.2.2.2.2.2.2.2.1 bt476.2.2.2.2.2.2.2.2.2.2.2.2.1 bt476.2.2.2.2.2.2.2.2.2.2.2.2.2.1 bt476.2.2.2.2.2.2.2.2.2.2.2.2.2.2).bind fun bt533 => ((ddiref36_Same.f k bt493.1 bt493.2.1 bt493.2.2.1 bt493.2.2.2.1 bt493.2.2.2.2.1 bt493.2.2.2.2.2.1 bt493.2.2.2.2.2.2.1 bt493.2.2.2.2.2.2.2.1 bt493.2.2.2.2.2.2.2.2.1 bt493.2.2.2.2.2.2.2.2.2.1 bt493.2.2.2.2.2.2.2.2.2.2.1 bt493.2.2.2.2.2.2.2.2.2.2.2.1 bt493.2.2.2.2.2.2.2.2.2.2.2.2.1 bt493.2.2.2.2.2.2.2.2.2.2.2.2.2.1 bt493.2.2.2.2.2.2.2.2.2.2.2.2.2.2.1 bt512.1 bt512.2.1 bt512.2.2.1 bt512.2.2.2.1 bt512.2.2.2.2.1 bt512.2.2.2.2.2.1 bt512.2.2.2.2.2.2.1 bt512.2.2.2.2.2.2.2.1 bt512.2.2.2.2.2.2.2.2.1 bt512.2.2.2.2.2.2.2.2.2.1 bt512.2.2.2.2.2.2.2.2.2.2.1 bt512.2.2.2.2.2.2.2.2.2.2.2.1 bt512.2.2.2.2.2.2.2.2.2.2.2.2.1 bt512.2.2.2.2.2.2.2.2.2.2.2.2.2.1 bt512.2.2.2.2.2.2.2.2.2.2.2.2.2.2.1).bind fun t535 => (if t535 = true then (if bt493.2.2.2.2.2.2.2.2.2.2.2.2.2.2.2 = bt512.2.2.2.2.2.2.2.2.2.2.2.2.2.2.2 then (if bt531.1.toList = bt533.1.toList then (if (bt531.2 == bt533.2) = true then ((relay_Strip.f k bt476.1 bt476.2.1 bt476.2.2.1 bt476.2.2.2.1 bt476.2.2.2.2.1 bt476.2.2.2.2.2.1 bt476.2.2.2.2.2.2.1 bt476.2.2.2.2.2.2.2.1 bt476.2.2.2.2.2.2.2.2.1 bt476.2.2.2.2.2.2.2.2.2.1 bt476.2.2.2.2.2.2.2.2.2.2.1 bt476.2.2.2.2.2.2.2.2.2.2.2.1 bt476.2.2.2.2.2.2.2.2.2.2.2.2.1 bt476.2.2.2.2.2.2.2.2.2.2.2.2.2.1 bt476.2.2.2.2.2.2.2.2.2.2.2.2.2.2).bind fun bt536 => ((ddiref39_Strip.f k bt476.1 bt476.2.1 bt476.2.2.1 bt476.2.2.2.1 bt476.2.2.2.2.1 bt476.2.2.2.2.2.1 bt476.2.2.2.2.2.2.1 bt476.2.2.2.2.2.2.2.1 bt476.2.2.2.2.2.2.2.2.1 bt476.2.2.2.2.2.2.2.2.2.1 bt476.2.2.2.2.2.2.2.2.2.2.1 bt476.2.2.2.2.2.2.2.2.2.2.2.1 bt476.2.2.2.2.2.2.2.2.2.2.2.2.1 bt476.2.2.2.2.2.2.2.2.2.2.2.2.2.1 bt476.2.2.2.2.2.2.2.2.2.2.2.2.2.2).bind fun bt553 => ((ddiref36_Same.f k bt536.1 bt536.2.1 bt536.2.2.1 bt536.2.2.2.1 bt536.2.2.2.2.1 bt536.2.2.2.2.2.1 bt536.2.2.2.2.2.2.1 bt536.2.2.2.2.2.2.2.1 bt536.2.2.2.2.2.2.2.2.1 bt536.2.2.2.2.2.2.2.2.2.1 bt536.2.2.2.2.2.2.2.2.2.2.1 bt536.2.2.2.2.2.2.2.2.2.2.2.1 bt536.2.2.2.2.2.2.2.2.2.2.2.2.1 bt536.2.2.2.2.2.2.2.2.2.2.2.2.2.1 bt536.2.2.2.2.2.2.2.2.2.2.2.2.2.2 bt553.1 bt553.2.1 bt553.2.2.1 bt553.2.2.2.1 bt553.2.2.2.2.1 bt553.2.2.2.2.2.1 bt553.2.2.2.2.2.2.1 bt553.2.2.2.2.2.2.2.1 bt553.2.2.2.2.2.2.2.2.1 bt553.2.2.2.2.2.2.2.2.2.1 bt553.2.2.2.2.2.2.2.2.2.2.1 bt553.2.2.2.2.2.2.2.2.2.2.2.1 bt553.2.2.2.2.2.2.2.2.2.2.2.2.1 bt553.2.2.2.2.2.2.2.2.2.2.2.2.2.1 bt553.2.2.2.2.2.2.2.2.2.2.2.2.2.2).bind fun t570 => (if t570 = true then ((ddilaw39_awake.f k).bind fun t571 => (some t571)) else (some false))))) else (some false)) else (some false)) else (some false)) else (some false))))))) else (none)) else (none))
/-- THE ONE PURE STATEMENT of ddilaw39_RelayInserts: ours. -/
def ddilaw39_RelayInserts.Pure : Prop := ∀ (a0_0 : Int) (a0_1 : Int) (a0_2 : Int) (a0_3 : ByteArray) (a0_4 : Bool) (a0_5 : Int) (a0_6 : Int) (a0_7 : Bool) (a0_8 : Int) (a0_9 : Int) (a0_10 : Bool) (a0_11 : Int) (a0_12 : Int) (a0_13 : Bool) (l0_14 : List (S59)) (a1_0 : Bool) (a1_1 : Int) (a1_2 : Int) (a2 : ByteArray),okS27 (⟨a0_0,a0_1,a0_2,a0_3,(⟨a0_4,a0_5,a0_6⟩ : S24),(⟨a0_7,a0_8,a0_9⟩ : S24),(⟨a0_10,a0_11,a0_12⟩ : S24),a0_13,l0_14⟩ : S27) → okS24 (⟨a1_0,a1_1,a1_2⟩ : S24) → a2.size ≤ 140737488351232 → ∃ k,ddilaw39_RelayInserts.f k a0_0 a0_1 a0_2 a0_3 a0_4 a0_5 a0_6 a0_7 a0_8 a0_9 a0_10 a0_11 a0_12 a0_13 l0_14 a1_0 a1_1 a1_2 a2 = some true
end Go.Proofs.YtngfffoeaghhhaaDoor.QA
