-- Written by this session's own program (wip/xprint) out of the translation; Lean checks it.
import Derived.Test.YtioopjondjfchaaQAd3
namespace Go.Proofs.Ytioopjondjfchaa.QA
open Go.RowKit Go.Proofs.YtioopjondjfchaaW.PrintWords Go.Proofs.YtioopjondjfchaaW.PrintLast Go.Proofs.YtioopjondjfchaaW.PrintMore
set_option linter.unusedVariables false
def ddiref40_Pending.l0 : Nat → List (S54) → Int → Bool → Int → Int → Option (Bool × Int × Int × ByteArray × Int × Int × Int × ByteArray × Bool × Int × Int × Bool × Int × Int × Bool × Int × Int × Bool × (List (S70)) × Int × Bool)
 | 0,_,_,_,_,_ => none
 | k + 1,x0,x6,x389000,x389001,x389002 => if x6 < (x0.length : Int) then (if 0 ≤ x6 then (if (((rd_T54 x0 x6).f0.f0) == x389000 && (((rd_T54 x0 x6).f0.f1) == x389001 && (((rd_T54 x0 x6).f0.f2) == x389002))) = true then (some ((rd_T54 x0 x6).f0.f0,(rd_T54 x0 x6).f0.f1,(rd_T54 x0 x6).f0.f2,(rd_T54 x0 x6).f1,(rd_T54 x0 x6).f2.f0,(rd_T54 x0 x6).f2.f1,(rd_T54 x0 x6).f2.f2,(rd_T54 x0 x6).f2.f3,(rd_T54 x0 x6).f2.f4.f0,(rd_T54 x0 x6).f2.f4.f1,(rd_T54 x0 x6).f2.f4.f2,(rd_T54 x0 x6).f2.f5.f0,(rd_T54 x0 x6).f2.f5.f1,(rd_T54 x0 x6).f2.f5.f2,(rd_T54 x0 x6).f2.f6.f0,(rd_T54 x0 x6).f2.f6.f1,(rd_T54 x0 x6).f2.f6.f2,(rd_T54 x0 x6).f2.f7,(rd_T54 x0 x6).f2.f8,(rd_T54 x0 x6).f3,true)) else (ddiref40_Pending.l0 k x0 (wrap64 (x6 + 1)) x389000 x389001 x389002)) else (none)) else (some (false,0,0,(⟨#[]⟩ : ByteArray),0,0,0,(⟨#[]⟩ : ByteArray),false,0,0,false,0,0,false,0,0,false,([] : List (S70)),0,false))
def ddiref40_Pending.f (k : Nat) (l0 : List (S54)) (a1_0 : Bool) (a1_1 : Int) (a1_2 : Int) : Option (Bool × Int × Int × ByteArray × Int × Int × Int × ByteArray × Bool × Int × Int × Bool × Int × Int × Bool × Int × Int × Bool × (List (S70)) × Int × Bool) := ddiref40_Pending.l0 k l0 0 a1_0 a1_1 a1_2
theorem ddiref40_Pending.mono_l : ∀ k,(∀ y0 y1 y2 y3 y4,LeO (ddiref40_Pending.l0 k y0 y1 y2 y3 y4) (ddiref40_Pending.l0 (k + 1) y0 y1 y2 y3 y4))
 | 0 => fun _ _ _ _ _ r h => by simp [ddiref40_Pending.l0] at h
 | k + 1 => by
  have ih0 := ddiref40_Pending.mono_l k
  ·intro y0 y1 y2 y3 y4
   unfold ddiref40_Pending.l0
   repeat' first
   | (with_reducible exact ih0 _ _ _ _ _)
   | (with_reducible exact LeO.refl _)
   | (with_reducible exact LeO.none _)
   | (with_reducible refine LeO.ite ?_ ?_)
   | (with_reducible refine LeO.bind ?_ (fun _ => ?_))
theorem ddiref40_Pending.mono : ∀ a0 a1 a2 a3 k,LeO (ddiref40_Pending.f k a0 a1 a2 a3) (ddiref40_Pending.f (k + 1) a0 a1 a2 a3) := by
 intro a0 a1 a2 a3 k
 have ih0 := ddiref40_Pending.mono_l k
 unfold ddiref40_Pending.f
 repeat' first
   | (with_reducible exact ih0 _ _ _ _ _)
   | (with_reducible exact LeO.refl _)
   | (with_reducible exact LeO.none _)
   | (with_reducible refine LeO.ite ?_ ?_)
   | (with_reducible refine LeO.bind ?_ (fun _ => ?_))
def ddiref40_Seen.l0 : Nat → List (S54) → Bool → List (S54) → Int → Bool → Int → Int → Bool → Int → Int → ByteArray → Int → Int → Int → ByteArray → Bool → Int → Int → Bool → Int → Int → Bool → Int → Int → Bool → List (S70) → Int → Option ((List (S54)) × Bool × Int × Int × ByteArray × Int × Int × Int × ByteArray × Bool × Int × Int × Bool × Int × Int × Bool × Int × Int × Bool × (List (S70)) × Int × Bool)
 | 0,_,_,_,_,_,_,_,_,_,_,_,_,_,_,_,_,_,_,_,_,_,_,_,_,_,_,_ => none
 | k + 1,x0,x8,x9,x10,x393000,x393001,x393002,x418000,x418001,x418002,x418003,x418004,x418005,x418006,x418007,x418008,x418009,x418010,x418011,x418012,x418013,x418014,x418015,x418016,x418017,x418018,x418019 => if x10 < (x0.length : Int) then (if 0 ≤ x10 then (if (!(((rd_T54 x0 x10).f0.f0) == x393000) || (!(((rd_T54 x0 x10).f0.f1) == x393001) || (!(((rd_T54 x0 x10).f0.f2) == x393002)))) = true then (if x9.length < 733007751850 then (ddiref40_Seen.l0 k x0 x8 (x9 ++ [(⟨(⟨(rd_T54 x0 x10).f0.f0,(rd_T54 x0 x10).f0.f1,(rd_T54 x0 x10).f0.f2⟩ : S28),(rd_T54 x0 x10).f1,(⟨(rd_T54 x0 x10).f2.f0,(rd_T54 x0 x10).f2.f1,(rd_T54 x0 x10).f2.f2,(rd_T54 x0 x10).f2.f3,(⟨(rd_T54 x0 x10).f2.f4.f0,(rd_T54 x0 x10).f2.f4.f1,(rd_T54 x0 x10).f2.f4.f2⟩ : S28),(⟨(rd_T54 x0 x10).f2.f5.f0,(rd_T54 x0 x10).f2.f5.f1,(rd_T54 x0 x10).f2.f5.f2⟩ : S28),(⟨(rd_T54 x0 x10).f2.f6.f0,(rd_T54 x0 x10).f2.f6.f1,(rd_T54 x0 x10).f2.f6.f2⟩ : S28),(rd_T54 x0 x10).f2.f7,(rd_T54 x0 x10).f2.f8⟩ : S31),(rd_T54 x0 x10).f3⟩ : S54)]) (wrap64 (x10 + 1)) x393000 x393001 x393002 x418000 x418001 x418002 x418003 x418004 x418005 x418006 x418007 x418008 x418009 x418010 x418011 x418012 x418013 x418014 x418015 x418016 x418017 x418018 x418019) else (none)) else (ddiref40_Seen.l0 k x0 x8 x9 (wrap64 (x10 + 1)) x393000 x393001 x393002 x418000 x418001 x418002 x418003 x418004 x418005 x418006 x418007 x418008 x418009 x418010 x418011 x418012 x418013 x418014 x418015 x418016 x418017 x418018 x418019)) else (none)) else (some (x9,x418000,x418001,x418002,x418003,x418004,x418005,x418006,x418007,x418008,x418009,x418010,x418011,x418012,x418013,x418014,x418015,x418016,x418017,x418018,x418019,x8))
def ddiref40_Seen.f (k : Nat) (l0 : List (S54)) (a1_0 : Bool) (a1_1 : Int) (a1_2 : Int) : Option ((List (S54)) × Bool × Int × Int × ByteArray × Int × Int × Int × ByteArray × Bool × Int × Int × Bool × Int × Int × Bool × Int × Int × Bool × (List (S70)) × Int × Bool) := (ddiref40_Pending.f k l0 a1_0 a1_1 a1_2).bind fun bt394 => (ddiref40_Seen.l0 k l0 bt394.2.2.2.2.2.2.2.2.2.2.2.2.2.2.2.2.2.2.2.2 ([] : List (S54)) 0 a1_0 a1_1 a1_2 bt394.1 bt394.2.1 bt394.2.2.1 bt394.2.2.2.1 bt394.2.2.2.2.1 bt394.2.2.2.2.2.1 bt394.2.2.2.2.2.2.1 bt394.2.2.2.2.2.2.2.1 bt394.2.2.2.2.2.2.2.2.1 bt394.2.2.2.2.2.2.2.2.2.1 bt394.2.2.2.2.2.2.2.2.2.2.1 bt394.2.2.2.2.2.2.2.2.2.2.2.1 bt394.2.2.2.2.2.2.2.2.2.2.2.2.1 bt394.2.2.2.2.2.2.2.2.2.2.2.2.2.1 bt394.2.2.2.2.2.2.2.2.2.2.2.2.2.2.1 bt394.2.2.2.2.2.2.2.2.2.2.2.2.2.2.2.1 bt394.2.2.2.2.2.2.2.2.2.2.2.2.2.2.2.2.1 bt394.2.2.2.2.2.2.2.2.2.2.2.2.2.2.2.2.2.1 bt394.2.2.2.2.2.2.2.2.2.2.2.2.2.2.2.2.2.2.1 bt394.2.2.2.2.2.2.2.2.2.2.2.2.2.2.2.2.2.2.2.1)
theorem ddiref40_Seen.mono_l : ∀ k,(∀ y0 y1 y2 y3 y4 y5 y6 y7 y8 y9 y10 y11 y12 y13 y14 y15 y16 y17 y18 y19 y20 y21 y22 y23 y24 y25 y26,LeO (ddiref40_Seen.l0 k y0 y1 y2 y3 y4 y5 y6 y7 y8 y9 y10 y11 y12 y13 y14 y15 y16 y17 y18 y19 y20 y21 y22 y23 y24 y25 y26) (ddiref40_Seen.l0 (k + 1) y0 y1 y2 y3 y4 y5 y6 y7 y8 y9 y10 y11 y12 y13 y14 y15 y16 y17 y18 y19 y20 y21 y22 y23 y24 y25 y26))
 | 0 => fun _ _ _ _ _ _ _ _ _ _ _ _ _ _ _ _ _ _ _ _ _ _ _ _ _ _ _ r h => by simp [ddiref40_Seen.l0] at h
 | k + 1 => by
  have ih0 := ddiref40_Seen.mono_l k
  ·intro y0 y1 y2 y3 y4 y5 y6 y7 y8 y9 y10 y11 y12 y13 y14 y15 y16 y17 y18 y19 y20 y21 y22 y23 y24 y25 y26
   unfold ddiref40_Seen.l0
   repeat' first
   | (with_reducible exact ih0 _ _ _ _ _ _ _ _ _ _ _ _ _ _ _ _ _ _ _ _ _ _ _ _ _ _ _)
   | (with_reducible exact ddiref40_Pending.mono _ _ _ _ _)
   | (with_reducible exact LeO.refl _)
   | (with_reducible exact LeO.none _)
   | (with_reducible refine LeO.ite ?_ ?_)
   | (with_reducible refine LeO.bind ?_ (fun _ => ?_))
theorem ddiref40_Seen.mono : ∀ a0 a1 a2 a3 k,LeO (ddiref40_Seen.f k a0 a1 a2 a3) (ddiref40_Seen.f (k + 1) a0 a1 a2 a3) := by
 intro a0 a1 a2 a3 k
 have ih0 := ddiref40_Seen.mono_l k
 unfold ddiref40_Seen.f
 repeat' first
   | (with_reducible exact ih0 _ _ _ _ _ _ _ _ _ _ _ _ _ _ _ _ _ _ _ _ _ _ _ _ _ _ _)
   | (with_reducible exact ddiref40_Pending.mono _ _ _ _ _)
   | (with_reducible exact LeO.refl _)
   | (with_reducible exact LeO.none _)
   | (with_reducible refine LeO.ite ?_ ?_)
   | (with_reducible refine LeO.bind ?_ (fun _ => ?_))
def ddiref40_Finish.l0 : Nat → List (S54) → Int → List (S54) → List (S54) → Int → Option ((List (S54)) × (List (S54)))
 | 0,_,_,_,_,_ => none
 | k + 1,x0,x1,x6,x7,x8 => if x8 < (x0.length : Int) then (if 0 ≤ x8 then (if ((rd_T54 x0 x8).f3) > x1 then (if x6.length < 733007751850 then (ddiref40_Finish.l0 k x0 x1 (x6 ++ [(⟨(⟨(rd_T54 x0 x8).f0.f0,(rd_T54 x0 x8).f0.f1,(rd_T54 x0 x8).f0.f2⟩ : S28),(rd_T54 x0 x8).f1,(⟨(rd_T54 x0 x8).f2.f0,(rd_T54 x0 x8).f2.f1,(rd_T54 x0 x8).f2.f2,(rd_T54 x0 x8).f2.f3,(⟨(rd_T54 x0 x8).f2.f4.f0,(rd_T54 x0 x8).f2.f4.f1,(rd_T54 x0 x8).f2.f4.f2⟩ : S28),(⟨(rd_T54 x0 x8).f2.f5.f0,(rd_T54 x0 x8).f2.f5.f1,(rd_T54 x0 x8).f2.f5.f2⟩ : S28),(⟨(rd_T54 x0 x8).f2.f6.f0,(rd_T54 x0 x8).f2.f6.f1,(rd_T54 x0 x8).f2.f6.f2⟩ : S28),(rd_T54 x0 x8).f2.f7,(rd_T54 x0 x8).f2.f8⟩ : S31),(rd_T54 x0 x8).f3⟩ : S54)]) x7 (wrap64 (x8 + 1))) else (none)) else (if x7.length < 733007751850 then (ddiref40_Finish.l0 k x0 x1 x6 (x7 ++ [(⟨(⟨(rd_T54 x0 x8).f0.f0,(rd_T54 x0 x8).f0.f1,(rd_T54 x0 x8).f0.f2⟩ : S28),(rd_T54 x0 x8).f1,(⟨(rd_T54 x0 x8).f2.f0,(rd_T54 x0 x8).f2.f1,(rd_T54 x0 x8).f2.f2,(rd_T54 x0 x8).f2.f3,(⟨(rd_T54 x0 x8).f2.f4.f0,(rd_T54 x0 x8).f2.f4.f1,(rd_T54 x0 x8).f2.f4.f2⟩ : S28),(⟨(rd_T54 x0 x8).f2.f5.f0,(rd_T54 x0 x8).f2.f5.f1,(rd_T54 x0 x8).f2.f5.f2⟩ : S28),(⟨(rd_T54 x0 x8).f2.f6.f0,(rd_T54 x0 x8).f2.f6.f1,(rd_T54 x0 x8).f2.f6.f2⟩ : S28),(rd_T54 x0 x8).f2.f7,(rd_T54 x0 x8).f2.f8⟩ : S31),(rd_T54 x0 x8).f3⟩ : S54)]) (wrap64 (x8 + 1))) else (none))) else (none)) else (some (x6,x7))
def ddiref40_Finish.f (k : Nat) (l0 : List (S54)) (a1 : Int) : Option ((List (S54)) × (List (S54))) := ddiref40_Finish.l0 k l0 a1 ([] : List (S54)) ([] : List (S54)) 0
theorem ddiref40_Finish.mono_l : ∀ k,(∀ y0 y1 y2 y3 y4,LeO (ddiref40_Finish.l0 k y0 y1 y2 y3 y4) (ddiref40_Finish.l0 (k + 1) y0 y1 y2 y3 y4))
 | 0 => fun _ _ _ _ _ r h => by simp [ddiref40_Finish.l0] at h
 | k + 1 => by
  have ih0 := ddiref40_Finish.mono_l k
  ·intro y0 y1 y2 y3 y4
   unfold ddiref40_Finish.l0
   repeat' first
   | (with_reducible exact ih0 _ _ _ _ _)
   | (with_reducible exact LeO.refl _)
   | (with_reducible exact LeO.none _)
   | (with_reducible refine LeO.ite ?_ ?_)
   | (with_reducible refine LeO.bind ?_ (fun _ => ?_))
theorem ddiref40_Finish.mono : ∀ a0 a1 k,LeO (ddiref40_Finish.f k a0 a1) (ddiref40_Finish.f (k + 1) a0 a1) := by
 intro a0 a1 k
 have ih0 := ddiref40_Finish.mono_l k
 unfold ddiref40_Finish.f
 repeat' first
   | (with_reducible exact ih0 _ _ _ _ _)
   | (with_reducible exact LeO.refl _)
   | (with_reducible exact LeO.none _)
   | (with_reducible refine LeO.ite ?_ ?_)
   | (with_reducible refine LeO.bind ?_ (fun _ => ?_))
mutual
def ddiref40_Start.j0 : Nat → List (S54) → Int → Int → Bool → Bool → Int → Int → Int → Int → Int → ByteArray → Bool → Int → Int → Bool → Int → Int → Bool → Int → Int → Bool → List (S70) → Option ((List (S54)) × Int)
 | 0,_,_,_,_,_,_,_,_,_,_,_,_,_,_,_,_,_,_,_,_,_,_ => none
 | k + 1,x0,x3,x4,x38,x433000,x433001,x433002,x434000,x434001,x434002,x434003,x434004,x434005,x434006,x434007,x434008,x434009,x434010,x434011,x434012,x434013,x434014 => if x38 = true then (some (([] : List (S54)),1)) else (if (x0.length : Int) ≥ 512 then (some (([] : List (S54)),9)) else (if x4 < (wrap64 (4294967295 - x3)) then (ddiref40_Start.j1 k x0 (wrap64 (x3 + x4)) x433000 x433001 x433002 x434000 x434001 x434002 x434003 x434004 x434005 x434006 x434007 x434008 x434009 x434010 x434011 x434012 x434013 x434014) else (ddiref40_Start.j1 k x0 4294967295 x433000 x433001 x433002 x434000 x434001 x434002 x434003 x434004 x434005 x434006 x434007 x434008 x434009 x434010 x434011 x434012 x434013 x434014)))
def ddiref40_Start.j1 : Nat → List (S54) → Int → Bool → Int → Int → Int → Int → Int → ByteArray → Bool → Int → Int → Bool → Int → Int → Bool → Int → Int → Bool → List (S70) → Option ((List (S54)) × Int)
 | 0,_,_,_,_,_,_,_,_,_,_,_,_,_,_,_,_,_,_,_,_ => none
 | k + 1,x0,x14,x433000,x433001,x433002,x434000,x434001,x434002,x434003,x434004,x434005,x434006,x434007,x434008,x434009,x434010,x434011,x434012,x434013,x434014 => ddiref40_Start.l0 k x0 ([] : List (S54)) false 0 x433000 x433001 x433002 x433000 x433001 x433002 x434003 x434000 x434001 x434002 x434003 x434004 x434005 x434006 x434007 x434008 x434009 x434010 x434011 x434012 x434013 x434014 x14
def ddiref40_Start.l0 : Nat → List (S54) → List (S54) → Bool → Int → Bool → Int → Int → Bool → Int → Int → ByteArray → Int → Int → Int → ByteArray → Bool → Int → Int → Bool → Int → Int → Bool → Int → Int → Bool → List (S70) → Int → Option ((List (S54)) × Int)
 | 0,_,_,_,_,_,_,_,_,_,_,_,_,_,_,_,_,_,_,_,_,_,_,_,_,_,_,_ => none
 | k + 1,x0,x16,x17,x18,x433000,x433001,x433002,x460000,x460001,x460002,x460003,x460004,x460005,x460006,x460007,x460008,x460009,x460010,x460011,x460012,x460013,x460014,x460015,x460016,x460017,x460018,x460019 => if x18 < (x0.length : Int) then (if x17 = true then (ddiref40_Start.j3 k x0 x16 x17 x18 false x433000 x433001 x433002 x460000 x460001 x460002 x460003 x460004 x460005 x460006 x460007 x460008 x460009 x460010 x460011 x460012 x460013 x460014 x460015 x460016 x460017 x460018 x460019) else (if 0 ≤ x18 then ((ddiref02_Compare.f x433000 x433001 x433002 ((rd_T54 x0 x18).f0.f0) ((rd_T54 x0 x18).f0.f1) ((rd_T54 x0 x18).f0.f2)).bind fun t461 => (ddiref40_Start.j3 k x0 x16 x17 x18 (decide (t461 < 0)) x433000 x433001 x433002 x460000 x460001 x460002 x460003 x460004 x460005 x460006 x460007 x460008 x460009 x460010 x460011 x460012 x460013 x460014 x460015 x460016 x460017 x460018 x460019)) else (none))) else (if x17 = true then (some (x16,0)) else (if x16.length < 733007751850 then (some ((x16 ++ [(⟨(⟨x460000,x460001,x460002⟩ : S28),x460003,(⟨x460004,x460005,x460006,x460007,(⟨x460008,x460009,x460010⟩ : S28),(⟨x460011,x460012,x460013⟩ : S28),(⟨x460014,x460015,x460016⟩ : S28),x460017,x460018⟩ : S31),x460019⟩ : S54)]),0)) else (none)))
def ddiref40_Start.j3 : Nat → List (S54) → List (S54) → Bool → Int → Bool → Bool → Int → Int → Bool → Int → Int → ByteArray → Int → Int → Int → ByteArray → Bool → Int → Int → Bool → Int → Int → Bool → Int → Int → Bool → List (S70) → Int → Option ((List (S54)) × Int)
 | 0,_,_,_,_,_,_,_,_,_,_,_,_,_,_,_,_,_,_,_,_,_,_,_,_,_,_,_,_ => none
 | k + 1,x0,x16,x17,x18,x72,x433000,x433001,x433002,x460000,x460001,x460002,x460003,x460004,x460005,x460006,x460007,x460008,x460009,x460010,x460011,x460012,x460013,x460014,x460015,x460016,x460017,x460018,x460019 => if x72 = true then (if x16.length < 733007751850 then ((some (x16 ++ [(⟨(⟨x460000,x460001,x460002⟩ : S28),x460003,(⟨x460004,x460005,x460006,x460007,(⟨x460008,x460009,x460010⟩ : S28),(⟨x460011,x460012,x460013⟩ : S28),(⟨x460014,x460015,x460016⟩ : S28),x460017,x460018⟩ : S31),x460019⟩ : S54)] : List (S54))).bind fun y462 => (if 0 ≤ x18 then (if x18 < (x0.length : Int) then (if y462.length < 733007751850 then (ddiref40_Start.l0 k x0 (y462 ++ [(⟨(⟨(rd_T54 x0 x18).f0.f0,(rd_T54 x0 x18).f0.f1,(rd_T54 x0 x18).f0.f2⟩ : S28),(rd_T54 x0 x18).f1,(⟨(rd_T54 x0 x18).f2.f0,(rd_T54 x0 x18).f2.f1,(rd_T54 x0 x18).f2.f2,(rd_T54 x0 x18).f2.f3,(⟨(rd_T54 x0 x18).f2.f4.f0,(rd_T54 x0 x18).f2.f4.f1,(rd_T54 x0 x18).f2.f4.f2⟩ : S28),(⟨(rd_T54 x0 x18).f2.f5.f0,(rd_T54 x0 x18).f2.f5.f1,(rd_T54 x0 x18).f2.f5.f2⟩ : S28),(⟨(rd_T54 x0 x18).f2.f6.f0,(rd_T54 x0 x18).f2.f6.f1,(rd_T54 x0 x18).f2.f6.f2⟩ : S28),(rd_T54 x0 x18).f2.f7,(rd_T54 x0 x18).f2.f8⟩ : S31),(rd_T54 x0 x18).f3⟩ : S54)]) true (wrap64 (x18 + 1)) x433000 x433001 x433002 x460000 x460001 x460002 x460003 x460004 x460005 x460006 x460007 x460008 x460009 x460010 x460011 x460012 x460013 x460014 x460015 x460016 x460017 x460018 x460019) else (none)) else (none)) else (none))) else (none)) else (if 0 ≤ x18 then (if x18 < (x0.length : Int) then (if x16.length < 733007751850 then (ddiref40_Start.l0 k x0 (x16 ++ [(⟨(⟨(rd_T54 x0 x18).f0.f0,(rd_T54 x0 x18).f0.f1,(rd_T54 x0 x18).f0.f2⟩ : S28),(rd_T54 x0 x18).f1,(⟨(rd_T54 x0 x18).f2.f0,(rd_T54 x0 x18).f2.f1,(rd_T54 x0 x18).f2.f2,(rd_T54 x0 x18).f2.f3,(⟨(rd_T54 x0 x18).f2.f4.f0,(rd_T54 x0 x18).f2.f4.f1,(rd_T54 x0 x18).f2.f4.f2⟩ : S28),(⟨(rd_T54 x0 x18).f2.f5.f0,(rd_T54 x0 x18).f2.f5.f1,(rd_T54 x0 x18).f2.f5.f2⟩ : S28),(⟨(rd_T54 x0 x18).f2.f6.f0,(rd_T54 x0 x18).f2.f6.f1,(rd_T54 x0 x18).f2.f6.f2⟩ : S28),(rd_T54 x0 x18).f2.f7,(rd_T54 x0 x18).f2.f8⟩ : S31),(rd_T54 x0 x18).f3⟩ : S54)]) x17 (wrap64 (x18 + 1)) x433000 x433001 x433002 x460000 x460001 x460002 x460003 x460004 x460005 x460006 x460007 x460008 x460009 x460010 x460011 x460012 x460013 x460014 x460015 x460016 x460017 x460018 x460019) else (none)) else (none)) else (none))
end
def ddiref40_Start.f (k : Nat) (l0 : List (S54)) (a1_0 : Bool) (a1_1 : Int) (a1_2 : Int) (a2_0 : Int) (a2_1 : Int) (a2_2 : Int) (a2_3 : ByteArray) (a2_4 : Bool) (a2_5 : Int) (a2_6 : Int) (a2_7 : Bool) (a2_8 : Int) (a2_9 : Int) (a2_10 : Bool) (a2_11 : Int) (a2_12 : Int) (a2_13 : Bool) (l2_14 : List (S70)) (a3 : Int) (a4 : Int) : Option ((List (S54)) × Int) := (ddiref02_Valid.f a1_0 a1_1 a1_2).bind fun t434 => (if t434 = true then ((ddiref40_Pending.f k l0 a1_0 a1_1 a1_2).bind fun bt435 => (if bt435.2.2.2.2.2.2.2.2.2.2.2.2.2.2.2.2.2.2.2.2 = true then (some (([] : List (S54)),23)) else (if a3 < 0 then (ddiref40_Start.j0 k l0 a3 a4 true a1_0 a1_1 a1_2 a2_0 a2_1 a2_2 a2_3 a2_4 a2_5 a2_6 a2_7 a2_8 a2_9 a2_10 a2_11 a2_12 a2_13 l2_14) else (if a3 > 4294967295 then (ddiref40_Start.j0 k l0 a3 a4 true a1_0 a1_1 a1_2 a2_0 a2_1 a2_2 a2_3 a2_4 a2_5 a2_6 a2_7 a2_8 a2_9 a2_10 a2_11 a2_12 a2_13 l2_14) else (ddiref40_Start.j0 k l0 a3 a4 (decide (a4 < 0)) a1_0 a1_1 a1_2 a2_0 a2_1 a2_2 a2_3 a2_4 a2_5 a2_6 a2_7 a2_8 a2_9 a2_10 a2_11 a2_12 a2_13 l2_14))))) else (some (([] : List (S54)),3)))
theorem ddiref40_Start.mono_l : ∀ k,(∀ y0 y1 y2 y3 y4 y5 y6 y7 y8 y9 y10 y11 y12 y13 y14 y15 y16 y17 y18 y19 y20 y21,LeO (ddiref40_Start.j0 k y0 y1 y2 y3 y4 y5 y6 y7 y8 y9 y10 y11 y12 y13 y14 y15 y16 y17 y18 y19 y20 y21) (ddiref40_Start.j0 (k + 1) y0 y1 y2 y3 y4 y5 y6 y7 y8 y9 y10 y11 y12 y13 y14 y15 y16 y17 y18 y19 y20 y21)) ∧ (∀ y0 y1 y2 y3 y4 y5 y6 y7 y8 y9 y10 y11 y12 y13 y14 y15 y16 y17 y18 y19,LeO (ddiref40_Start.j1 k y0 y1 y2 y3 y4 y5 y6 y7 y8 y9 y10 y11 y12 y13 y14 y15 y16 y17 y18 y19) (ddiref40_Start.j1 (k + 1) y0 y1 y2 y3 y4 y5 y6 y7 y8 y9 y10 y11 y12 y13 y14 y15 y16 y17 y18 y19)) ∧ (∀ y0 y1 y2 y3 y4 y5 y6 y7 y8 y9 y10 y11 y12 y13 y14 y15 y16 y17 y18 y19 y20 y21 y22 y23 y24 y25 y26,LeO (ddiref40_Start.l0 k y0 y1 y2 y3 y4 y5 y6 y7 y8 y9 y10 y11 y12 y13 y14 y15 y16 y17 y18 y19 y20 y21 y22 y23 y24 y25 y26) (ddiref40_Start.l0 (k + 1) y0 y1 y2 y3 y4 y5 y6 y7 y8 y9 y10 y11 y12 y13 y14 y15 y16 y17 y18 y19 y20 y21 y22 y23 y24 y25 y26)) ∧ (∀ y0 y1 y2 y3 y4 y5 y6 y7 y8 y9 y10 y11 y12 y13 y14 y15 y16 y17 y18 y19 y20 y21 y22 y23 y24 y25 y26 y27,LeO (ddiref40_Start.j3 k y0 y1 y2 y3 y4 y5 y6 y7 y8 y9 y10 y11 y12 y13 y14 y15 y16 y17 y18 y19 y20 y21 y22 y23 y24 y25 y26 y27) (ddiref40_Start.j3 (k + 1) y0 y1 y2 y3 y4 y5 y6 y7 y8 y9 y10 y11 y12 y13 y14 y15 y16 y17 y18 y19 y20 y21 y22 y23 y24 y25 y26 y27))
 | 0 => ⟨fun _ _ _ _ _ _ _ _ _ _ _ _ _ _ _ _ _ _ _ _ _ _ r h => by simp [ddiref40_Start.j0] at h,fun _ _ _ _ _ _ _ _ _ _ _ _ _ _ _ _ _ _ _ _ r h => by simp [ddiref40_Start.j1] at h,fun _ _ _ _ _ _ _ _ _ _ _ _ _ _ _ _ _ _ _ _ _ _ _ _ _ _ _ r h => by simp [ddiref40_Start.l0] at h,fun _ _ _ _ _ _ _ _ _ _ _ _ _ _ _ _ _ _ _ _ _ _ _ _ _ _ _ _ r h => by simp [ddiref40_Start.j3] at h⟩
 | k + 1 => by
  obtain ⟨ih0,ih1,ih2,ih3⟩ := ddiref40_Start.mono_l k
  refine ⟨?_,?_,?_,?_⟩
  ·intro y0 y1 y2 y3 y4 y5 y6 y7 y8 y9 y10 y11 y12 y13 y14 y15 y16 y17 y18 y19 y20 y21
   unfold ddiref40_Start.j0
   repeat' first
   | (with_reducible exact ih0 _ _ _ _ _ _ _ _ _ _ _ _ _ _ _ _ _ _ _ _ _ _)
   | (with_reducible exact ih1 _ _ _ _ _ _ _ _ _ _ _ _ _ _ _ _ _ _ _ _)
   | (with_reducible exact ih2 _ _ _ _ _ _ _ _ _ _ _ _ _ _ _ _ _ _ _ _ _ _ _ _ _ _ _)
   | (with_reducible exact ih3 _ _ _ _ _ _ _ _ _ _ _ _ _ _ _ _ _ _ _ _ _ _ _ _ _ _ _ _)
   | (with_reducible exact ddiref40_Pending.mono _ _ _ _ _)
   | (with_reducible exact LeO.refl _)
   | (with_reducible exact LeO.none _)
   | (with_reducible refine LeO.ite ?_ ?_)
   | (with_reducible refine LeO.bind ?_ (fun _ => ?_))
  ·intro y0 y1 y2 y3 y4 y5 y6 y7 y8 y9 y10 y11 y12 y13 y14 y15 y16 y17 y18 y19
   unfold ddiref40_Start.j1
   repeat' first
   | (with_reducible exact ih0 _ _ _ _ _ _ _ _ _ _ _ _ _ _ _ _ _ _ _ _ _ _)
   | (with_reducible exact ih1 _ _ _ _ _ _ _ _ _ _ _ _ _ _ _ _ _ _ _ _)
   | (with_reducible exact ih2 _ _ _ _ _ _ _ _ _ _ _ _ _ _ _ _ _ _ _ _ _ _ _ _ _ _ _)
   | (with_reducible exact ih3 _ _ _ _ _ _ _ _ _ _ _ _ _ _ _ _ _ _ _ _ _ _ _ _ _ _ _ _)
   | (with_reducible exact ddiref40_Pending.mono _ _ _ _ _)
   | (with_reducible exact LeO.refl _)
   | (with_reducible exact LeO.none _)
   | (with_reducible refine LeO.ite ?_ ?_)
   | (with_reducible refine LeO.bind ?_ (fun _ => ?_))
  ·intro y0 y1 y2 y3 y4 y5 y6 y7 y8 y9 y10 y11 y12 y13 y14 y15 y16 y17 y18 y19 y20 y21 y22 y23 y24 y25 y26
   unfold ddiref40_Start.l0
   repeat' first
   | (with_reducible exact ih0 _ _ _ _ _ _ _ _ _ _ _ _ _ _ _ _ _ _ _ _ _ _)
   | (with_reducible exact ih1 _ _ _ _ _ _ _ _ _ _ _ _ _ _ _ _ _ _ _ _)
   | (with_reducible exact ih2 _ _ _ _ _ _ _ _ _ _ _ _ _ _ _ _ _ _ _ _ _ _ _ _ _ _ _)
   | (with_reducible exact ih3 _ _ _ _ _ _ _ _ _ _ _ _ _ _ _ _ _ _ _ _ _ _ _ _ _ _ _ _)
   | (with_reducible exact ddiref40_Pending.mono _ _ _ _ _)
   | (with_reducible exact LeO.refl _)
   | (with_reducible exact LeO.none _)
   | (with_reducible refine LeO.ite ?_ ?_)
   | (with_reducible refine LeO.bind ?_ (fun _ => ?_))
  ·intro y0 y1 y2 y3 y4 y5 y6 y7 y8 y9 y10 y11 y12 y13 y14 y15 y16 y17 y18 y19 y20 y21 y22 y23 y24 y25 y26 y27
   unfold ddiref40_Start.j3
   repeat' first
   | (with_reducible exact ih0 _ _ _ _ _ _ _ _ _ _ _ _ _ _ _ _ _ _ _ _ _ _)
   | (with_reducible exact ih1 _ _ _ _ _ _ _ _ _ _ _ _ _ _ _ _ _ _ _ _)
   | (with_reducible exact ih2 _ _ _ _ _ _ _ _ _ _ _ _ _ _ _ _ _ _ _ _ _ _ _ _ _ _ _)
   | (with_reducible exact ih3 _ _ _ _ _ _ _ _ _ _ _ _ _ _ _ _ _ _ _ _ _ _ _ _ _ _ _ _)
   | (with_reducible exact ddiref40_Pending.mono _ _ _ _ _)
   | (with_reducible exact LeO.refl _)
   | (with_reducible exact LeO.none _)
   | (with_reducible refine LeO.ite ?_ ?_)
   | (with_reducible refine LeO.bind ?_ (fun _ => ?_))
theorem ddiref40_Start.mono : ∀ a0 a1 a2 a3 a4 a5 a6 a7 a8 a9 a10 a11 a12 a13 a14 a15 a16 a17 a18 a19 a20 k,LeO (ddiref40_Start.f k a0 a1 a2 a3 a4 a5 a6 a7 a8 a9 a10 a11 a12 a13 a14 a15 a16 a17 a18 a19 a20) (ddiref40_Start.f (k + 1) a0 a1 a2 a3 a4 a5 a6 a7 a8 a9 a10 a11 a12 a13 a14 a15 a16 a17 a18 a19 a20) := by
 intro a0 a1 a2 a3 a4 a5 a6 a7 a8 a9 a10 a11 a12 a13 a14 a15 a16 a17 a18 a19 a20 k
 obtain ⟨ih0,ih1,ih2,ih3⟩ := ddiref40_Start.mono_l k
 unfold ddiref40_Start.f
 repeat' first
   | (with_reducible exact ih0 _ _ _ _ _ _ _ _ _ _ _ _ _ _ _ _ _ _ _ _ _ _)
   | (with_reducible exact ih1 _ _ _ _ _ _ _ _ _ _ _ _ _ _ _ _ _ _ _ _)
   | (with_reducible exact ih2 _ _ _ _ _ _ _ _ _ _ _ _ _ _ _ _ _ _ _ _ _ _ _ _ _ _ _)
   | (with_reducible exact ih3 _ _ _ _ _ _ _ _ _ _ _ _ _ _ _ _ _ _ _ _ _ _ _ _ _ _ _ _)
   | (with_reducible exact ddiref40_Pending.mono _ _ _ _ _)
   | (with_reducible exact LeO.refl _)
   | (with_reducible exact LeO.none _)
   | (with_reducible refine LeO.ite ?_ ?_)
   | (with_reducible refine LeO.bind ?_ (fun _ => ?_))
mutual
def ddilaw40_ProbePlays.l0 : Nat → List (S43) → List (S33) → List (S54) → Int → Bool → Int → Int → Option (Bool)
 | 0,_,_,_,_,_,_,_ => none
 | k + 1,x0,x5,x6,x7,x477000,x477001,x477002 => if x7 < (x0.length : Int) then (if 0 ≤ x7 then (if (Int.tmod ((rd_T43 x0 x7).f0) 4) = 2 then ((probe_Seen.f k x5 ((rd_T43 x0 x7).f1.f0) ((rd_T43 x0 x7).f1.f1) ((rd_T43 x0 x7).f1.f2)).bind fun bt480 => ((ddiref40_Seen.f k x6 ((rd_T43 x0 x7).f1.f0) ((rd_T43 x0 x7).f1.f1) ((rd_T43 x0 x7).f1.f2)).bind fun bt507 => (if (bt480.2.2.2.2.2.2.2.2.2.2.2.2.2.2.2.2.2.2.2.2.2 != bt507.2.2.2.2.2.2.2.2.2.2.2.2.2.2.2.2.2.2.2.2.2) = true then (ddilaw40_ProbePlays.j1 k x0 x7 bt480.1 bt507.1 true x477000 x477001 x477002) else ((ddilaw40_same.f k bt480.2.1 bt480.2.2.1 bt480.2.2.2.1 bt480.2.2.2.2.1 bt480.2.2.2.2.2.1 bt480.2.2.2.2.2.2.1 bt480.2.2.2.2.2.2.2.1 bt480.2.2.2.2.2.2.2.2.1 bt480.2.2.2.2.2.2.2.2.2.1 bt480.2.2.2.2.2.2.2.2.2.2.1 bt480.2.2.2.2.2.2.2.2.2.2.2.1 bt480.2.2.2.2.2.2.2.2.2.2.2.2.1 bt480.2.2.2.2.2.2.2.2.2.2.2.2.2.1 bt480.2.2.2.2.2.2.2.2.2.2.2.2.2.2.1 bt480.2.2.2.2.2.2.2.2.2.2.2.2.2.2.2.1 bt480.2.2.2.2.2.2.2.2.2.2.2.2.2.2.2.2.1 bt480.2.2.2.2.2.2.2.2.2.2.2.2.2.2.2.2.2.1 bt480.2.2.2.2.2.2.2.2.2.2.2.2.2.2.2.2.2.2.1 bt480.2.2.2.2.2.2.2.2.2.2.2.2.2.2.2.2.2.2.2.1 bt480.2.2.2.2.2.2.2.2.2.2.2.2.2.2.2.2.2.2.2.2.1 bt507.2.1 bt507.2.2.1 bt507.2.2.2.1 bt507.2.2.2.2.1 bt507.2.2.2.2.2.1 bt507.2.2.2.2.2.2.1 bt507.2.2.2.2.2.2.2.1 bt507.2.2.2.2.2.2.2.2.1 bt507.2.2.2.2.2.2.2.2.2.1 bt507.2.2.2.2.2.2.2.2.2.2.1 bt507.2.2.2.2.2.2.2.2.2.2.2.1 bt507.2.2.2.2.2.2.2.2.2.2.2.2.1 bt507.2.2.2.2.2.2.2.2.2.2.2.2.2.1 bt507.2.2.2.2.2.2.2.2.2.2.2.2.2.2.1 bt507.2.2.2.2.2.2.2.2.2.2.2.2.2.2.2.1 bt507.2.2.2.2.2.2.2.2.2.2.2.2.2.2.2.2.1 bt507.2.2.2.2.2.2.2.2.2.2.2.2.2.2.2.2.2.1 bt507.2.2.2.2.2.2.2.2.2.2.2.2.2.2.2.2.2.2.1 bt507.2.2.2.2.2.2.2.2.2.2.2.2.2.2.2.2.2.2.2.1 bt507.2.2.2.2.2.2.2.2.2.2.2.2.2.2.2.2.2.2.2.2.1).bind fun t534 => (if t534 = true then ((ddilaw40_tables.f k bt480.1 bt507.1).bind fun t535 => (ddilaw40_ProbePlays.j1 k x0 x7 bt480.1 bt507.1 (!t535) x477000 x477001 x477002)) else (ddilaw40_ProbePlays.j1 k x0 x7 bt480.1 bt507.1 true x477000 x477001 x477002)))))) else (if (Int.tmod ((rd_T43 x0 x7).f0) 4) = 3 then ((probe_Finish.f k x5 ((rd_T43 x0 x7).f3)).bind fun bt536 => ((ddiref40_Finish.f k x6 ((rd_T43 x0 x7).f3)).bind fun bt542 => ((ddilaw40_tables.f k bt536.1 bt542.1).bind fun t548 => (if t548 = true then ((ddilaw40_tables.f k bt536.2 bt542.2).bind fun t549 => (ddilaw40_ProbePlays.j2 k x0 x7 bt536.1 bt542.1 (!t549) x477000 x477001 x477002)) else (ddilaw40_ProbePlays.j2 k x0 x7 bt536.1 bt542.1 true x477000 x477001 x477002))))) else ((probe_Start.f k x5 ((rd_T43 x0 x7).f1.f0) ((rd_T43 x0 x7).f1.f1) ((rd_T43 x0 x7).f1.f2) ((rd_T43 x0 x7).f2.f0) ((rd_T43 x0 x7).f2.f1) ((rd_T43 x0 x7).f2.f2) ((rd_T43 x0 x7).f2.f3) ((rd_T43 x0 x7).f2.f4.f0) ((rd_T43 x0 x7).f2.f4.f1) ((rd_T43 x0 x7).f2.f4.f2) ((rd_T43 x0 x7).f2.f5.f0) ((rd_T43 x0 x7).f2.f5.f1) ((rd_T43 x0 x7).f2.f5.f2) ((rd_T43 x0 x7).f2.f6.f0) ((rd_T43 x0 x7).f2.f6.f1) ((rd_T43 x0 x7).f2.f6.f2) ((rd_T43 x0 x7).f2.f7) ((rd_T43 x0 x7).f2.f8) ((rd_T43 x0 x7).f3) ((rd_T43 x0 x7).f4)).bind fun bt550 => ((ddiref40_Start.f k x6 ((rd_T43 x0 x7).f1.f0) ((rd_T43 x0 x7).f1.f1) ((rd_T43 x0 x7).f1.f2) ((rd_T43 x0 x7).f2.f0) ((rd_T43 x0 x7).f2.f1) ((rd_T43 x0 x7).f2.f2) ((rd_T43 x0 x7).f2.f3) ((rd_T43 x0 x7).f2.f4.f0) ((rd_T43 x0 x7).f2.f4.f1) ((rd_T43 x0 x7).f2.f4.f2) ((rd_T43 x0 x7).f2.f5.f0) ((rd_T43 x0 x7).f2.f5.f1) ((rd_T43 x0 x7).f2.f5.f2) ((rd_T43 x0 x7).f2.f6.f0) ((rd_T43 x0 x7).f2.f6.f1) ((rd_T43 x0 x7).f2.f6.f2) ((rd_T43 x0 x7).f2.f7) ((rd_T43 x0 x7).f2.f8) ((rd_T43 x0 x7).f3) ((rd_T43 x0 x7).f4)).bind fun bt554 => (if bt550.2 = bt554.2 then ((ddilaw40_tables.f k bt550.1 bt554.1).bind fun t558 => (ddilaw40_ProbePlays.j3 k x0 x5 x6 x7 bt550.1 bt550.2 bt554.1 (!t558) x477000 x477001 x477002)) else (ddilaw40_ProbePlays.j3 k x0 x5 x6 x7 bt550.1 bt550.2 bt554.1 true x477000 x477001 x477002)))))) else (none)) else (some true)
def ddilaw40_ProbePlays.j4 : Nat → List (S43) → List (S33) → List (S54) → Int → Bool → Int → Int → Option (Bool)
 | 0,_,_,_,_,_,_,_ => none
 | k + 1,x0,x5,x6,x7,x477000,x477001,x477002 => (probe_Pending.f k x5 x477000 x477001 x477002).bind fun bt559 => ((ddiref40_Pending.f k x6 x477000 x477001 x477002).bind fun bt583 => (if (bt559.2.2.2.2.2.2.2.2.2.2.2.2.2.2.2.2.2.2.2.2 != bt583.2.2.2.2.2.2.2.2.2.2.2.2.2.2.2.2.2.2.2.2) = true then (ddilaw40_ProbePlays.j5 k x0 x5 x6 x7 true x477000 x477001 x477002) else ((ddilaw40_same.f k bt559.1 bt559.2.1 bt559.2.2.1 bt559.2.2.2.1 bt559.2.2.2.2.1 bt559.2.2.2.2.2.1 bt559.2.2.2.2.2.2.1 bt559.2.2.2.2.2.2.2.1 bt559.2.2.2.2.2.2.2.2.1 bt559.2.2.2.2.2.2.2.2.2.1 bt559.2.2.2.2.2.2.2.2.2.2.1 bt559.2.2.2.2.2.2.2.2.2.2.2.1 bt559.2.2.2.2.2.2.2.2.2.2.2.2.1 bt559.2.2.2.2.2.2.2.2.2.2.2.2.2.1 bt559.2.2.2.2.2.2.2.2.2.2.2.2.2.2.1 bt559.2.2.2.2.2.2.2.2.2.2.2.2.2.2.2.1 bt559.2.2.2.2.2.2.2.2.2.2.2.2.2.2.2.2.1 bt559.2.2.2.2.2.2.2.2.2.2.2.2.2.2.2.2.2.1 bt559.2.2.2.2.2.2.2.2.2.2.2.2.2.2.2.2.2.2.1 bt559.2.2.2.2.2.2.2.2.2.2.2.2.2.2.2.2.2.2.2.1 bt583.1 bt583.2.1 bt583.2.2.1 bt583.2.2.2.1 bt583.2.2.2.2.1 bt583.2.2.2.2.2.1 bt583.2.2.2.2.2.2.1 bt583.2.2.2.2.2.2.2.1 bt583.2.2.2.2.2.2.2.2.1 bt583.2.2.2.2.2.2.2.2.2.1 bt583.2.2.2.2.2.2.2.2.2.2.1 bt583.2.2.2.2.2.2.2.2.2.2.2.1 bt583.2.2.2.2.2.2.2.2.2.2.2.2.1 bt583.2.2.2.2.2.2.2.2.2.2.2.2.2.1 bt583.2.2.2.2.2.2.2.2.2.2.2.2.2.2.1 bt583.2.2.2.2.2.2.2.2.2.2.2.2.2.2.2.1 bt583.2.2.2.2.2.2.2.2.2.2.2.2.2.2.2.2.1 bt583.2.2.2.2.2.2.2.2.2.2.2.2.2.2.2.2.2.1 bt583.2.2.2.2.2.2.2.2.2.2.2.2.2.2.2.2.2.2.1 bt583.2.2.2.2.2.2.2.2.2.2.2.2.2.2.2.2.2.2.2.1).bind fun t607 => (ddilaw40_ProbePlays.j5 k x0 x5 x6 x7 (!t607) x477000 x477001 x477002))))
def ddilaw40_ProbePlays.j5 : Nat → List (S43) → List (S33) → List (S54) → Int → Bool → Bool → Int → Int → Option (Bool)
 | 0,_,_,_,_,_,_,_,_ => none
 | k + 1,x0,x5,x6,x7,x167,x477000,x477001,x477002 => if x167 = true then (some false) else (ddilaw40_ProbePlays.l0 k x0 x5 x6 (wrap64 (x7 + 1)) x477000 x477001 x477002)
def ddilaw40_ProbePlays.j1 : Nat → List (S43) → Int → List (S33) → List (S54) → Bool → Bool → Int → Int → Option (Bool)
 | 0,_,_,_,_,_,_,_,_ => none
 | k + 1,x0,x7,x9,x12,x116,x477000,x477001,x477002 => if x116 = true then (some false) else (ddilaw40_ProbePlays.j4 k x0 x9 x12 x7 x477000 x477001 x477002)
def ddilaw40_ProbePlays.j2 : Nat → List (S43) → Int → List (S33) → List (S54) → Bool → Bool → Int → Int → Option (Bool)
 | 0,_,_,_,_,_,_,_,_ => none
 | k + 1,x0,x7,x15,x17,x144,x477000,x477001,x477002 => if x144 = true then (some false) else (ddilaw40_ProbePlays.j4 k x0 x15 x17 x7 x477000 x477001 x477002)
def ddilaw40_ProbePlays.j3 : Nat → List (S43) → List (S33) → List (S54) → Int → List (S33) → Int → List (S54) → Bool → Bool → Int → Int → Option (Bool)
 | 0,_,_,_,_,_,_,_,_,_,_,_ => none
 | k + 1,x0,x5,x6,x7,x19,x20,x21,x79,x477000,x477001,x477002 => if x79 = true then (some false) else (if x20 = 0 then (ddilaw40_ProbePlays.j4 k x0 x19 x21 x7 x477000 x477001 x477002) else (ddilaw40_ProbePlays.j4 k x0 x5 x6 x7 x477000 x477001 x477002))
end
def ddilaw40_ProbePlays.f (k : Nat) (l0 : List (S43)) (a1_0 : Bool) (a1_1 : Int) (a1_2 : Int) : Option (Bool) := (ddilaw40_awake.f k).bind fun t477 => (if t477 = true then (if (l0.length : Int) > 40 then (some true) else (ddilaw40_ProbePlays.l0 k l0 ([] : List (S33)) ([] : List (S54)) 0 a1_0 a1_1 a1_2)) else (some false))
theorem ddilaw40_ProbePlays.mono_l : ∀ k,(∀ y0 y1 y2 y3 y4 y5 y6,LeO (ddilaw40_ProbePlays.l0 k y0 y1 y2 y3 y4 y5 y6) (ddilaw40_ProbePlays.l0 (k + 1) y0 y1 y2 y3 y4 y5 y6)) ∧ (∀ y0 y1 y2 y3 y4 y5 y6,LeO (ddilaw40_ProbePlays.j4 k y0 y1 y2 y3 y4 y5 y6) (ddilaw40_ProbePlays.j4 (k + 1) y0 y1 y2 y3 y4 y5 y6)) ∧ (∀ y0 y1 y2 y3 y4 y5 y6 y7,LeO (ddilaw40_ProbePlays.j5 k y0 y1 y2 y3 y4 y5 y6 y7) (ddilaw40_ProbePlays.j5 (k + 1) y0 y1 y2 y3 y4 y5 y6 y7)) ∧ (∀ y0 y1 y2 y3 y4 y5 y6 y7,LeO (ddilaw40_ProbePlays.j1 k y0 y1 y2 y3 y4 y5 y6 y7) (ddilaw40_ProbePlays.j1 (k + 1) y0 y1 y2 y3 y4 y5 y6 y7)) ∧ (∀ y0 y1 y2 y3 y4 y5 y6 y7,LeO (ddilaw40_ProbePlays.j2 k y0 y1 y2 y3 y4 y5 y6 y7) (ddilaw40_ProbePlays.j2 (k + 1) y0 y1 y2 y3 y4 y5 y6 y7)) ∧ (∀ y0 y1 y2 y3 y4 y5 y6 y7 y8 y9 y10,LeO (ddilaw40_ProbePlays.j3 k y0 y1 y2 y3 y4 y5 y6 y7 y8 y9 y10) (ddilaw40_ProbePlays.j3 (k + 1) y0 y1 y2 y3 y4 y5 y6 y7 y8 y9 y10))
 | 0 => ⟨fun _ _ _ _ _ _ _ r h => by simp [ddilaw40_ProbePlays.l0] at h,fun _ _ _ _ _ _ _ r h => by simp [ddilaw40_ProbePlays.j4] at h,fun _ _ _ _ _ _ _ _ r h => by simp [ddilaw40_ProbePlays.j5] at h,fun _ _ _ _ _ _ _ _ r h => by simp [ddilaw40_ProbePlays.j1] at h,fun _ _ _ _ _ _ _ _ r h => by simp [ddilaw40_ProbePlays.j2] at h,fun _ _ _ _ _ _ _ _ _ _ _ r h => by simp [ddilaw40_ProbePlays.j3] at h⟩
 | k + 1 => by
  obtain ⟨ih0,ih1,ih2,ih3,ih4,ih5⟩ := ddilaw40_ProbePlays.mono_l k
  refine ⟨?_,?_,?_,?_,?_,?_⟩
  ·intro y0 y1 y2 y3 y4 y5 y6
   unfold ddilaw40_ProbePlays.l0
   repeat' first
   | (with_reducible exact ih0 _ _ _ _ _ _ _)
   | (with_reducible exact ih1 _ _ _ _ _ _ _)
   | (with_reducible exact ih2 _ _ _ _ _ _ _ _)
   | (with_reducible exact ih3 _ _ _ _ _ _ _ _)
   | (with_reducible exact ih4 _ _ _ _ _ _ _ _)
   | (with_reducible exact ih5 _ _ _ _ _ _ _ _ _ _ _)
   | (with_reducible exact ddilaw40_awake.mono _)
   | (with_reducible exact ddilaw40_same.mono _ _ _ _ _ _ _ _ _ _ _ _ _ _ _ _ _ _ _ _ _ _ _ _ _ _ _ _ _ _ _ _ _ _ _ _ _ _ _ _ _)
   | (with_reducible exact ddilaw40_tables.mono _ _ _)
   | (with_reducible exact ddiref40_Finish.mono _ _ _)
   | (with_reducible exact ddiref40_Pending.mono _ _ _ _ _)
   | (with_reducible exact ddiref40_Seen.mono _ _ _ _ _)
   | (with_reducible exact ddiref40_Start.mono _ _ _ _ _ _ _ _ _ _ _ _ _ _ _ _ _ _ _ _ _ _)
   | (with_reducible exact probe_Finish.mono _ _ _)
   | (with_reducible exact probe_Pending.mono _ _ _ _ _)
   | (with_reducible exact probe_Seen.mono _ _ _ _ _)
   | (with_reducible exact probe_Start.mono _ _ _ _ _ _ _ _ _ _ _ _ _ _ _ _ _ _ _ _ _ _)
   | (with_reducible exact LeO.refl _)
   | (with_reducible exact LeO.none _)
   | (with_reducible refine LeO.ite ?_ ?_)
   | (with_reducible refine LeO.bind ?_ (fun _ => ?_))
  ·intro y0 y1 y2 y3 y4 y5 y6
   unfold ddilaw40_ProbePlays.j4
   repeat' first
   | (with_reducible exact ih0 _ _ _ _ _ _ _)
   | (with_reducible exact ih1 _ _ _ _ _ _ _)
   | (with_reducible exact ih2 _ _ _ _ _ _ _ _)
   | (with_reducible exact ih3 _ _ _ _ _ _ _ _)
   | (with_reducible exact ih4 _ _ _ _ _ _ _ _)
   | (with_reducible exact ih5 _ _ _ _ _ _ _ _ _ _ _)
   | (with_reducible exact ddilaw40_awake.mono _)
   | (with_reducible exact ddilaw40_same.mono _ _ _ _ _ _ _ _ _ _ _ _ _ _ _ _ _ _ _ _ _ _ _ _ _ _ _ _ _ _ _ _ _ _ _ _ _ _ _ _ _)
   | (with_reducible exact ddilaw40_tables.mono _ _ _)
   | (with_reducible exact ddiref40_Finish.mono _ _ _)
   | (with_reducible exact ddiref40_Pending.mono _ _ _ _ _)
   | (with_reducible exact ddiref40_Seen.mono _ _ _ _ _)
   | (with_reducible exact ddiref40_Start.mono _ _ _ _ _ _ _ _ _ _ _ _ _ _ _ _ _ _ _ _ _ _)
   | (with_reducible exact probe_Finish.mono _ _ _)
   | (with_reducible exact probe_Pending.mono _ _ _ _ _)
   | (with_reducible exact probe_Seen.mono _ _ _ _ _)
   | (with_reducible exact probe_Start.mono _ _ _ _ _ _ _ _ _ _ _ _ _ _ _ _ _ _ _ _ _ _)
   | (with_reducible exact LeO.refl _)
   | (with_reducible exact LeO.none _)
   | (with_reducible refine LeO.ite ?_ ?_)
   | (with_reducible refine LeO.bind ?_ (fun _ => ?_))
  ·intro y0 y1 y2 y3 y4 y5 y6 y7
   unfold ddilaw40_ProbePlays.j5
   repeat' first
   | (with_reducible exact ih0 _ _ _ _ _ _ _)
   | (with_reducible exact ih1 _ _ _ _ _ _ _)
   | (with_reducible exact ih2 _ _ _ _ _ _ _ _)
   | (with_reducible exact ih3 _ _ _ _ _ _ _ _)
   | (with_reducible exact ih4 _ _ _ _ _ _ _ _)
   | (with_reducible exact ih5 _ _ _ _ _ _ _ _ _ _ _)
   | (with_reducible exact ddilaw40_awake.mono _)
   | (with_reducible exact ddilaw40_same.mono _ _ _ _ _ _ _ _ _ _ _ _ _ _ _ _ _ _ _ _ _ _ _ _ _ _ _ _ _ _ _ _ _ _ _ _ _ _ _ _ _)
   | (with_reducible exact ddilaw40_tables.mono _ _ _)
   | (with_reducible exact ddiref40_Finish.mono _ _ _)
   | (with_reducible exact ddiref40_Pending.mono _ _ _ _ _)
   | (with_reducible exact ddiref40_Seen.mono _ _ _ _ _)
   | (with_reducible exact ddiref40_Start.mono _ _ _ _ _ _ _ _ _ _ _ _ _ _ _ _ _ _ _ _ _ _)
   | (with_reducible exact probe_Finish.mono _ _ _)
   | (with_reducible exact probe_Pending.mono _ _ _ _ _)
   | (with_reducible exact probe_Seen.mono _ _ _ _ _)
   | (with_reducible exact probe_Start.mono _ _ _ _ _ _ _ _ _ _ _ _ _ _ _ _ _ _ _ _ _ _)
   | (with_reducible exact LeO.refl _)
   | (with_reducible exact LeO.none _)
   | (with_reducible refine LeO.ite ?_ ?_)
   | (with_reducible refine LeO.bind ?_ (fun _ => ?_))
  ·intro y0 y1 y2 y3 y4 y5 y6 y7
   unfold ddilaw40_ProbePlays.j1
   repeat' first
   | (with_reducible exact ih0 _ _ _ _ _ _ _)
   | (with_reducible exact ih1 _ _ _ _ _ _ _)
   | (with_reducible exact ih2 _ _ _ _ _ _ _ _)
   | (with_reducible exact ih3 _ _ _ _ _ _ _ _)
   | (with_reducible exact ih4 _ _ _ _ _ _ _ _)
   | (with_reducible exact ih5 _ _ _ _ _ _ _ _ _ _ _)
   | (with_reducible exact ddilaw40_awake.mono _)
   | (with_reducible exact ddilaw40_same.mono _ _ _ _ _ _ _ _ _ _ _ _ _ _ _ _ _ _ _ _ _ _ _ _ _ _ _ _ _ _ _ _ _ _ _ _ _ _ _ _ _)
   | (with_reducible exact ddilaw40_tables.mono _ _ _)
   | (with_reducible exact ddiref40_Finish.mono _ _ _)
   | (with_reducible exact ddiref40_Pending.mono _ _ _ _ _)
   | (with_reducible exact ddiref40_Seen.mono _ _ _ _ _)
   | (with_reducible exact ddiref40_Start.mono _ _ _ _ _ _ _ _ _ _ _ _ _ _ _ _ _ _ _ _ _ _)
   | (with_reducible exact probe_Finish.mono _ _ _)
   | (with_reducible exact probe_Pending.mono _ _ _ _ _)
   | (with_reducible exact probe_Seen.mono _ _ _ _ _)
   | (with_reducible exact probe_Start.mono _ _ _ _ _ _ _ _ _ _ _ _ _ _ _ _ _ _ _ _ _ _)
   | (with_reducible exact LeO.refl _)
   | (with_reducible exact LeO.none _)
   | (with_reducible refine LeO.ite ?_ ?_)
   | (with_reducible refine LeO.bind ?_ (fun _ => ?_))
  ·intro y0 y1 y2 y3 y4 y5 y6 y7
   unfold ddilaw40_ProbePlays.j2
   repeat' first
   | (with_reducible exact ih0 _ _ _ _ _ _ _)
   | (with_reducible exact ih1 _ _ _ _ _ _ _)
   | (with_reducible exact ih2 _ _ _ _ _ _ _ _)
   | (with_reducible exact ih3 _ _ _ _ _ _ _ _)
   | (with_reducible exact ih4 _ _ _ _ _ _ _ _)
   | (with_reducible exact ih5 _ _ _ _ _ _ _ _ _ _ _)
   | (with_reducible exact ddilaw40_awake.mono _)
   | (with_reducible exact ddilaw40_same.mono _ _ _ _ _ _ _ _ _ _ _ _ _ _ _ _ _ _ _ _ _ _ _ _ _ _ _ _ _ _ _ _ _ _ _ _ _ _ _ _ _)
   | (with_reducible exact ddilaw40_tables.mono _ _ _)
   | (with_reducible exact ddiref40_Finish.mono _ _ _)
   | (with_reducible exact ddiref40_Pending.mono _ _ _ _ _)
   | (with_reducible exact ddiref40_Seen.mono _ _ _ _ _)
   | (with_reducible exact ddiref40_Start.mono _ _ _ _ _ _ _ _ _ _ _ _ _ _ _ _ _ _ _ _ _ _)
   | (with_reducible exact probe_Finish.mono _ _ _)
   | (with_reducible exact probe_Pending.mono _ _ _ _ _)
   | (with_reducible exact probe_Seen.mono _ _ _ _ _)
   | (with_reducible exact probe_Start.mono _ _ _ _ _ _ _ _ _ _ _ _ _ _ _ _ _ _ _ _ _ _)
   | (with_reducible exact LeO.refl _)
   | (with_reducible exact LeO.none _)
   | (with_reducible refine LeO.ite ?_ ?_)
   | (with_reducible refine LeO.bind ?_ (fun _ => ?_))
  ·intro y0 y1 y2 y3 y4 y5 y6 y7 y8 y9 y10
   unfold ddilaw40_ProbePlays.j3
   repeat' first
   | (with_reducible exact ih0 _ _ _ _ _ _ _)
   | (with_reducible exact ih1 _ _ _ _ _ _ _)
   | (with_reducible exact ih2 _ _ _ _ _ _ _ _)
   | (with_reducible exact ih3 _ _ _ _ _ _ _ _)
   | (with_reducible exact ih4 _ _ _ _ _ _ _ _)
   | (with_reducible exact ih5 _ _ _ _ _ _ _ _ _ _ _)
   | (with_reducible exact ddilaw40_awake.mono _)
   | (with_reducible exact ddilaw40_same.mono _ _ _ _ _ _ _ _ _ _ _ _ _ _ _ _ _ _ _ _ _ _ _ _ _ _ _ _ _ _ _ _ _ _ _ _ _ _ _ _ _)
   | (with_reducible exact ddilaw40_tables.mono _ _ _)
   | (with_reducible exact ddiref40_Finish.mono _ _ _)
   | (with_reducible exact ddiref40_Pending.mono _ _ _ _ _)
   | (with_reducible exact ddiref40_Seen.mono _ _ _ _ _)
   | (with_reducible exact ddiref40_Start.mono _ _ _ _ _ _ _ _ _ _ _ _ _ _ _ _ _ _ _ _ _ _)
   | (with_reducible exact probe_Finish.mono _ _ _)
   | (with_reducible exact probe_Pending.mono _ _ _ _ _)
   | (with_reducible exact probe_Seen.mono _ _ _ _ _)
   | (with_reducible exact probe_Start.mono _ _ _ _ _ _ _ _ _ _ _ _ _ _ _ _ _ _ _ _ _ _)
   | (with_reducible exact LeO.refl _)
   | (with_reducible exact LeO.none _)
   | (with_reducible refine LeO.ite ?_ ?_)
   | (with_reducible refine LeO.bind ?_ (fun _ => ?_))
theorem ddilaw40_ProbePlays.mono : ∀ a0 a1 a2 a3 k,LeO (ddilaw40_ProbePlays.f k a0 a1 a2 a3) (ddilaw40_ProbePlays.f (k + 1) a0 a1 a2 a3) := by
 intro a0 a1 a2 a3 k
 obtain ⟨ih0,ih1,ih2,ih3,ih4,ih5⟩ := ddilaw40_ProbePlays.mono_l k
 unfold ddilaw40_ProbePlays.f
 repeat' first
   | (with_reducible exact ih0 _ _ _ _ _ _ _)
   | (with_reducible exact ih1 _ _ _ _ _ _ _)
   | (with_reducible exact ih2 _ _ _ _ _ _ _ _)
   | (with_reducible exact ih3 _ _ _ _ _ _ _ _)
   | (with_reducible exact ih4 _ _ _ _ _ _ _ _)
   | (with_reducible exact ih5 _ _ _ _ _ _ _ _ _ _ _)
   | (with_reducible exact ddilaw40_awake.mono _)
   | (with_reducible exact ddilaw40_same.mono _ _ _ _ _ _ _ _ _ _ _ _ _ _ _ _ _ _ _ _ _ _ _ _ _ _ _ _ _ _ _ _ _ _ _ _ _ _ _ _ _)
   | (with_reducible exact ddilaw40_tables.mono _ _ _)
   | (with_reducible exact ddiref40_Finish.mono _ _ _)
   | (with_reducible exact ddiref40_Pending.mono _ _ _ _ _)
   | (with_reducible exact ddiref40_Seen.mono _ _ _ _ _)
   | (with_reducible exact ddiref40_Start.mono _ _ _ _ _ _ _ _ _ _ _ _ _ _ _ _ _ _ _ _ _ _)
   | (with_reducible exact probe_Finish.mono _ _ _)
   | (with_reducible exact probe_Pending.mono _ _ _ _ _)
   | (with_reducible exact probe_Seen.mono _ _ _ _ _)
   | (with_reducible exact probe_Start.mono _ _ _ _ _ _ _ _ _ _ _ _ _ _ _ _ _ _ _ _ _ _)
   | (with_reducible exact LeO.refl _)
   | (with_reducible exact LeO.none _)
   | (with_reducible refine LeO.ite ?_ ?_)
   | (with_reducible refine LeO.bind ?_ (fun _ => ?_))
/-- THE ONE PURE STATEMENT of ddilaw40_ProbePlays: ours. -/
def ddilaw40_ProbePlays.Pure : Prop := ∀ (l0 : List (S43)) (a1_0 : Bool) (a1_1 : Int) (a1_2 : Int),(l0.length * 192 ≤ 140737488351232 ∧ l0.length ≤ maxLen ∧ ∀ y0_ ∈ l0,okS43 y0_) → okS28 (⟨a1_0,a1_1,a1_2⟩ : S28) → ∃ k,ddilaw40_ProbePlays.f k l0 a1_0 a1_1 a1_2 = some true
end Go.Proofs.Ytioopjondjfchaa.QA
