-- Written by this session's own program (wip/xprint) out of the translation; Lean checks it.
import Derived.Test.YtonpcojdpfmbkaaDoorQAd2
namespace Go.Proofs.YtonpcojdpfmbkaaDoor.QA
open Go.RowKit Go.Proofs.YtonpcojdpfmbkaaDoorW.PrintWords Go.Proofs.YtonpcojdpfmbkaaDoorW.PrintLast Go.Proofs.YtonpcojdpfmbkaaDoorW.PrintMore
set_option linter.unusedVariables false
def ddiref38_Same.l0 : Nat → List (S41) → List (S41) → Int → Option (Bool)
 | 0,_,_,_ => none
 | k + 1,x0,x1,x5 => if x5 < (x0.length : Int) then (if 0 ≤ x5 then (if x5 < (x1.length : Int) then (if ((!(((rd_T41 x0 x5).f0.f0) == ((rd_T41 x1 x5).f0.f0)) || (!(((rd_T41 x0 x5).f0.f1) == ((rd_T41 x1 x5).f0.f1)) || (!(((rd_T41 x0 x5).f0.f2) == ((rd_T41 x1 x5).f0.f2))))) || (!((((rd_T41 x0 x5).f1).toList) == (((rd_T41 x1 x5).f1).toList)) || (!(((rd_T41 x0 x5).f2) == ((rd_T41 x1 x5).f2)) || (!(((rd_T41 x0 x5).f3) == ((rd_T41 x1 x5).f3)) || (!(((rd_T41 x0 x5).f4) == ((rd_T41 x1 x5).f4)) || (!((((rd_T41 x0 x5).f5).toList) == (((rd_T41 x1 x5).f5).toList)) || (!(((rd_T41 x0 x5).f6) == ((rd_T41 x1 x5).f6))))))))) = true then (some false) else (ddiref38_Same.l0 k x0 x1 (wrap64 (x5 + 1)))) else (none)) else (none)) else (some true)
def ddiref38_Same.f (k : Nat) (l0 : List (S41)) (l1 : List (S41)) : Option (Bool) := if (l0.length : Int) = (l1.length : Int) then (ddiref38_Same.l0 k l0 l1 0) else (some false)
theorem ddiref38_Same.mono_l : ∀ k,(∀ y0 y1 y2,LeO (ddiref38_Same.l0 k y0 y1 y2) (ddiref38_Same.l0 (k + 1) y0 y1 y2))
 | 0 => fun _ _ _ r h => by simp [ddiref38_Same.l0] at h
 | k + 1 => by
  have ih0 := ddiref38_Same.mono_l k
  ·intro y0 y1 y2
   unfold ddiref38_Same.l0
   repeat' first
   | (with_reducible exact ih0 _ _ _)
   | (with_reducible exact LeO.refl _)
   | (with_reducible exact LeO.none _)
   | (with_reducible refine LeO.ite ?_ ?_)
   | (with_reducible refine LeO.bind ?_ (fun _ => ?_))
theorem ddiref38_Same.mono : ∀ a0 a1 k,LeO (ddiref38_Same.f k a0 a1) (ddiref38_Same.f (k + 1) a0 a1) := by
 intro a0 a1 k
 have ih0 := ddiref38_Same.mono_l k
 unfold ddiref38_Same.f
 repeat' first
   | (with_reducible exact ih0 _ _ _)
   | (with_reducible exact LeO.refl _)
   | (with_reducible exact LeO.none _)
   | (with_reducible refine LeO.ite ?_ ?_)
   | (with_reducible refine LeO.bind ?_ (fun _ => ?_))
def ddiref38_Find.l0 : Nat → List (S41) → Int → Bool → Int → Int → Option (Bool × Int × Int × ByteArray × Int × Int × Int × ByteArray × Int × Bool)
 | 0,_,_,_,_,_ => none
 | k + 1,x0,x6,x428000,x428001,x428002 => if x6 < (x0.length : Int) then (if 0 ≤ x6 then (if (((rd_T41 x0 x6).f0.f0) == x428000 && (((rd_T41 x0 x6).f0.f1) == x428001 && (((rd_T41 x0 x6).f0.f2) == x428002))) = true then (some ((rd_T41 x0 x6).f0.f0,(rd_T41 x0 x6).f0.f1,(rd_T41 x0 x6).f0.f2,(rd_T41 x0 x6).f1,(rd_T41 x0 x6).f2,(rd_T41 x0 x6).f3,(rd_T41 x0 x6).f4,(rd_T41 x0 x6).f5,(rd_T41 x0 x6).f6,true)) else (ddiref38_Find.l0 k x0 (wrap64 (x6 + 1)) x428000 x428001 x428002)) else (none)) else (some (false,0,0,(⟨#[]⟩ : ByteArray),0,0,0,(⟨#[]⟩ : ByteArray),0,false))
def ddiref38_Find.f (k : Nat) (l0 : List (S41)) (a1_0 : Bool) (a1_1 : Int) (a1_2 : Int) : Option (Bool × Int × Int × ByteArray × Int × Int × Int × ByteArray × Int × Bool) := ddiref38_Find.l0 k l0 0 a1_0 a1_1 a1_2
theorem ddiref38_Find.mono_l : ∀ k,(∀ y0 y1 y2 y3 y4,LeO (ddiref38_Find.l0 k y0 y1 y2 y3 y4) (ddiref38_Find.l0 (k + 1) y0 y1 y2 y3 y4))
 | 0 => fun _ _ _ _ _ r h => by simp [ddiref38_Find.l0] at h
 | k + 1 => by
  have ih0 := ddiref38_Find.mono_l k
  ·intro y0 y1 y2 y3 y4
   unfold ddiref38_Find.l0
   repeat' first
   | (with_reducible exact ih0 _ _ _ _ _)
   | (with_reducible exact LeO.refl _)
   | (with_reducible exact LeO.none _)
   | (with_reducible refine LeO.ite ?_ ?_)
   | (with_reducible refine LeO.bind ?_ (fun _ => ?_))
theorem ddiref38_Find.mono : ∀ a0 a1 a2 a3 k,LeO (ddiref38_Find.f k a0 a1 a2 a3) (ddiref38_Find.f (k + 1) a0 a1 a2 a3) := by
 intro a0 a1 a2 a3 k
 have ih0 := ddiref38_Find.mono_l k
 unfold ddiref38_Find.f
 repeat' first
   | (with_reducible exact ih0 _ _ _ _ _)
   | (with_reducible exact LeO.refl _)
   | (with_reducible exact LeO.none _)
   | (with_reducible refine LeO.ite ?_ ?_)
   | (with_reducible refine LeO.bind ?_ (fun _ => ?_))
mutual
def lease_Of.l0 : Nat → ByteArray → Bool → List (S41) → Int → Int → Bool → Int → Int → ByteArray → Int → Int → Int → ByteArray → Int → Option (Bool × Int × Int × ByteArray × Int × Int × Int × ByteArray × Int × Bool)
 | 0,_,_,_,_,_,_,_,_,_,_,_,_,_,_ => none
 | k + 1,x1,x7,x13,x14,x15,x433000,x433001,x433002,x433003,x433004,x433005,x433006,x433007,x433008 => if x15 < x14 then (if 0 ≤ x15 then (if x15 < (x13.length : Int) then (if ((rd_T41 x13 x15).f1).toList = x1.toList then (if x7 = true then (if ((rd_T41 x13 x15).f2) = 2 then (if x433004 = 2 then (if ((((rd_T41 x13 x15).f2) == 2) == (x433004 == 2)) = true then (lease_Of.j1 k x1 x7 x13 x14 x15 (decide (((rd_T41 x13 x15).f3) > x433005)) x433000 x433001 x433002 x433003 x433004 x433005 x433006 x433007 x433008 ((rd_T41 x13 x15).f0.f0) ((rd_T41 x13 x15).f0.f1) ((rd_T41 x13 x15).f0.f2) ((rd_T41 x13 x15).f1) ((rd_T41 x13 x15).f2) ((rd_T41 x13 x15).f3) ((rd_T41 x13 x15).f4) ((rd_T41 x13 x15).f5) ((rd_T41 x13 x15).f6)) else (lease_Of.j1 k x1 x7 x13 x14 x15 false x433000 x433001 x433002 x433003 x433004 x433005 x433006 x433007 x433008 ((rd_T41 x13 x15).f0.f0) ((rd_T41 x13 x15).f0.f1) ((rd_T41 x13 x15).f0.f2) ((rd_T41 x13 x15).f1) ((rd_T41 x13 x15).f2) ((rd_T41 x13 x15).f3) ((rd_T41 x13 x15).f4) ((rd_T41 x13 x15).f5) ((rd_T41 x13 x15).f6))) else (lease_Of.j1 k x1 x7 x13 x14 x15 true x433000 x433001 x433002 x433003 x433004 x433005 x433006 x433007 x433008 ((rd_T41 x13 x15).f0.f0) ((rd_T41 x13 x15).f0.f1) ((rd_T41 x13 x15).f0.f2) ((rd_T41 x13 x15).f1) ((rd_T41 x13 x15).f2) ((rd_T41 x13 x15).f3) ((rd_T41 x13 x15).f4) ((rd_T41 x13 x15).f5) ((rd_T41 x13 x15).f6))) else (if ((((rd_T41 x13 x15).f2) == 2) == (x433004 == 2)) = true then (lease_Of.j1 k x1 x7 x13 x14 x15 (decide (((rd_T41 x13 x15).f3) > x433005)) x433000 x433001 x433002 x433003 x433004 x433005 x433006 x433007 x433008 ((rd_T41 x13 x15).f0.f0) ((rd_T41 x13 x15).f0.f1) ((rd_T41 x13 x15).f0.f2) ((rd_T41 x13 x15).f1) ((rd_T41 x13 x15).f2) ((rd_T41 x13 x15).f3) ((rd_T41 x13 x15).f4) ((rd_T41 x13 x15).f5) ((rd_T41 x13 x15).f6)) else (lease_Of.j1 k x1 x7 x13 x14 x15 false x433000 x433001 x433002 x433003 x433004 x433005 x433006 x433007 x433008 ((rd_T41 x13 x15).f0.f0) ((rd_T41 x13 x15).f0.f1) ((rd_T41 x13 x15).f0.f2) ((rd_T41 x13 x15).f1) ((rd_T41 x13 x15).f2) ((rd_T41 x13 x15).f3) ((rd_T41 x13 x15).f4) ((rd_T41 x13 x15).f5) ((rd_T41 x13 x15).f6)))) else (lease_Of.j1 k x1 x7 x13 x14 x15 true x433000 x433001 x433002 x433003 x433004 x433005 x433006 x433007 x433008 ((rd_T41 x13 x15).f0.f0) ((rd_T41 x13 x15).f0.f1) ((rd_T41 x13 x15).f0.f2) ((rd_T41 x13 x15).f1) ((rd_T41 x13 x15).f2) ((rd_T41 x13 x15).f3) ((rd_T41 x13 x15).f4) ((rd_T41 x13 x15).f5) ((rd_T41 x13 x15).f6))) else (lease_Of.l0 k x1 x7 x13 x14 (wrap64 (x15 + 1)) x433000 x433001 x433002 x433003 x433004 x433005 x433006 x433007 x433008)) else (none)) else (none)) else (some (x433000,x433001,x433002,x433003,x433004,x433005,x433006,x433007,x433008,x7))
def lease_Of.j1 : Nat → ByteArray → Bool → List (S41) → Int → Int → Bool → Bool → Int → Int → ByteArray → Int → Int → Int → ByteArray → Int → Bool → Int → Int → ByteArray → Int → Int → Int → ByteArray → Int → Option (Bool × Int × Int × ByteArray × Int × Int × Int × ByteArray × Int × Bool)
 | 0,_,_,_,_,_,_,_,_,_,_,_,_,_,_,_,_,_,_,_,_,_,_,_,_ => none
 | k + 1,x1,x7,x13,x14,x15,x49,x433000,x433001,x433002,x433003,x433004,x433005,x433006,x433007,x433008,x435000,x435001,x435002,x435003,x435004,x435005,x435006,x435007,x435008 => if x49 = true then (lease_Of.l0 k x1 true x13 x14 (wrap64 (x15 + 1)) x435000 x435001 x435002 x435003 x435004 x435005 x435006 x435007 x435008) else (lease_Of.l0 k x1 x7 x13 x14 (wrap64 (x15 + 1)) x433000 x433001 x433002 x433003 x433004 x433005 x433006 x433007 x433008)
end
def lease_Of.f (k : Nat) (l0 : List (S41)) (a1 : ByteArray) : Option (Bool × Int × Int × ByteArray × Int × Int × Int × ByteArray × Int × Bool) := lease_Of.l0 k a1 false l0 (l0.length : Int) 0 false 0 0 (⟨#[]⟩ : ByteArray) 0 0 0 (⟨#[]⟩ : ByteArray) 0
theorem lease_Of.mono_l : ∀ k,(∀ y0 y1 y2 y3 y4 y5 y6 y7 y8 y9 y10 y11 y12 y13,LeO (lease_Of.l0 k y0 y1 y2 y3 y4 y5 y6 y7 y8 y9 y10 y11 y12 y13) (lease_Of.l0 (k + 1) y0 y1 y2 y3 y4 y5 y6 y7 y8 y9 y10 y11 y12 y13)) ∧ (∀ y0 y1 y2 y3 y4 y5 y6 y7 y8 y9 y10 y11 y12 y13 y14 y15 y16 y17 y18 y19 y20 y21 y22 y23,LeO (lease_Of.j1 k y0 y1 y2 y3 y4 y5 y6 y7 y8 y9 y10 y11 y12 y13 y14 y15 y16 y17 y18 y19 y20 y21 y22 y23) (lease_Of.j1 (k + 1) y0 y1 y2 y3 y4 y5 y6 y7 y8 y9 y10 y11 y12 y13 y14 y15 y16 y17 y18 y19 y20 y21 y22 y23))
 | 0 => ⟨fun _ _ _ _ _ _ _ _ _ _ _ _ _ _ r h => by simp [lease_Of.l0] at h,fun _ _ _ _ _ _ _ _ _ _ _ _ _ _ _ _ _ _ _ _ _ _ _ _ r h => by simp [lease_Of.j1] at h⟩
 | k + 1 => by
  obtain ⟨ih0,ih1⟩ := lease_Of.mono_l k
  refine ⟨?_,?_⟩
  ·intro y0 y1 y2 y3 y4 y5 y6 y7 y8 y9 y10 y11 y12 y13
   unfold lease_Of.l0
   repeat' first
   | (with_reducible exact ih0 _ _ _ _ _ _ _ _ _ _ _ _ _ _)
   | (with_reducible exact ih1 _ _ _ _ _ _ _ _ _ _ _ _ _ _ _ _ _ _ _ _ _ _ _ _)
   | (with_reducible exact LeO.refl _)
   | (with_reducible exact LeO.none _)
   | (with_reducible refine LeO.ite ?_ ?_)
   | (with_reducible refine LeO.bind ?_ (fun _ => ?_))
  ·intro y0 y1 y2 y3 y4 y5 y6 y7 y8 y9 y10 y11 y12 y13 y14 y15 y16 y17 y18 y19 y20 y21 y22 y23
   unfold lease_Of.j1
   repeat' first
   | (with_reducible exact ih0 _ _ _ _ _ _ _ _ _ _ _ _ _ _)
   | (with_reducible exact ih1 _ _ _ _ _ _ _ _ _ _ _ _ _ _ _ _ _ _ _ _ _ _ _ _)
   | (with_reducible exact LeO.refl _)
   | (with_reducible exact LeO.none _)
   | (with_reducible refine LeO.ite ?_ ?_)
   | (with_reducible refine LeO.bind ?_ (fun _ => ?_))
theorem lease_Of.mono : ∀ a0 a1 k,LeO (lease_Of.f k a0 a1) (lease_Of.f (k + 1) a0 a1) := by
 intro a0 a1 k
 obtain ⟨ih0,ih1⟩ := lease_Of.mono_l k
 unfold lease_Of.f
 repeat' first
   | (with_reducible exact ih0 _ _ _ _ _ _ _ _ _ _ _ _ _ _)
   | (with_reducible exact ih1 _ _ _ _ _ _ _ _ _ _ _ _ _ _ _ _ _ _ _ _ _ _ _ _)
   | (with_reducible exact LeO.refl _)
   | (with_reducible exact LeO.none _)
   | (with_reducible refine LeO.ite ?_ ?_)
   | (with_reducible refine LeO.bind ?_ (fun _ => ?_))
mutual
def ddiref38_Of.l0 : Nat → List (S41) → ByteArray → Bool → Int → Bool → Int → Int → ByteArray → Int → Int → Int → ByteArray → Int → Option (Bool × Int × Int × ByteArray × Int × Int × Int × ByteArray × Int × Bool)
 | 0,_,_,_,_,_,_,_,_,_,_,_,_,_ => none
 | k + 1,x0,x1,x7,x8,x437000,x437001,x437002,x437003,x437004,x437005,x437006,x437007,x437008 => if x8 < (x0.length : Int) then (if 0 ≤ x8 then (if ((rd_T41 x0 x8).f1).toList = x1.toList then (if x7 = true then (if ((rd_T41 x0 x8).f2) = 2 then (if x437004 = 2 then (if ((((rd_T41 x0 x8).f2) == 2) == (x437004 == 2)) = true then (ddiref38_Of.j1 k x0 x1 x7 x8 (decide (((rd_T41 x0 x8).f3) > x437005)) x437000 x437001 x437002 x437003 x437004 x437005 x437006 x437007 x437008 ((rd_T41 x0 x8).f0.f0) ((rd_T41 x0 x8).f0.f1) ((rd_T41 x0 x8).f0.f2) ((rd_T41 x0 x8).f1) ((rd_T41 x0 x8).f2) ((rd_T41 x0 x8).f3) ((rd_T41 x0 x8).f4) ((rd_T41 x0 x8).f5) ((rd_T41 x0 x8).f6)) else (ddiref38_Of.j1 k x0 x1 x7 x8 false x437000 x437001 x437002 x437003 x437004 x437005 x437006 x437007 x437008 ((rd_T41 x0 x8).f0.f0) ((rd_T41 x0 x8).f0.f1) ((rd_T41 x0 x8).f0.f2) ((rd_T41 x0 x8).f1) ((rd_T41 x0 x8).f2) ((rd_T41 x0 x8).f3) ((rd_T41 x0 x8).f4) ((rd_T41 x0 x8).f5) ((rd_T41 x0 x8).f6))) else (ddiref38_Of.j1 k x0 x1 x7 x8 true x437000 x437001 x437002 x437003 x437004 x437005 x437006 x437007 x437008 ((rd_T41 x0 x8).f0.f0) ((rd_T41 x0 x8).f0.f1) ((rd_T41 x0 x8).f0.f2) ((rd_T41 x0 x8).f1) ((rd_T41 x0 x8).f2) ((rd_T41 x0 x8).f3) ((rd_T41 x0 x8).f4) ((rd_T41 x0 x8).f5) ((rd_T41 x0 x8).f6))) else (if ((((rd_T41 x0 x8).f2) == 2) == (x437004 == 2)) = true then (ddiref38_Of.j1 k x0 x1 x7 x8 (decide (((rd_T41 x0 x8).f3) > x437005)) x437000 x437001 x437002 x437003 x437004 x437005 x437006 x437007 x437008 ((rd_T41 x0 x8).f0.f0) ((rd_T41 x0 x8).f0.f1) ((rd_T41 x0 x8).f0.f2) ((rd_T41 x0 x8).f1) ((rd_T41 x0 x8).f2) ((rd_T41 x0 x8).f3) ((rd_T41 x0 x8).f4) ((rd_T41 x0 x8).f5) ((rd_T41 x0 x8).f6)) else (ddiref38_Of.j1 k x0 x1 x7 x8 false x437000 x437001 x437002 x437003 x437004 x437005 x437006 x437007 x437008 ((rd_T41 x0 x8).f0.f0) ((rd_T41 x0 x8).f0.f1) ((rd_T41 x0 x8).f0.f2) ((rd_T41 x0 x8).f1) ((rd_T41 x0 x8).f2) ((rd_T41 x0 x8).f3) ((rd_T41 x0 x8).f4) ((rd_T41 x0 x8).f5) ((rd_T41 x0 x8).f6)))) else (ddiref38_Of.j1 k x0 x1 x7 x8 true x437000 x437001 x437002 x437003 x437004 x437005 x437006 x437007 x437008 ((rd_T41 x0 x8).f0.f0) ((rd_T41 x0 x8).f0.f1) ((rd_T41 x0 x8).f0.f2) ((rd_T41 x0 x8).f1) ((rd_T41 x0 x8).f2) ((rd_T41 x0 x8).f3) ((rd_T41 x0 x8).f4) ((rd_T41 x0 x8).f5) ((rd_T41 x0 x8).f6))) else (ddiref38_Of.l0 k x0 x1 x7 (wrap64 (x8 + 1)) x437000 x437001 x437002 x437003 x437004 x437005 x437006 x437007 x437008)) else (none)) else (some (x437000,x437001,x437002,x437003,x437004,x437005,x437006,x437007,x437008,x7))
def ddiref38_Of.j1 : Nat → List (S41) → ByteArray → Bool → Int → Bool → Bool → Int → Int → ByteArray → Int → Int → Int → ByteArray → Int → Bool → Int → Int → ByteArray → Int → Int → Int → ByteArray → Int → Option (Bool × Int × Int × ByteArray × Int × Int × Int × ByteArray × Int × Bool)
 | 0,_,_,_,_,_,_,_,_,_,_,_,_,_,_,_,_,_,_,_,_,_,_,_ => none
 | k + 1,x0,x1,x7,x8,x53,x437000,x437001,x437002,x437003,x437004,x437005,x437006,x437007,x437008,x439000,x439001,x439002,x439003,x439004,x439005,x439006,x439007,x439008 => if x53 = true then (ddiref38_Of.l0 k x0 x1 true (wrap64 (x8 + 1)) x439000 x439001 x439002 x439003 x439004 x439005 x439006 x439007 x439008) else (ddiref38_Of.l0 k x0 x1 x7 (wrap64 (x8 + 1)) x437000 x437001 x437002 x437003 x437004 x437005 x437006 x437007 x437008)
end
def ddiref38_Of.f (k : Nat) (l0 : List (S41)) (a1 : ByteArray) : Option (Bool × Int × Int × ByteArray × Int × Int × Int × ByteArray × Int × Bool) := ddiref38_Of.l0 k l0 a1 false 0 false 0 0 (⟨#[]⟩ : ByteArray) 0 0 0 (⟨#[]⟩ : ByteArray) 0
theorem ddiref38_Of.mono_l : ∀ k,(∀ y0 y1 y2 y3 y4 y5 y6 y7 y8 y9 y10 y11 y12,LeO (ddiref38_Of.l0 k y0 y1 y2 y3 y4 y5 y6 y7 y8 y9 y10 y11 y12) (ddiref38_Of.l0 (k + 1) y0 y1 y2 y3 y4 y5 y6 y7 y8 y9 y10 y11 y12)) ∧ (∀ y0 y1 y2 y3 y4 y5 y6 y7 y8 y9 y10 y11 y12 y13 y14 y15 y16 y17 y18 y19 y20 y21 y22,LeO (ddiref38_Of.j1 k y0 y1 y2 y3 y4 y5 y6 y7 y8 y9 y10 y11 y12 y13 y14 y15 y16 y17 y18 y19 y20 y21 y22) (ddiref38_Of.j1 (k + 1) y0 y1 y2 y3 y4 y5 y6 y7 y8 y9 y10 y11 y12 y13 y14 y15 y16 y17 y18 y19 y20 y21 y22))
 | 0 => ⟨fun _ _ _ _ _ _ _ _ _ _ _ _ _ r h => by simp [ddiref38_Of.l0] at h,fun _ _ _ _ _ _ _ _ _ _ _ _ _ _ _ _ _ _ _ _ _ _ _ r h => by simp [ddiref38_Of.j1] at h⟩
 | k + 1 => by
  obtain ⟨ih0,ih1⟩ := ddiref38_Of.mono_l k
  refine ⟨?_,?_⟩
  ·intro y0 y1 y2 y3 y4 y5 y6 y7 y8 y9 y10 y11 y12
   unfold ddiref38_Of.l0
   repeat' first
   | (with_reducible exact ih0 _ _ _ _ _ _ _ _ _ _ _ _ _)
   | (with_reducible exact ih1 _ _ _ _ _ _ _ _ _ _ _ _ _ _ _ _ _ _ _ _ _ _ _)
   | (with_reducible exact LeO.refl _)
   | (with_reducible exact LeO.none _)
   | (with_reducible refine LeO.ite ?_ ?_)
   | (with_reducible refine LeO.bind ?_ (fun _ => ?_))
  ·intro y0 y1 y2 y3 y4 y5 y6 y7 y8 y9 y10 y11 y12 y13 y14 y15 y16 y17 y18 y19 y20 y21 y22
   unfold ddiref38_Of.j1
   repeat' first
   | (with_reducible exact ih0 _ _ _ _ _ _ _ _ _ _ _ _ _)
   | (with_reducible exact ih1 _ _ _ _ _ _ _ _ _ _ _ _ _ _ _ _ _ _ _ _ _ _ _)
   | (with_reducible exact LeO.refl _)
   | (with_reducible exact LeO.none _)
   | (with_reducible refine LeO.ite ?_ ?_)
   | (with_reducible refine LeO.bind ?_ (fun _ => ?_))
theorem ddiref38_Of.mono : ∀ a0 a1 k,LeO (ddiref38_Of.f k a0 a1) (ddiref38_Of.f (k + 1) a0 a1) := by
 intro a0 a1 k
 obtain ⟨ih0,ih1⟩ := ddiref38_Of.mono_l k
 unfold ddiref38_Of.f
 repeat' first
   | (with_reducible exact ih0 _ _ _ _ _ _ _ _ _ _ _ _ _)
   | (with_reducible exact ih1 _ _ _ _ _ _ _ _ _ _ _ _ _ _ _ _ _ _ _ _ _ _ _)
   | (with_reducible exact LeO.refl _)
   | (with_reducible exact LeO.none _)
   | (with_reducible refine LeO.ite ?_ ?_)
   | (with_reducible refine LeO.bind ?_ (fun _ => ?_))
def ddiref38_Force.f (a0_0 : Bool) (a0_1 : Int) (a0_2 : Int) (a0_3 : ByteArray) (a0_4 : Int) (a0_5 : Int) (a0_6 : Int) (a0_7 : ByteArray) (a0_8 : Int) (a1 : Int) : Option (Bool) := if a0_4 = 1 then (some (decide (a1 < a0_6))) else (if a0_4 = 2 then (some (decide (a1 < a0_6))) else (if a0_4 = 5 then (some (decide (a1 < a0_6))) else (some false)))
def ddiref38_Free.f (k : Nat) (l0 : List (S41)) (a1_0 : Bool) (a1_1 : Int) (a1_2 : Int) (a2 : ByteArray) (a3 : Int) : Option (Bool) := (ddiref38_Find.f k l0 a1_0 a1_1 a1_2).bind fun bt441 => (if bt441.2.2.2.2.2.2.2.2.2 = true then ((ddiref38_Force.f bt441.1 bt441.2.1 bt441.2.2.1 bt441.2.2.2.1 bt441.2.2.2.2.1 bt441.2.2.2.2.2.1 bt441.2.2.2.2.2.2.1 bt441.2.2.2.2.2.2.2.1 bt441.2.2.2.2.2.2.2.2.1 a3).bind fun t452 => (if t452 = true then (if bt441.2.2.2.1.toList = a2.toList then (some (bt441.2.2.2.2.1 != 5)) else (some false)) else (some true))) else (some true))
theorem ddiref38_Free.mono : ∀ a0 a1 a2 a3 a4 a5 k,LeO (ddiref38_Free.f k a0 a1 a2 a3 a4 a5) (ddiref38_Free.f (k + 1) a0 a1 a2 a3 a4 a5) := by
 intro a0 a1 a2 a3 a4 a5 k
 unfold ddiref38_Free.f
 repeat' first
   | (with_reducible exact ddiref38_Find.mono _ _ _ _ _)
   | (with_reducible exact LeO.refl _)
   | (with_reducible exact LeO.none _)
   | (with_reducible refine LeO.ite ?_ ?_)
   | (with_reducible refine LeO.bind ?_ (fun _ => ?_))
def ddilaw38_addrs.l0 : Nat → List (S29) → List (S29) → Int → Option (Bool)
 | 0,_,_,_ => none
 | k + 1,x0,x1,x5 => if x5 < (x0.length : Int) then (if 0 ≤ x5 then (if x5 < (x1.length : Int) then (if (!(((rd_T29 x0 x5).f0) == ((rd_T29 x1 x5).f0)) || (!(((rd_T29 x0 x5).f1) == ((rd_T29 x1 x5).f1)) || (!(((rd_T29 x0 x5).f2) == ((rd_T29 x1 x5).f2))))) = true then (some false) else (ddilaw38_addrs.l0 k x0 x1 (wrap64 (x5 + 1)))) else (none)) else (none)) else (some true)
def ddilaw38_addrs.f (k : Nat) (l0 : List (S29)) (l1 : List (S29)) : Option (Bool) := if (l0.length : Int) = (l1.length : Int) then (ddilaw38_addrs.l0 k l0 l1 0) else (some false)
theorem ddilaw38_addrs.mono_l : ∀ k,(∀ y0 y1 y2,LeO (ddilaw38_addrs.l0 k y0 y1 y2) (ddilaw38_addrs.l0 (k + 1) y0 y1 y2))
 | 0 => fun _ _ _ r h => by simp [ddilaw38_addrs.l0] at h
 | k + 1 => by
  have ih0 := ddilaw38_addrs.mono_l k
  ·intro y0 y1 y2
   unfold ddilaw38_addrs.l0
   repeat' first
   | (with_reducible exact ih0 _ _ _)
   | (with_reducible exact LeO.refl _)
   | (with_reducible exact LeO.none _)
   | (with_reducible refine LeO.ite ?_ ?_)
   | (with_reducible refine LeO.bind ?_ (fun _ => ?_))
theorem ddilaw38_addrs.mono : ∀ a0 a1 k,LeO (ddilaw38_addrs.f k a0 a1) (ddilaw38_addrs.f (k + 1) a0 a1) := by
 intro a0 a1 k
 have ih0 := ddilaw38_addrs.mono_l k
 unfold ddilaw38_addrs.f
 repeat' first
   | (with_reducible exact ih0 _ _ _)
   | (with_reducible exact LeO.refl _)
   | (with_reducible exact LeO.none _)
   | (with_reducible refine LeO.ite ?_ ?_)
   | (with_reducible refine LeO.bind ?_ (fun _ => ?_))
def ddiref38_Taken.l0 : Nat → List (S41) → ByteArray → Int → List (S29) → Int → Option ((List (S29)))
 | 0,_,_,_,_,_ => none
 | k + 1,x0,x1,x2,x7,x8 => if x8 < (x0.length : Int) then (if 0 ≤ x8 then ((ddiref38_Free.f k x0 ((rd_T41 x0 x8).f0.f0) ((rd_T41 x0 x8).f0.f1) ((rd_T41 x0 x8).f0.f2) x1 x2).bind fun t456 => (if t456 = true then (ddiref38_Taken.l0 k x0 x1 x2 x7 (wrap64 (x8 + 1))) else (if x7.length < 5864062014805 then (ddiref38_Taken.l0 k x0 x1 x2 (x7 ++ [(⟨(rd_T41 x0 x8).f0.f0,(rd_T41 x0 x8).f0.f1,(rd_T41 x0 x8).f0.f2⟩ : S29)]) (wrap64 (x8 + 1))) else (none)))) else (none)) else (some x7)
def ddiref38_Taken.f (k : Nat) (l0 : List (S41)) (a1 : ByteArray) (a2 : Int) : Option ((List (S29))) := ddiref38_Taken.l0 k l0 a1 a2 ([] : List (S29)) 0
theorem ddiref38_Taken.mono_l : ∀ k,(∀ y0 y1 y2 y3 y4,LeO (ddiref38_Taken.l0 k y0 y1 y2 y3 y4) (ddiref38_Taken.l0 (k + 1) y0 y1 y2 y3 y4))
 | 0 => fun _ _ _ _ _ r h => by simp [ddiref38_Taken.l0] at h
 | k + 1 => by
  have ih0 := ddiref38_Taken.mono_l k
  ·intro y0 y1 y2 y3 y4
   unfold ddiref38_Taken.l0
   repeat' first
   | (with_reducible exact ih0 _ _ _ _ _)
   | (with_reducible exact ddiref38_Free.mono _ _ _ _ _ _ _)
   | (with_reducible exact LeO.refl _)
   | (with_reducible exact LeO.none _)
   | (with_reducible refine LeO.ite ?_ ?_)
   | (with_reducible refine LeO.bind ?_ (fun _ => ?_))
theorem ddiref38_Taken.mono : ∀ a0 a1 a2 k,LeO (ddiref38_Taken.f k a0 a1 a2) (ddiref38_Taken.f (k + 1) a0 a1 a2) := by
 intro a0 a1 a2 k
 have ih0 := ddiref38_Taken.mono_l k
 unfold ddiref38_Taken.f
 repeat' first
   | (with_reducible exact ih0 _ _ _ _ _)
   | (with_reducible exact ddiref38_Free.mono _ _ _ _ _ _ _)
   | (with_reducible exact LeO.refl _)
   | (with_reducible exact LeO.none _)
   | (with_reducible refine LeO.ite ?_ ?_)
   | (with_reducible refine LeO.bind ?_ (fun _ => ?_))
mutual
def ddiref38_Active.l0 : Nat → List (S41) → Int → List (S41) → Int → Option ((List (S41)))
 | 0,_,_,_,_ => none
 | k + 1,x0,x1,x5,x6 => if x6 < (x0.length : Int) then (if 0 ≤ x6 then (if ((rd_T41 x0 x6).f2) = 2 then ((ddiref38_Force.f ((rd_T41 x0 x6).f0.f0) ((rd_T41 x0 x6).f0.f1) ((rd_T41 x0 x6).f0.f2) ((rd_T41 x0 x6).f1) ((rd_T41 x0 x6).f2) ((rd_T41 x0 x6).f3) ((rd_T41 x0 x6).f4) ((rd_T41 x0 x6).f5) ((rd_T41 x0 x6).f6) x1).bind fun t463 => (ddiref38_Active.j1 k x0 x1 x5 x6 t463)) else (ddiref38_Active.j1 k x0 x1 x5 x6 false)) else (none)) else (some x5)
def ddiref38_Active.j1 : Nat → List (S41) → Int → List (S41) → Int → Bool → Option ((List (S41)))
 | 0,_,_,_,_,_ => none
 | k + 1,x0,x1,x5,x6,x26 => if x26 = true then (if 0 ≤ x6 then (if x6 < (x0.length : Int) then (if x5.length < 1599289640401 then (ddiref38_Active.l0 k x0 x1 (x5 ++ [(⟨(⟨(rd_T41 x0 x6).f0.f0,(rd_T41 x0 x6).f0.f1,(rd_T41 x0 x6).f0.f2⟩ : S29),(rd_T41 x0 x6).f1,(rd_T41 x0 x6).f2,(rd_T41 x0 x6).f3,(rd_T41 x0 x6).f4,(rd_T41 x0 x6).f5,(rd_T41 x0 x6).f6⟩ : S41)]) (wrap64 (x6 + 1))) else (none)) else (none)) else (none)) else (ddiref38_Active.l0 k x0 x1 x5 (wrap64 (x6 + 1)))
end
def ddiref38_Active.f (k : Nat) (l0 : List (S41)) (a1 : Int) : Option ((List (S41))) := ddiref38_Active.l0 k l0 a1 ([] : List (S41)) 0
theorem ddiref38_Active.mono_l : ∀ k,(∀ y0 y1 y2 y3,LeO (ddiref38_Active.l0 k y0 y1 y2 y3) (ddiref38_Active.l0 (k + 1) y0 y1 y2 y3)) ∧ (∀ y0 y1 y2 y3 y4,LeO (ddiref38_Active.j1 k y0 y1 y2 y3 y4) (ddiref38_Active.j1 (k + 1) y0 y1 y2 y3 y4))
 | 0 => ⟨fun _ _ _ _ r h => by simp [ddiref38_Active.l0] at h,fun _ _ _ _ _ r h => by simp [ddiref38_Active.j1] at h⟩
 | k + 1 => by
  obtain ⟨ih0,ih1⟩ := ddiref38_Active.mono_l k
  refine ⟨?_,?_⟩
  ·intro y0 y1 y2 y3
   unfold ddiref38_Active.l0
   repeat' first
   | (with_reducible exact ih0 _ _ _ _)
   | (with_reducible exact ih1 _ _ _ _ _)
   | (with_reducible exact LeO.refl _)
   | (with_reducible exact LeO.none _)
   | (with_reducible refine LeO.ite ?_ ?_)
   | (with_reducible refine LeO.bind ?_ (fun _ => ?_))
  ·intro y0 y1 y2 y3 y4
   unfold ddiref38_Active.j1
   repeat' first
   | (with_reducible exact ih0 _ _ _ _)
   | (with_reducible exact ih1 _ _ _ _ _)
   | (with_reducible exact LeO.refl _)
   | (with_reducible exact LeO.none _)
   | (with_reducible refine LeO.ite ?_ ?_)
   | (with_reducible refine LeO.bind ?_ (fun _ => ?_))
theorem ddiref38_Active.mono : ∀ a0 a1 k,LeO (ddiref38_Active.f k a0 a1) (ddiref38_Active.f (k + 1) a0 a1) := by
 intro a0 a1 k
 obtain ⟨ih0,ih1⟩ := ddiref38_Active.mono_l k
 unfold ddiref38_Active.f
 repeat' first
   | (with_reducible exact ih0 _ _ _ _)
   | (with_reducible exact ih1 _ _ _ _ _)
   | (with_reducible exact LeO.refl _)
   | (with_reducible exact LeO.none _)
   | (with_reducible refine LeO.ite ?_ ?_)
   | (with_reducible refine LeO.bind ?_ (fun _ => ?_))
def ddilaw38_LeaseFinds.f (k : Nat) (l0 : List (S41)) (a1_0 : Bool) (a1_1 : Int) (a1_2 : Int) (a1_3 : ByteArray) (a1_4 : ByteArray) (a1_5 : Int) (a1_6 : Int) (a1_7 : Int) : Option (Bool) := (ddiref38_Check.f k l0).bind fun t469 => (if t469 = 0 then ((lease_Find.f k l0 a1_0 a1_1 a1_2).bind fun bt471 => ((ddiref38_Find.f k l0 a1_0 a1_1 a1_2).bind fun bt482 => ((lease_Of.f k l0 a1_3).bind fun bt493 => ((ddiref38_Of.f k l0 a1_3).bind fun bt504 => (if ((bt471.1 == bt482.1 && (bt471.2.1 == bt482.2.1 && (bt471.2.2.1 == bt482.2.2.1))) && (bt471.2.2.2.1.toList == bt482.2.2.2.1.toList && (bt471.2.2.2.2.1 == bt482.2.2.2.2.1 && (bt471.2.2.2.2.2.1 == bt482.2.2.2.2.2.1 && (bt471.2.2.2.2.2.2.1 == bt482.2.2.2.2.2.2.1 && (bt471.2.2.2.2.2.2.2.1.toList == bt482.2.2.2.2.2.2.2.1.toList && (bt471.2.2.2.2.2.2.2.2.1 == bt482.2.2.2.2.2.2.2.2.1))))))) = true then (if (bt471.2.2.2.2.2.2.2.2.2 == bt482.2.2.2.2.2.2.2.2.2) = true then (if ((bt493.1 == bt504.1 && (bt493.2.1 == bt504.2.1 && (bt493.2.2.1 == bt504.2.2.1))) && (bt493.2.2.2.1.toList == bt504.2.2.2.1.toList && (bt493.2.2.2.2.1 == bt504.2.2.2.2.1 && (bt493.2.2.2.2.2.1 == bt504.2.2.2.2.2.1 && (bt493.2.2.2.2.2.2.1 == bt504.2.2.2.2.2.2.1 && (bt493.2.2.2.2.2.2.2.1.toList == bt504.2.2.2.2.2.2.2.1.toList && (bt493.2.2.2.2.2.2.2.2.1 == bt504.2.2.2.2.2.2.2.2.1))))))) = true then (if (bt493.2.2.2.2.2.2.2.2.2 == bt504.2.2.2.2.2.2.2.2.2) = true then ((lease_Free.f k l0 a1_0 a1_1 a1_2 a1_3 a1_6).bind fun t515 => ((ddiref38_Free.f k l0 a1_0 a1_1 a1_2 a1_3 a1_6).bind fun t516 => (if (t515 == t516) = true then ((lease_Taken.f k l0 a1_3 a1_6).bind fun t517 => ((ddiref38_Taken.f k l0 a1_3 a1_6).bind fun t520 => ((ddilaw38_addrs.f k t517 t520).bind fun t523 => (if t523 = true then ((lease_Active.f k l0 a1_6).bind fun t524 => ((ddiref38_Active.f k l0 a1_6).bind fun t527 => ((ddiref38_Same.f k t524 t527).bind fun t530 => (if t530 = true then ((ddilaw38_awake.f k).bind fun t531 => (some t531)) else (some false))))) else (some false))))) else (some false)))) else (some false)) else (some false)) else (some false)) else (some false)))))) else ((ddilaw38_awake.f k).bind fun t470 => (some t470)))
theorem ddilaw38_LeaseFinds.mono : ∀ a0 a1 a2 a3 a4 a5 a6 a7 a8 k,LeO (ddilaw38_LeaseFinds.f k a0 a1 a2 a3 a4 a5 a6 a7 a8) (ddilaw38_LeaseFinds.f (k + 1) a0 a1 a2 a3 a4 a5 a6 a7 a8) := by
 intro a0 a1 a2 a3 a4 a5 a6 a7 a8 k
 unfold ddilaw38_LeaseFinds.f
 repeat' first
   | (with_reducible exact ddilaw38_addrs.mono _ _ _)
   | (with_reducible exact ddilaw38_awake.mono _)
   | (with_reducible exact ddiref38_Active.mono _ _ _)
   | (with_reducible exact ddiref38_Check.mono _ _)
   | (with_reducible exact ddiref38_Find.mono _ _ _ _ _)
   | (with_reducible exact ddiref38_Free.mono _ _ _ _ _ _ _)
   | (with_reducible exact ddiref38_Of.mono _ _ _)
   | (with_reducible exact ddiref38_Same.mono _ _ _)
   | (with_reducible exact ddiref38_Taken.mono _ _ _ _)
   | (with_reducible exact lease_Active.mono _ _ _)
   | (with_reducible exact lease_Find.mono _ _ _ _ _)
   | (with_reducible exact lease_Free.mono _ _ _ _ _ _ _)
   | (with_reducible exact lease_Of.mono _ _ _)
   | (with_reducible exact lease_Taken.mono _ _ _ _)
   | (with_reducible exact LeO.refl _)
   | (with_reducible exact LeO.none _)
   | (with_reducible refine LeO.ite ?_ ?_)
   | (with_reducible refine LeO.bind ?_ (fun _ => ?_))
/-- THE ONE PURE STATEMENT of ddilaw38_LeaseFinds: ours. -/
def ddilaw38_LeaseFinds.Pure : Prop := ∀ (l0 : List (S41)) (a1_0 : Bool) (a1_1 : Int) (a1_2 : Int) (a1_3 : ByteArray) (a1_4 : ByteArray) (a1_5 : Int) (a1_6 : Int) (a1_7 : Int),(l0.length * 88 ≤ 140737488351232 ∧ l0.length ≤ maxLen ∧ ∀ y0_ ∈ l0,okS41 y0_) → okS31 (⟨(⟨a1_0,a1_1,a1_2⟩ : S29),a1_3,a1_4,a1_5,a1_6,a1_7⟩ : S31) → ∃ k,ddilaw38_LeaseFinds.f k l0 a1_0 a1_1 a1_2 a1_3 a1_4 a1_5 a1_6 a1_7 = some true
end Go.Proofs.YtonpcojdpfmbkaaDoor.QA
