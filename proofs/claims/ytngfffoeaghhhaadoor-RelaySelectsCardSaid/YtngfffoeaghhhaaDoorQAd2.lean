import Derived.Test.YtngfffoeaghhhaaDoorQAd1
namespace Go.Proofs.YtngfffoeaghhhaaDoor.QA
open Go.RowKit Go.Proofs.YtngfffoeaghhhaaDoorW.PrintWords Go.Proofs.YtngfffoeaghhhaaDoorW.PrintLast Go.Proofs.YtngfffoeaghhhaaDoorW.PrintMore
set_option linter.unusedVariables false
mutual
def ddilaw39_few.l0 : Nat → List (S49) → List (S49) → Int → Option ((List (S49)))
 | 0,_,_,_ => none
 | k + 1,x0,x3,x4 => if x4 < (x0.length : Int) then (ddilaw39_few.j1 k x0 x3 x4 (decide (x4 < 20))) else (ddilaw39_few.j1 k x0 x3 x4 false)
def ddilaw39_few.j1 : Nat → List (S49) → List (S49) → Int → Bool → Option ((List (S49)))
 | 0,_,_,_,_ => none
 | k + 1,x0,x3,x4,x13 => if x13 = true then (if 0 ≤ x4 then (if x4 < (x0.length : Int) then (if 0 ≤ (mn (((rd_T49 x0 x4).f1).size : Int) 300) then (if (mn (((rd_T49 x0 x4).f1).size : Int) 300) ≤ (((rd_T49 x0 x4).f1).size : Int) then (if 0 ≤ (mn (((rd_T49 x0 x4).f2).length : Int) 20) then (if (mn (((rd_T49 x0 x4).f2).length : Int) 20) ≤ (((rd_T49 x0 x4).f2).length : Int) then (if 0 ≤ (mn (((rd_T49 x0 x4).f3).length : Int) 20) then (if (mn (((rd_T49 x0 x4).f3).length : Int) 20) ≤ (((rd_T49 x0 x4).f3).length : Int) then ((ddiref36_Short.f k 0 0 0 (⟨#[]⟩ : ByteArray) false 0 0 false 0 0 false 0 0 false ((rd_T49 x0 x4).f4)).bind fun bt584 => (if x3.length < 1099511627776 then (ddilaw39_few.l0 k x0 (x3 ++ [(⟨(⟨(⟨(rd_T49 x0 x4).f0.f0.f0,(rd_T49 x0 x4).f0.f0.f1,(rd_T49 x0 x4).f0.f0.f2⟩ : S24),(rd_T49 x0 x4).f0.f1⟩ : S45),((rd_T49 x0 x4).f1).extract 0 ((mn (((rd_T49 x0 x4).f1).size : Int) 300) : Int).toNat,(((rd_T49 x0 x4).f2).take ((mn (((rd_T49 x0 x4).f2).length : Int) 20) : Int).toNat),(((rd_T49 x0 x4).f3).take ((mn (((rd_T49 x0 x4).f3).length : Int) 20) : Int).toNat),bt584.2.2.2.2.2.2.2.2.2.2.2.2.2.2,(rd_T49 x0 x4).f5⟩ : S49)]) (wrap64 (x4 + 1))) else (none))) else (none)) else (none)) else (none)) else (none)) else (none)) else (none)) else (none)) else (none)) else (some x3)
end
def ddilaw39_few.f (k : Nat) (l0 : List (S49)) : Option ((List (S49))) := ddilaw39_few.l0 k l0 ([] : List (S49)) 0
def ddiref03_Long.f (a0 : Bool) : Option (Int) := if a0 = true then (some 128) else (some 32)
mutual
def ddiref03_ones.l0 : Nat → Int → Int → Int → Int → Option (Int × Int)
 | 0,_,_,_,_ => none
 | k + 1,x0,x4,x5,x6 => if x6 < x0 then (ddiref03_ones.j1 k x0 x4 x5 x6 (decide (x6 < 128))) else (ddiref03_ones.j1 k x0 x4 x5 x6 false)
def ddiref03_ones.j1 : Nat → Int → Int → Int → Int → Bool → Option (Int × Int)
 | 0,_,_,_,_,_ => none
 | k + 1,x0,x4,x5,x6,x13 => if x13 = true then (ddiref03_ones.l0 k x0 (IntKind.u64.wrap ((IntKind.u64.wrap (x4 * 2)) + (IntKind.u64.wrap (Int.tdiv x5 9223372036854775808)))) (IntKind.u64.wrap ((IntKind.u64.wrap (x5 * 2)) + 1)) (wrap64 (x6 + 1))) else (some (x4,x5))
end
def ddiref03_ones.f (k : Nat) (a0 : Int) : Option (Int × Int) := ddiref03_ones.l0 k a0 0 0 0
theorem ddiref03_ones.mono_l : ∀ k,(∀ y0 y1 y2 y3,LeO (ddiref03_ones.l0 k y0 y1 y2 y3) (ddiref03_ones.l0 (k + 1) y0 y1 y2 y3)) ∧ (∀ y0 y1 y2 y3 y4,LeO (ddiref03_ones.j1 k y0 y1 y2 y3 y4) (ddiref03_ones.j1 (k + 1) y0 y1 y2 y3 y4))
 | 0 => ⟨fun _ _ _ _ r h => by simp [ddiref03_ones.l0] at h,fun _ _ _ _ _ r h => by simp [ddiref03_ones.j1] at h⟩
 | k + 1 => by
  obtain ⟨ih0,ih1⟩ := ddiref03_ones.mono_l k
  refine ⟨?_,?_⟩
  ·intro y0 y1 y2 y3
   unfold ddiref03_ones.l0
   repeat' first
   | (with_reducible exact ih0 _ _ _ _)
   | (with_reducible exact ih1 _ _ _ _ _)
   | (with_reducible exact LeO.refl _)
   | (with_reducible exact LeO.none _)
   | (with_reducible refine LeO.ite ?_ ?_)
   | (with_reducible refine LeO.bind ?_ (fun _ => ?_))
  ·intro y0 y1 y2 y3 y4
   unfold ddiref03_ones.j1
   repeat' first
   | (with_reducible exact ih0 _ _ _ _)
   | (with_reducible exact ih1 _ _ _ _ _)
   | (with_reducible exact LeO.refl _)
   | (with_reducible exact LeO.none _)
   | (with_reducible refine LeO.ite ?_ ?_)
   | (with_reducible refine LeO.bind ?_ (fun _ => ?_))
theorem ddiref03_ones.mono : ∀ a0 k,LeO (ddiref03_ones.f k a0) (ddiref03_ones.f (k + 1) a0) := by
 intro a0 k
 obtain ⟨ih0,ih1⟩ := ddiref03_ones.mono_l k
 unfold ddiref03_ones.f
 repeat' first
   | (with_reducible exact ih0 _ _ _ _)
   | (with_reducible exact ih1 _ _ _ _ _)
   | (with_reducible exact LeO.refl _)
   | (with_reducible exact LeO.none _)
   | (with_reducible refine LeO.ite ?_ ?_)
   | (with_reducible refine LeO.bind ?_ (fun _ => ?_))
def ddiref03_Valid.j0 : Nat → Bool → Bool → Int → Int → Int → Option (Bool)
 | 0,_,_,_,_,_ => none
 | k + 1,x22,x605000,x605001,x605002,x605003 => if x22 = true then (some false) else ((ddiref03_Long.f x605000).bind fun t607 => ((ddiref03_ones.f k (wrap64 (t607 - x605003))).bind fun bt608 => (if (Go.bits .and .u64 x605001 bt608.1) = 0 then (some ((Go.bits .and .u64 x605002 bt608.2) == 0)) else (some false))))
def ddiref03_Valid.f (k : Nat) (a0_0 : Bool) (a0_1 : Int) (a0_2 : Int) (a0_3 : Int) : Option (Bool) := (ddiref02_Valid.f a0_0 a0_1 a0_2).bind fun t605 => (if t605 = true then (if a0_3 < 0 then (ddiref03_Valid.j0 k true a0_0 a0_1 a0_2 a0_3) else ((ddiref03_Long.f a0_0).bind fun t606 => (ddiref03_Valid.j0 k (decide (a0_3 > t606)) a0_0 a0_1 a0_2 a0_3))) else (ddiref03_Valid.j0 k true a0_0 a0_1 a0_2 a0_3))
def ddiref03_Of.j0 : Nat → Int → Bool → Bool → Int → Int → Option (Bool × Int × Int × Int × Bool)
 | 0,_,_,_,_,_ => none
 | k + 1,x1,x22,x611000,x611001,x611002 => if x22 = true then (some (false,0,0,0,false)) else ((ddiref03_Long.f x611000).bind fun t614 => ((ddiref03_ones.f k (wrap64 (t614 - x1))).bind fun bt615 => (some (x611000,IntKind.u64.wrap (x611001 - (Go.bits .and .u64 x611001 bt615.1)),IntKind.u64.wrap (x611002 - (Go.bits .and .u64 x611002 bt615.2)),x1,true))))
def ddiref03_Of.f (k : Nat) (a0_0 : Bool) (a0_1 : Int) (a0_2 : Int) (a1 : Int) : Option (Bool × Int × Int × Int × Bool) := (ddiref02_Valid.f a0_0 a0_1 a0_2).bind fun t612 => (if t612 = true then (if a1 < 0 then (ddiref03_Of.j0 k a1 true a0_0 a0_1 a0_2) else ((ddiref03_Long.f a0_0).bind fun t613 => (ddiref03_Of.j0 k a1 (decide (a1 > t613)) a0_0 a0_1 a0_2))) else (ddiref03_Of.j0 k a1 true a0_0 a0_1 a0_2))
def ddiref03_Contains.j0 : Nat → Bool → Bool → Int → Int → Int → Bool → Int → Int → Option (Bool)
 | 0,_,_,_,_,_,_,_,_ => none
 | k + 1,x22,x619000,x619001,x619002,x619003,x620000,x620001,x620002 => if x22 = true then (some false) else ((ddiref03_Of.f k x620000 x620001 x620002 x619003).bind fun bt622 => (some ((bt622.1 == x619000 && (bt622.2.1 == x619001 && (bt622.2.2.1 == x619002))) && (bt622.2.2.2.1 == x619003))))
def ddiref03_Contains.f (k : Nat) (a0_0 : Bool) (a0_1 : Int) (a0_2 : Int) (a0_3 : Int) (a1_0 : Bool) (a1_1 : Int) (a1_2 : Int) : Option (Bool) := (ddiref03_Valid.f k a0_0 a0_1 a0_2 a0_3).bind fun t620 => (if t620 = true then ((ddiref02_Valid.f a1_0 a1_1 a1_2).bind fun t621 => (if t621 = true then (ddiref03_Contains.j0 k (a0_0 != a1_0) a0_0 a0_1 a0_2 a0_3 a1_0 a1_1 a1_2) else (ddiref03_Contains.j0 k true a0_0 a0_1 a0_2 a0_3 a1_0 a1_1 a1_2))) else (ddiref03_Contains.j0 k true a0_0 a0_1 a0_2 a0_3 a1_0 a1_1 a1_2))
end Go.Proofs.YtngfffoeaghhhaaDoor.QA
