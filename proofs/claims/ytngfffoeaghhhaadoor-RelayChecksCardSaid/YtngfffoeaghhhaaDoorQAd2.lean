import Derived.Test.YtngfffoeaghhhaaDoorQAd1
namespace Go.Proofs.YtngfffoeaghhhaaDoor.QA
open Go.RowKit Go.Proofs.YtngfffoeaghhhaaDoorW.PrintWords Go.Proofs.YtngfffoeaghhhaaDoorW.PrintLast Go.Proofs.YtngfffoeaghhhaaDoorW.PrintMore
set_option linter.unusedVariables false
mutual
def ddilaw39_few.l0 : Nat → List (S49) → List (S49) → Int → Option ((List (S49)))
 | 0,_,_,_ => none
 | k + 1,x0,x3,x4 => if x4 < (x0.length : Int) then (ddilaw39_few.j1 k x0 x3 x4 (decide (x4 < 20))) else (ddilaw39_few.j1 k x0 x3 x4 false)
def ddilaw39_few.j1 : Nat → List (S49) → List (S49) → Int → Bool → Option ((List (S49)))
 | 0,_,_,_,_ => none
 | k + 1,x0,x3,x4,x13 => if x13 = true then (if 0 ≤ x4 then (if x4 < (x0.length : Int) then (if 0 ≤ (mn (((rd_T49 x0 x4).f1).size : Int) 300) then (if (mn (((rd_T49 x0 x4).f1).size : Int) 300) ≤ (((rd_T49 x0 x4).f1).size : Int) then (if 0 ≤ (mn (((rd_T49 x0 x4).f2).length : Int) 20) then (if (mn (((rd_T49 x0 x4).f2).length : Int) 20) ≤ (((rd_T49 x0 x4).f2).length : Int) then (if 0 ≤ (mn (((rd_T49 x0 x4).f3).length : Int) 20) then (if (mn (((rd_T49 x0 x4).f3).length : Int) 20) ≤ (((rd_T49 x0 x4).f3).length : Int) then ((ddiref36_Short.f k 0 0 0 (⟨#[]⟩ : ByteArray) false 0 0 false 0 0 false 0 0 false ((rd_T49 x0 x4).f4)).bind fun bt584 => (if x3.length < 1099511627776 then (ddilaw39_few.l0 k x0 (x3 ++ [(⟨(⟨(⟨(rd_T49 x0 x4).f0.f0.f0,(rd_T49 x0 x4).f0.f0.f1,(rd_T49 x0 x4).f0.f0.f2⟩ : S24),(rd_T49 x0 x4).f0.f1⟩ : S45),((rd_T49 x0 x4).f1).extract 0 ((mn (((rd_T49 x0 x4).f1).size : Int) 300) : Int).toNat,(((rd_T49 x0 x4).f2).take ((mn (((rd_T49 x0 x4).f2).length : Int) 20) : Int).toNat),(((rd_T49 x0 x4).f3).take ((mn (((rd_T49 x0 x4).f3).length : Int) 20) : Int).toNat),bt584.2.2.2.2.2.2.2.2.2.2.2.2.2.2,(rd_T49 x0 x4).f5⟩ : S49)]) (wrap64 (x4 + 1))) else (none))) else (none)) else (none)) else (none)) else (none)) else (none)) else (none)) else (none)) else (none)) else (some x3)
end
def ddilaw39_few.f (k : Nat) (l0 : List (S49)) : Option ((List (S49))) := ddilaw39_few.l0 k l0 ([] : List (S49)) 0
def ddiref03_Long.f (a0 : Bool) : Option (Int) := if a0 = true then (some 128) else (some 32)
mutual
def ddiref03_ones.l0 : Nat → Int → Int → Int → Int → Option (Int × Int)
 | 0,_,_,_,_ => none
 | k + 1,x0,x4,x5,x6 => if x6 < x0 then (ddiref03_ones.j1 k x0 x4 x5 x6 (decide (x6 < 128))) else (ddiref03_ones.j1 k x0 x4 x5 x6 false)
def ddiref03_ones.j1 : Nat → Int → Int → Int → Int → Bool → Option (Int × Int)
 | 0,_,_,_,_,_ => none
 | k + 1,x0,x4,x5,x6,x13 => if x13 = true then (ddiref03_ones.l0 k x0 (IntKind.u64.wrap ((IntKind.u64.wrap (x4 * 2)) + (IntKind.u64.wrap (Int.tdiv x5 9223372036854775808)))) (IntKind.u64.wrap ((IntKind.u64.wrap (x5 * 2)) + 1)) (wrap64 (x6 + 1))) else (some (x4,x5))
end
def ddiref03_ones.f (k : Nat) (a0 : Int) : Option (Int × Int) := ddiref03_ones.l0 k a0 0 0 0
theorem ddiref03_ones.mono_l : ∀ k,(∀ y0 y1 y2 y3,LeO (ddiref03_ones.l0 k y0 y1 y2 y3) (ddiref03_ones.l0 (k + 1) y0 y1 y2 y3)) ∧ (∀ y0 y1 y2 y3 y4,LeO (ddiref03_ones.j1 k y0 y1 y2 y3 y4) (ddiref03_ones.j1 (k + 1) y0 y1 y2 y3 y4))
 | 0 => ⟨fun _ _ _ _ r h => by simp [ddiref03_ones.l0] at h,fun _ _ _ _ _ r h => by simp [ddiref03_ones.j1] at h⟩
 | k + 1 => by
  obtain ⟨ih0,ih1⟩ := ddiref03_ones.mono_l k
  refine ⟨?_,?_⟩
  ·intro y0 y1 y2 y3
   unfold ddiref03_ones.l0
   repeat' first
   | (with_reducible exact ih0 _ _ _ _)
   | (with_reducible exact ih1 _ _ _ _ _)
   | (with_reducible exact LeO.refl _)
   | (with_reducible exact LeO.none _)
   | (with_reducible refine LeO.ite ?_ ?_)
   | (with_reducible refine LeO.bind ?_ (fun _ => ?_))
  ·intro y0 y1 y2 y3 y4
   unfold ddiref03_ones.j1
   repeat' first
   | (with_reducible exact ih0 _ _ _ _)
   | (with_reducible exact ih1 _ _ _ _ _)
   | (with_reducible exact LeO.refl _)
   | (with_reducible exact LeO.none _)
   | (with_reducible refine LeO.ite ?_ ?_)
   | (with_reducible refine LeO.bind ?_ (fun _ => ?_))
theorem ddiref03_ones.mono : ∀ a0 k,LeO (ddiref03_ones.f k a0) (ddiref03_ones.f (k + 1) a0) := by
 intro a0 k
 obtain ⟨ih0,ih1⟩ := ddiref03_ones.mono_l k
 unfold ddiref03_ones.f
 repeat' first
   | (with_reducible exact ih0 _ _ _ _)
   | (with_reducible exact ih1 _ _ _ _ _)
   | (with_reducible exact LeO.refl _)
   | (with_reducible exact LeO.none _)
   | (with_reducible refine LeO.ite ?_ ?_)
   | (with_reducible refine LeO.bind ?_ (fun _ => ?_))
def ddiref03_Valid.j0 : Nat → Bool → Bool → Int → Int → Int → Option (Bool)
 | 0,_,_,_,_,_ => none
 | k + 1,x22,x605000,x605001,x605002,x605003 => if x22 = true then (some false) else ((ddiref03_Long.f x605000).bind fun t607 => ((ddiref03_ones.f k (wrap64 (t607 - x605003))).bind fun bt608 => (if (Go.bits .and .u64 x605001 bt608.1) = 0 then (some ((Go.bits .and .u64 x605002 bt608.2) == 0)) else (some false))))
def ddiref03_Valid.f (k : Nat) (a0_0 : Bool) (a0_1 : Int) (a0_2 : Int) (a0_3 : Int) : Option (Bool) := (ddiref02_Valid.f a0_0 a0_1 a0_2).bind fun t605 => (if t605 = true then (if a0_3 < 0 then (ddiref03_Valid.j0 k true a0_0 a0_1 a0_2 a0_3) else ((ddiref03_Long.f a0_0).bind fun t606 => (ddiref03_Valid.j0 k (decide (a0_3 > t606)) a0_0 a0_1 a0_2 a0_3))) else (ddiref03_Valid.j0 k true a0_0 a0_1 a0_2 a0_3))
def ddiref03_Of.j0 : Nat → Int → Bool → Bool → Int → Int → Option (Bool × Int × Int × Int × Bool)
 | 0,_,_,_,_,_ => none
 | k + 1,x1,x22,x611000,x611001,x611002 => if x22 = true then (some (false,0,0,0,false)) else ((ddiref03_Long.f x611000).bind fun t614 => ((ddiref03_ones.f k (wrap64 (t614 - x1))).bind fun bt615 => (some (x611000,IntKind.u64.wrap (x611001 - (Go.bits .and .u64 x611001 bt615.1)),IntKind.u64.wrap (x611002 - (Go.bits .and .u64 x611002 bt615.2)),x1,true))))
def ddiref03_Of.f (k : Nat) (a0_0 : Bool) (a0_1 : Int) (a0_2 : Int) (a1 : Int) : Option (Bool × Int × Int × Int × Bool) := (ddiref02_Valid.f a0_0 a0_1 a0_2).bind fun t612 => (if t612 = true then (if a1 < 0 then (ddiref03_Of.j0 k a1 true a0_0 a0_1 a0_2) else ((ddiref03_Long.f a0_0).bind fun t613 => (ddiref03_Of.j0 k a1 (decide (a1 > t613)) a0_0 a0_1 a0_2))) else (ddiref03_Of.j0 k a1 true a0_0 a0_1 a0_2))
def ddiref03_Contains.j0 : Nat → Bool → Bool → Int → Int → Int → Bool → Int → Int → Option (Bool)
 | 0,_,_,_,_,_,_,_,_ => none
 | k + 1,x22,x619000,x619001,x619002,x619003,x620000,x620001,x620002 => if x22 = true then (some false) else ((ddiref03_Of.f k x620000 x620001 x620002 x619003).bind fun bt622 => (some ((bt622.1 == x619000 && (bt622.2.1 == x619001 && (bt622.2.2.1 == x619002))) && (bt622.2.2.2.1 == x619003))))
def ddiref03_Contains.f (k : Nat) (a0_0 : Bool) (a0_1 : Int) (a0_2 : Int) (a0_3 : Int) (a1_0 : Bool) (a1_1 : Int) (a1_2 : Int) : Option (Bool) := (ddiref03_Valid.f k a0_0 a0_1 a0_2 a0_3).bind fun t620 => (if t620 = true then ((ddiref02_Valid.f a1_0 a1_1 a1_2).bind fun t621 => (if t621 = true then (ddiref03_Contains.j0 k (a0_0 != a1_0) a0_0 a0_1 a0_2 a0_3 a1_0 a1_1 a1_2) else (ddiref03_Contains.j0 k true a0_0 a0_1 a0_2 a0_3 a1_0 a1_1 a1_2))) else (ddiref03_Contains.j0 k true a0_0 a0_1 a0_2 a0_3 a1_0 a1_1 a1_2))
def ddiref03_Bounds.f (k : Nat) (a0_0 : Bool) (a0_1 : Int) (a0_2 : Int) (a0_3 : Int) : Option (Bool × Int × Int × Bool × Int × Int × Bool) := (ddiref03_Valid.f k a0_0 a0_1 a0_2 a0_3).bind fun t630 => (if t630 = true then ((ddiref03_Long.f a0_0).bind fun t631 => ((ddiref03_ones.f k (wrap64 (t631 - a0_3))).bind fun bt632 => (some (a0_0,a0_1,a0_2,a0_0,IntKind.u64.wrap (a0_1 + bt632.1),IntKind.u64.wrap (a0_2 + bt632.2),true)))) else (some (false,0,0,false,0,0,false)))
def ddiref37_usable.f (k : Nat) (a0_0 : Bool) (a0_1 : Int) (a0_2 : Int) (a0_3 : Int) (a1_0 : Bool) (a1_1 : Int) (a1_2 : Int) : Option (Bool) := (ddiref03_Bounds.f k a0_0 a0_1 a0_2 a0_3).bind fun bt637 => (if bt637.2.2.2.2.2.2 = true then ((ddiref03_Contains.f k a0_0 a0_1 a0_2 a0_3 a1_0 a1_1 a1_2).bind fun t645 => (if t645 = true then (if (!(a1_0 == bt637.1) || (!(a1_1 == bt637.2.1) || (!(a1_2 == bt637.2.2.1)))) = true then (some (!(a1_0 == bt637.2.2.2.1) || (!(a1_1 == bt637.2.2.2.2.1) || (!(a1_2 == bt637.2.2.2.2.2.1))))) else (some false)) else (some false))) else (some false))
def ddiref02_Compare.f (a0_0 : Bool) (a0_1 : Int) (a0_2 : Int) (a1_0 : Bool) (a1_1 : Int) (a1_2 : Int) : Option (Int) := if (a0_0 != a1_0) = true then (if a1_0 = true then (some (-1)) else (some 1)) else (if a0_1 = a1_1 then (if a0_2 < a1_2 then (some (-1)) else (if a0_2 > a1_2 then (some 1) else (some 0))) else (if a0_1 < a1_1 then (some (-1)) else (some 1)))
def ddiref37_inside.f (a0_0 : Bool) (a0_1 : Int) (a0_2 : Int) (a0_3 : Bool) (a0_4 : Int) (a0_5 : Int) (a1_0 : Bool) (a1_1 : Int) (a1_2 : Int) : Option (Bool) := (ddiref02_Compare.f a0_0 a0_1 a0_2 a1_0 a1_1 a1_2).bind fun t650 => (if t650 ≤ 0 then ((ddiref02_Compare.f a1_0 a1_1 a1_2 a0_3 a0_4 a0_5).bind fun t651 => (some (decide (t651 ≤ 0)))) else (some false))
mutual
def ddiref37_checkPools.l0 : Nat → Int → Bool → Int → Int → Int → ByteArray → List (S75) → List (S81) → List (S59) → Int → Option (Int)
 | 0,_,_,_,_,_,_,_,_,_,_ => none
 | k + 1,x3,x653000,x653001,x653002,x653003,x653004,x653005,x653006,x653007,x653008 => if x3 < (x653005.length : Int) then (if 0 ≤ x3 then ((ddiref37_usable.f k x653000 x653001 x653002 x653003 ((rd_T75 x653005 x3).f0.f0) ((rd_T75 x653005 x3).f0.f1) ((rd_T75 x653005 x3).f0.f2)).bind fun t655 => (if t655 = true then ((ddiref37_usable.f k x653000 x653001 x653002 x653003 ((rd_T75 x653005 x3).f1.f0) ((rd_T75 x653005 x3).f1.f1) ((rd_T75 x653005 x3).f1.f2)).bind fun t656 => (if t656 = true then ((ddiref02_Compare.f ((rd_T75 x653005 x3).f1.f0) ((rd_T75 x653005 x3).f1.f1) ((rd_T75 x653005 x3).f1.f2) ((rd_T75 x653005 x3).f0.f0) ((rd_T75 x653005 x3).f0.f1) ((rd_T75 x653005 x3).f0.f2)).bind fun t657 => (ddiref37_checkPools.j1 k x3 (decide (t657 < 0)) x653000 x653001 x653002 x653003 x653004 x653005 x653006 x653007 x653008 ((rd_T75 x653005 x3).f0.f0) ((rd_T75 x653005 x3).f0.f1) ((rd_T75 x653005 x3).f0.f2) ((rd_T75 x653005 x3).f1.f0) ((rd_T75 x653005 x3).f1.f1) ((rd_T75 x653005 x3).f1.f2))) else (ddiref37_checkPools.j1 k x3 true x653000 x653001 x653002 x653003 x653004 x653005 x653006 x653007 x653008 ((rd_T75 x653005 x3).f0.f0) ((rd_T75 x653005 x3).f0.f1) ((rd_T75 x653005 x3).f0.f2) ((rd_T75 x653005 x3).f1.f0) ((rd_T75 x653005 x3).f1.f1) ((rd_T75 x653005 x3).f1.f2)))) else (ddiref37_checkPools.j1 k x3 true x653000 x653001 x653002 x653003 x653004 x653005 x653006 x653007 x653008 ((rd_T75 x653005 x3).f0.f0) ((rd_T75 x653005 x3).f0.f1) ((rd_T75 x653005 x3).f0.f2) ((rd_T75 x653005 x3).f1.f0) ((rd_T75 x653005 x3).f1.f1) ((rd_T75 x653005 x3).f1.f2)))) else (none)) else (some 0)
def ddiref37_checkPools.j1 : Nat → Int → Bool → Bool → Int → Int → Int → ByteArray → List (S75) → List (S81) → List (S59) → Int → Bool → Int → Int → Bool → Int → Int → Option (Int)
 | 0,_,_,_,_,_,_,_,_,_,_,_,_,_,_,_,_,_ => none
 | k + 1,x3,x39,x653000,x653001,x653002,x653003,x653004,x653005,x653006,x653007,x653008,x655000,x655001,x655002,x655003,x655004,x655005 => if x39 = true then (some 3) else (ddiref37_checkPools.l1 k x3 0 x653000 x653001 x653002 x653003 x653004 x653005 x653006 x653007 x653008 x655000 x655001 x655002 x655003 x655004 x655005)
def ddiref37_checkPools.l1 : Nat → Int → Int → Bool → Int → Int → Int → ByteArray → List (S75) → List (S81) → List (S59) → Int → Bool → Int → Int → Bool → Int → Int → Option (Int)
 | 0,_,_,_,_,_,_,_,_,_,_,_,_,_,_,_,_,_ => none
 | k + 1,x3,x5,x653000,x653001,x653002,x653003,x653004,x653005,x653006,x653007,x653008,x655000,x655001,x655002,x655003,x655004,x655005 => if x5 < x3 then (if 0 ≤ x5 then (if x5 < (x653005.length : Int) then ((ddiref37_inside.f x655000 x655001 x655002 x655003 x655004 x655005 ((rd_T75 x653005 x5).f0.f0) ((rd_T75 x653005 x5).f0.f1) ((rd_T75 x653005 x5).f0.f2)).bind fun t659 => (if t659 = true then (ddiref37_checkPools.j3 k x3 x5 true x653000 x653001 x653002 x653003 x653004 x653005 x653006 x653007 x653008 x655000 x655001 x655002 x655003 x655004 x655005) else ((ddiref37_inside.f ((rd_T75 x653005 x5).f0.f0) ((rd_T75 x653005 x5).f0.f1) ((rd_T75 x653005 x5).f0.f2) ((rd_T75 x653005 x5).f1.f0) ((rd_T75 x653005 x5).f1.f1) ((rd_T75 x653005 x5).f1.f2) x655000 x655001 x655002).bind fun t661 => (ddiref37_checkPools.j3 k x3 x5 t661 x653000 x653001 x653002 x653003 x653004 x653005 x653006 x653007 x653008 x655000 x655001 x655002 x655003 x655004 x655005)))) else (none)) else (none)) else (ddiref37_checkPools.l0 k (wrap64 (x3 + 1)) x653000 x653001 x653002 x653003 x653004 x653005 x653006 x653007 x653008)
def ddiref37_checkPools.j3 : Nat → Int → Int → Bool → Bool → Int → Int → Int → ByteArray → List (S75) → List (S81) → List (S59) → Int → Bool → Int → Int → Bool → Int → Int → Option (Int)
 | 0,_,_,_,_,_,_,_,_,_,_,_,_,_,_,_,_,_,_ => none
 | k + 1,x3,x5,x62,x653000,x653001,x653002,x653003,x653004,x653005,x653006,x653007,x653008,x655000,x655001,x655002,x655003,x655004,x655005 => if x62 = true then (some 24) else (ddiref37_checkPools.l1 k x3 (wrap64 (x5 + 1)) x653000 x653001 x653002 x653003 x653004 x653005 x653006 x653007 x653008 x655000 x655001 x655002 x655003 x655004 x655005)
end
def ddiref37_checkPools.f (k : Nat) (a0_0 : Bool) (a0_1 : Int) (a0_2 : Int) (a0_3 : Int) (a0_4 : ByteArray) (l0_5 : List (S75)) (l0_6 : List (S81)) (l0_7 : List (S59)) (a0_8 : Int) : Option (Int) := ddiref37_checkPools.l0 k 0 a0_0 a0_1 a0_2 a0_3 a0_4 l0_5 l0_6 l0_7 a0_8
mutual
def ddiref37_client.j0 : Nat → ByteArray → Bool → Option (Bool)
 | 0,_,_ => none
 | k + 1,x0,x11 => if x11 = true then (some false) else (ddiref37_client.l0 k x0 0)
def ddiref37_client.l0 : Nat → ByteArray → Int → Option (Bool)
 | 0,_,_ => none
 | k + 1,x0,x3 => if x3 < (x0.size : Int) then (if 0 ≤ x3 then (if (bt x0 x3) < 33 then (ddiref37_client.j2 k x0 x3 true) else (ddiref37_client.j2 k x0 x3 (decide ((bt x0 x3) > 126)))) else (none)) else (some true)
def ddiref37_client.j2 : Nat → ByteArray → Int → Bool → Option (Bool)
 | 0,_,_,_ => none
 | k + 1,x0,x3,x27 => if x27 = true then (some false) else (ddiref37_client.l0 k x0 (wrap64 (x3 + 1)))
end
def ddiref37_client.f (k : Nat) (a0 : ByteArray) : Option (Bool) := if (a0.size : Int) < 1 then (ddiref37_client.j0 k a0 true) else (ddiref37_client.j0 k a0 (decide ((a0.size : Int) > 32)))
mutual
def ddiref01_isLabel.j0 : Nat → ByteArray → Bool → Option (Bool)
 | 0,_,_ => none
 | k + 1,x0,x14 => if x14 = true then (some false) else (ddiref01_isLabel.l0 k x0 0)
def ddiref01_isLabel.l0 : Nat → ByteArray → Int → Option (Bool)
 | 0,_,_ => none
 | k + 1,x0,x3 => if x3 < (x0.size : Int) then (if 0 ≤ x3 then (if (bt x0 x3) ≥ 97 then (if (bt x0 x3) ≤ 122 then (ddiref01_isLabel.j2 k x0 x3 (!true)) else (if (bt x0 x3) ≥ 48 then (if (bt x0 x3) ≤ 57 then (ddiref01_isLabel.j2 k x0 x3 (!true)) else (if (bt x0 x3) = 45 then (ddiref01_isLabel.j2 k x0 x3 (!true)) else (ddiref01_isLabel.j2 k x0 x3 (!((bt x0 x3) == 95))))) else (if (bt x0 x3) = 45 then (ddiref01_isLabel.j2 k x0 x3 (!true)) else (ddiref01_isLabel.j2 k x0 x3 (!((bt x0 x3) == 95)))))) else (if (bt x0 x3) ≥ 48 then (if (bt x0 x3) ≤ 57 then (ddiref01_isLabel.j2 k x0 x3 (!true)) else (if (bt x0 x3) = 45 then (ddiref01_isLabel.j2 k x0 x3 (!true)) else (ddiref01_isLabel.j2 k x0 x3 (!((bt x0 x3) == 95))))) else (if (bt x0 x3) = 45 then (ddiref01_isLabel.j2 k x0 x3 (!true)) else (ddiref01_isLabel.j2 k x0 x3 (!((bt x0 x3) == 95)))))) else (none)) else (some true)
def ddiref01_isLabel.j2 : Nat → ByteArray → Int → Bool → Option (Bool)
 | 0,_,_,_ => none
 | k + 1,x0,x3,x46 => if x46 = true then (some false) else (ddiref01_isLabel.l0 k x0 (wrap64 (x3 + 1)))
end
def ddiref01_isLabel.f (k : Nat) (a0 : ByteArray) : Option (Bool) := if a0.toList = ([42] : List UInt8) then (some true) else (if (a0.size : Int) < 1 then (ddiref01_isLabel.j0 k a0 true) else (ddiref01_isLabel.j0 k a0 (decide ((a0.size : Int) > 63))))
mutual
def ddiref01_split.j0 : Nat → ByteArray → Bool → Option (List ByteArray × Bool)
 | 0,_,_ => none
 | k + 1,x0,x25 => if x25 = true then (some (([] : List ByteArray),false)) else (ddiref01_split.l0 k x0 ([] : List ByteArray) 0 0)
def ddiref01_split.l0 : Nat → ByteArray → List ByteArray → Int → Int → Option (List ByteArray × Bool)
 | 0,_,_,_,_ => none
 | k + 1,x0,x4,x5,x6 => if x6 < (x0.size : Int) then (if 0 ≤ x6 then (if (bt x0 x6) = 46 then (if 0 ≤ x5 then (if x5 ≤ x6 then (if x6 ≤ (x0.size : Int) then ((ddiref01_isLabel.f k (x0.extract (x5 : Int).toNat (x6 : Int).toNat)).bind fun t662 => (if t662 = true then (if (x0.extract (x5 : Int).toNat (x6 : Int).toNat).toList = ([42] : List UInt8) then (ddiref01_split.j2 k x0 x4 x6 (x0.extract (x5 : Int).toNat (x6 : Int).toNat) (decide (x5 > 0))) else (ddiref01_split.j2 k x0 x4 x6 (x0.extract (x5 : Int).toNat (x6 : Int).toNat) false)) else (ddiref01_split.j2 k x0 x4 x6 (x0.extract (x5 : Int).toNat (x6 : Int).toNat) true))) else (none)) else (none)) else (none)) else (ddiref01_split.l0 k x0 x4 x5 (wrap64 (x6 + 1)))) else (none)) else (some (x4,true))
def ddiref01_split.j2 : Nat → ByteArray → List ByteArray → Int → ByteArray → Bool → Option (List ByteArray × Bool)
 | 0,_,_,_,_,_ => none
 | k + 1,x0,x4,x6,x7,x50 => if x50 = true then (some (([] : List ByteArray),false)) else (if x4.length < 8796093022208 then (ddiref01_split.l0 k x0 (x4 ++ [x7]) (wrap64 (x6 + 1)) (wrap64 (x6 + 1))) else (none))
end
def ddiref01_split.f (k : Nat) (a0 : ByteArray) : Option (List ByteArray × Bool) := if a0.toList = ([46] : List UInt8) then (some (([] : List ByteArray),true)) else (if (a0.size : Int) < 2 then (ddiref01_split.j0 k a0 true) else (if (a0.size : Int) > 254 then (ddiref01_split.j0 k a0 true) else (if 0 ≤ (wrap64 ((a0.size : Int) - 1)) then (if (wrap64 ((a0.size : Int) - 1)) < (a0.size : Int) then (ddiref01_split.j0 k a0 ((bt a0 (wrap64 ((a0.size : Int) - 1))) != 46)) else (none)) else (none))))
def ddiref01_Valid.f (k : Nat) (a0 : ByteArray) : Option (Bool) := (ddiref01_split.f k a0).bind fun bt666 => (some bt666.2)
mutual
def ddiref37_checkReserved.l0 : Nat → Int → Bool → Int → Int → Int → ByteArray → List (S75) → List (S81) → List (S59) → Int → Option (Int)
 | 0,_,_,_,_,_,_,_,_,_,_ => none
 | k + 1,x3,x671000,x671001,x671002,x671003,x671004,x671005,x671006,x671007,x671008 => if x3 < (x671006.length : Int) then (if 0 ≤ x3 then ((ddiref37_client.f k ((rd_T81 x671006 x3).f0)).bind fun t673 => (if t673 = true then ((ddiref37_usable.f k x671000 x671001 x671002 x671003 ((rd_T81 x671006 x3).f1.f0) ((rd_T81 x671006 x3).f1.f1) ((rd_T81 x671006 x3).f1.f2)).bind fun t674 => (if t674 = true then (ddiref37_checkReserved.l1 k x3 0 x671000 x671001 x671002 x671003 x671004 x671005 x671006 x671007 x671008 ((rd_T81 x671006 x3).f0) ((rd_T81 x671006 x3).f1.f0) ((rd_T81 x671006 x3).f1.f1) ((rd_T81 x671006 x3).f1.f2) ((rd_T81 x671006 x3).f2)) else (some 3))) else (some 9))) else (none)) else (some 0)
def ddiref37_checkReserved.l1 : Nat → Int → Int → Bool → Int → Int → Int → ByteArray → List (S75) → List (S81) → List (S59) → Int → ByteArray → Bool → Int → Int → ByteArray → Option (Int)
 | 0,_,_,_,_,_,_,_,_,_,_,_,_,_,_,_,_ => none
 | k + 1,x3,x5,x671000,x671001,x671002,x671003,x671004,x671005,x671006,x671007,x671008,x673000,x673001,x673002,x673003,x673004 => if x5 < x3 then (if 0 ≤ x5 then (if x5 < (x671006.length : Int) then (if ((rd_T81 x671006 x5).f0).toList = x673000.toList then (ddiref37_checkReserved.j2 k x3 x5 true x671000 x671001 x671002 x671003 x671004 x671005 x671006 x671007 x671008 x673000 x673001 x673002 x673003 x673004) else (ddiref37_checkReserved.j2 k x3 x5 (((rd_T81 x671006 x5).f1.f0) == x673001 && (((rd_T81 x671006 x5).f1.f1) == x673002 && (((rd_T81 x671006 x5).f1.f2) == x673003))) x671000 x671001 x671002 x671003 x671004 x671005 x671006 x671007 x671008 x673000 x673001 x673002 x673003 x673004)) else (none)) else (none)) else (if x673004.toList = ([] : List UInt8) then (ddiref37_checkReserved.j3 k x3 false x671000 x671001 x671002 x671003 x671004 x671005 x671006 x671007 x671008) else ((ddiref01_Valid.f k x673004).bind fun t677 => (ddiref37_checkReserved.j3 k x3 (!t677) x671000 x671001 x671002 x671003 x671004 x671005 x671006 x671007 x671008)))
def ddiref37_checkReserved.j2 : Nat → Int → Int → Bool → Bool → Int → Int → Int → ByteArray → List (S75) → List (S81) → List (S59) → Int → ByteArray → Bool → Int → Int → ByteArray → Option (Int)
 | 0,_,_,_,_,_,_,_,_,_,_,_,_,_,_,_,_,_ => none
 | k + 1,x3,x5,x52,x671000,x671001,x671002,x671003,x671004,x671005,x671006,x671007,x671008,x673000,x673001,x673002,x673003,x673004 => if x52 = true then (some 12) else (ddiref37_checkReserved.l1 k x3 (wrap64 (x5 + 1)) x671000 x671001 x671002 x671003 x671004 x671005 x671006 x671007 x671008 x673000 x673001 x673002 x673003 x673004)
def ddiref37_checkReserved.j3 : Nat → Int → Bool → Bool → Int → Int → Int → ByteArray → List (S75) → List (S81) → List (S59) → Int → Option (Int)
 | 0,_,_,_,_,_,_,_,_,_,_,_ => none
 | k + 1,x3,x61,x671000,x671001,x671002,x671003,x671004,x671005,x671006,x671007,x671008 => if x61 = true then (some 2) else (ddiref37_checkReserved.l0 k (wrap64 (x3 + 1)) x671000 x671001 x671002 x671003 x671004 x671005 x671006 x671007 x671008)
end
def ddiref37_checkReserved.f (k : Nat) (a0_0 : Bool) (a0_1 : Int) (a0_2 : Int) (a0_3 : Int) (a0_4 : ByteArray) (l0_5 : List (S75)) (l0_6 : List (S81)) (l0_7 : List (S59)) (a0_8 : Int) : Option (Int) := ddiref37_checkReserved.l0 k 0 a0_0 a0_1 a0_2 a0_3 a0_4 l0_5 l0_6 l0_7 a0_8
mutual
def ddiref37_Check.j0 : Nat → Bool → Bool → Int → Int → Int → ByteArray → List (S75) → List (S81) → List (S59) → Int → Option (Int)
 | 0,_,_,_,_,_,_,_,_,_,_ => none
 | k + 1,x19,x679000,x679001,x679002,x679003,x679004,x679005,x679006,x679007,x679008 => if x19 = true then (some 3) else (if (x679005.length : Int) > 16 then (ddiref37_Check.j1 k true x679000 x679001 x679002 x679003 x679004 x679005 x679006 x679007 x679008) else (ddiref37_Check.j1 k (decide ((x679006.length : Int) > 16)) x679000 x679001 x679002 x679003 x679004 x679005 x679006 x679007 x679008))
def ddiref37_Check.j1 : Nat → Bool → Bool → Int → Int → Int → ByteArray → List (S75) → List (S81) → List (S59) → Int → Option (Int)
 | 0,_,_,_,_,_,_,_,_,_,_ => none
 | k + 1,x29,x679000,x679001,x679002,x679003,x679004,x679005,x679006,x679007,x679008 => if x29 = true then (some 9) else ((ddiref37_checkPools.f k x679000 x679001 x679002 x679003 x679004 x679005 x679006 x679007 x679008).bind fun t680 => (if t680 = 0 then ((ddiref37_checkReserved.f k x679000 x679001 x679002 x679003 x679004 x679005 x679006 x679007 x679008).bind fun t681 => (if t681 = 0 then ((ddiref35_Valid.f k x679007).bind fun t682 => (if t682 = true then (if x679008 < 1 then (ddiref37_Check.j2 k true) else (if x679008 > 1073741824 then (ddiref37_Check.j2 k true) else (ddiref37_Check.j2 k (decide ((x679004.size : Int) > 255))))) else (ddiref37_Check.j2 k true))) else (some t681))) else (some t680)))
def ddiref37_Check.j2 : Nat → Bool → Option (Int)
 | 0,_ => none
 | k + 1,x59 => if x59 = true then (some 1) else (some 0)
end
def ddiref37_Check.f (k : Nat) (a0_0 : Bool) (a0_1 : Int) (a0_2 : Int) (a0_3 : Int) (a0_4 : ByteArray) (l0_5 : List (S75)) (l0_6 : List (S81)) (l0_7 : List (S59)) (a0_8 : Int) : Option (Int) := (ddiref03_Valid.f k a0_0 a0_1 a0_2 a0_3).bind fun t679 => (if t679 = true then (if a0_0 = true then (ddiref37_Check.j0 k true a0_0 a0_1 a0_2 a0_3 a0_4 l0_5 l0_6 l0_7 a0_8) else (ddiref37_Check.j0 k (decide (a0_3 > 30)) a0_0 a0_1 a0_2 a0_3 a0_4 l0_5 l0_6 l0_7 a0_8)) else (ddiref37_Check.j0 k true a0_0 a0_1 a0_2 a0_3 a0_4 l0_5 l0_6 l0_7 a0_8))
def ddiref03_Within.f (k : Nat) (a0_0 : Bool) (a0_1 : Int) (a0_2 : Int) (a0_3 : Int) (a1_0 : Bool) (a1_1 : Int) (a1_2 : Int) (a1_3 : Int) : Option (Bool) := (ddiref03_Valid.f k a0_0 a0_1 a0_2 a0_3).bind fun t685 => (if t685 = true then (if a0_3 ≥ a1_3 then ((ddiref03_Contains.f k a1_0 a1_1 a1_2 a1_3 a0_0 a0_1 a0_2).bind fun t686 => (some t686)) else (some false)) else (some false))
def ddiref03_Overlap.f (k : Nat) (a0_0 : Bool) (a0_1 : Int) (a0_2 : Int) (a0_3 : Int) (a1_0 : Bool) (a1_1 : Int) (a1_2 : Int) (a1_3 : Int) : Option (Bool) := (ddiref03_Within.f k a0_0 a0_1 a0_2 a0_3 a1_0 a1_1 a1_2 a1_3).bind fun t689 => (if t689 = true then (some true) else ((ddiref03_Within.f k a1_0 a1_1 a1_2 a1_3 a0_0 a0_1 a0_2 a0_3).bind fun t690 => (some t690)))
mutual
def ddiref39_Check.l0 : Nat → List (S49) → Int → Option (Int)
 | 0,_,_ => none
 | k + 1,x0,x3 => if x3 < (x0.length : Int) then (if 0 ≤ x3 then ((ddiref37_Check.f k ((rd_T49 x0 x3).f0.f0.f0) ((rd_T49 x0 x3).f0.f0.f1) ((rd_T49 x0 x3).f0.f0.f2) ((rd_T49 x0 x3).f0.f1) ((rd_T49 x0 x3).f1) ((rd_T49 x0 x3).f2) ((rd_T49 x0 x3).f3) ((rd_T49 x0 x3).f4) ((rd_T49 x0 x3).f5)).bind fun t692 => (if t692 = 0 then (ddiref39_Check.l0 k x0 (wrap64 (x3 + 1))) else (some t692))) else (none)) else (ddiref39_Check.l1 k x0 0)
def ddiref39_Check.l1 : Nat → List (S49) → Int → Option (Int)
 | 0,_,_ => none
 | k + 1,x0,x5 => if x5 < (x0.length : Int) then (ddiref39_Check.l2 k x0 x5 0) else (some 0)
def ddiref39_Check.l2 : Nat → List (S49) → Int → Int → Option (Int)
 | 0,_,_,_ => none
 | k + 1,x0,x5,x6 => if x6 < x5 then (if 0 ≤ x6 then (if x6 < (x0.length : Int) then (if 0 ≤ x5 then (if x5 < (x0.length : Int) then ((ddiref03_Overlap.f k ((rd_T49 x0 x6).f0.f0.f0) ((rd_T49 x0 x6).f0.f0.f1) ((rd_T49 x0 x6).f0.f0.f2) ((rd_T49 x0 x6).f0.f1) ((rd_T49 x0 x5).f0.f0.f0) ((rd_T49 x0 x5).f0.f0.f1) ((rd_T49 x0 x5).f0.f0.f2) ((rd_T49 x0 x5).f0.f1)).bind fun t695 => (if t695 = true then (some 24) else (ddiref39_Check.l2 k x0 x5 (wrap64 (x6 + 1))))) else (none)) else (none)) else (none)) else (none)) else (ddiref39_Check.l1 k x0 (wrap64 (x5 + 1)))
end
def ddiref39_Check.f (k : Nat) (l0 : List (S49)) : Option (Int) := if (l0.length : Int) > 16 then (some 9) else (ddiref39_Check.l0 k l0 0)
def ddilaw39_RelayChecks.f (k : Nat) (l0 : List (S49)) : Option (Bool) := (ddilaw39_few.f k l0).bind fun t696 => ((relay_Check.f k t696).bind fun t699 => ((ddiref39_Check.f k t696).bind fun t700 => (if t699 = t700 then ((ddilaw39_awake.f k).bind fun t701 => (some t701)) else (some false))))
/-- THE ONE PURE STATEMENT of ddilaw39_RelayChecks: ours. -/
def ddilaw39_RelayChecks.Pure : Prop := ∀ (l0 : List (S49)),(l0.length * 128 ≤ 140737488351232 ∧ l0.length ≤ maxLen ∧ ∀ y0_ ∈ l0,okS49 y0_) → ∃ k,ddilaw39_RelayChecks.f k l0 = some true
end Go.Proofs.YtngfffoeaghhhaaDoor.QA
