import Derived.Test.YtpcjablkjaiapaaDoorQAd2
namespace Go.Proofs.YtpcjablkjaiapaaDoor.QA
open Go.RowKit Go.Proofs.YtpcjablkjaiapaaDoorW.PrintWords Go.Proofs.YtpcjablkjaiapaaDoorW.PrintLast Go.Proofs.YtpcjablkjaiapaaDoorW.PrintMore
set_option linter.unusedVariables false
def pool_At.l0 : Nat → List (S53) → Int → Int → Bool → Int → Int → Option (ByteArray × Bool × Int × Int × ByteArray × Bool)
 | 0,_,_,_,_,_,_ => none
 | k + 1,x9,x10,x11,x344000,x344001,x344002 => if x11 < x10 then (if 0 ≤ x11 then (if x11 < (x9.length : Int) then (if (((rd_T53 x9 x11).f1.f0) == x344000 && (((rd_T53 x9 x11).f1.f1) == x344001 && (((rd_T53 x9 x11).f1.f2) == x344002))) = true then (some ((rd_T53 x9 x11).f0,(rd_T53 x9 x11).f1.f0,(rd_T53 x9 x11).f1.f1,(rd_T53 x9 x11).f1.f2,(rd_T53 x9 x11).f2,true)) else (pool_At.l0 k x9 x10 (wrap64 (x11 + 1)) x344000 x344001 x344002)) else (none)) else (none)) else (some ((⟨#[]⟩ : ByteArray),false,0,0,(⟨#[]⟩ : ByteArray),false))
def pool_At.f (k : Nat) (a0_0 : Bool) (a0_1 : Int) (a0_2 : Int) (a0_3 : Int) (a0_4 : ByteArray) (l0_5 : List (S57)) (l0_6 : List (S53)) (l0_7 : List (S83)) (a0_8 : Int) (a1_0 : Bool) (a1_1 : Int) (a1_2 : Int) : Option (ByteArray × Bool × Int × Int × ByteArray × Bool) := pool_At.l0 k l0_6 (l0_6.length : Int) 0 a1_0 a1_1 a1_2
theorem pool_At.mono_l : ∀ k,(∀ y0 y1 y2 y3 y4 y5,LeO (pool_At.l0 k y0 y1 y2 y3 y4 y5) (pool_At.l0 (k + 1) y0 y1 y2 y3 y4 y5))
 | 0 => fun _ _ _ _ _ _ r h => by simp [pool_At.l0] at h
 | k + 1 => by
  have ih0 := pool_At.mono_l k
  ·intro y0 y1 y2 y3 y4 y5
   unfold pool_At.l0
   repeat' first
   | (with_reducible exact ih0 _ _ _ _ _ _)
   | (with_reducible exact LeO.refl _)
   | (with_reducible exact LeO.none _)
   | (with_reducible refine LeO.ite ?_ ?_)
   | (with_reducible refine LeO.bind ?_ (fun _ => ?_))
theorem pool_At.mono : ∀ a0 a1 a2 a3 a4 a5 a6 a7 a8 a9 a10 a11 k,LeO (pool_At.f k a0 a1 a2 a3 a4 a5 a6 a7 a8 a9 a10 a11) (pool_At.f (k + 1) a0 a1 a2 a3 a4 a5 a6 a7 a8 a9 a10 a11) := by
 intro a0 a1 a2 a3 a4 a5 a6 a7 a8 a9 a10 a11 k
 have ih0 := pool_At.mono_l k
 unfold pool_At.f
 repeat' first
   | (with_reducible exact ih0 _ _ _ _ _ _)
   | (with_reducible exact LeO.refl _)
   | (with_reducible exact LeO.none _)
   | (with_reducible refine LeO.ite ?_ ?_)
   | (with_reducible refine LeO.bind ?_ (fun _ => ?_))
def bits_Sub64.f (a0 : Int) (a1 : Int) (a2 : Int) : Option (Int × Int) := XC.sub64 a0 a1 a2
mutual
def addr_Sub.j0 : Nat → Bool → Bool → Int → Int → Bool → Int → Int → Option (Int × Bool)
 | 0,_,_,_,_,_,_,_ => none
 | k + 1,x24,x348000,x348001,x348002,x349000,x349001,x349002 => if x24 = true then (some (0,false)) else ((bits_Sub64.f x348002 x349002 0).bind fun bt351 => ((bits_Sub64.f x348001 x349001 bt351.2).bind fun bt353 => (if bt353.2 = 0 then (addr_Sub.j1 k bt351.1 (bt353.1 != 0)) else (addr_Sub.j1 k bt351.1 true))))
def addr_Sub.j1 : Nat → Int → Bool → Option (Int × Bool)
 | 0,_,_ => none
 | k + 1,x6,x47 => if x47 = true then (some (0,false)) else (some (x6,true))
end
def addr_Sub.f (k : Nat) (a0_0 : Bool) (a0_1 : Int) (a0_2 : Int) (a1_0 : Bool) (a1_1 : Int) (a1_2 : Int) : Option (Int × Bool) := (addr_Valid.f a0_0 a0_1 a0_2).bind fun t349 => (if t349 = true then ((addr_Valid.f a1_0 a1_1 a1_2).bind fun t350 => (if t350 = true then (addr_Sub.j0 k (a0_0 != a1_0) a0_0 a0_1 a0_2 a1_0 a1_1 a1_2) else (addr_Sub.j0 k true a0_0 a0_1 a0_2 a1_0 a1_1 a1_2))) else (addr_Sub.j0 k true a0_0 a0_1 a0_2 a1_0 a1_1 a1_2))
theorem addr_Sub.mono_l : ∀ k,(∀ y0 y1 y2 y3 y4 y5 y6,LeO (addr_Sub.j0 k y0 y1 y2 y3 y4 y5 y6) (addr_Sub.j0 (k + 1) y0 y1 y2 y3 y4 y5 y6)) ∧ (∀ y0 y1,LeO (addr_Sub.j1 k y0 y1) (addr_Sub.j1 (k + 1) y0 y1))
 | 0 => ⟨fun _ _ _ _ _ _ _ r h => by simp [addr_Sub.j0] at h,fun _ _ r h => by simp [addr_Sub.j1] at h⟩
 | k + 1 => by
  obtain ⟨ih0,ih1⟩ := addr_Sub.mono_l k
  refine ⟨?_,?_⟩
  ·intro y0 y1 y2 y3 y4 y5 y6
   unfold addr_Sub.j0
   repeat' first
   | (with_reducible exact ih0 _ _ _ _ _ _ _)
   | (with_reducible exact ih1 _ _)
   | (with_reducible exact LeO.refl _)
   | (with_reducible exact LeO.none _)
   | (with_reducible refine LeO.ite ?_ ?_)
   | (with_reducible refine LeO.bind ?_ (fun _ => ?_))
  ·intro y0 y1
   unfold addr_Sub.j1
   repeat' first
   | (with_reducible exact ih0 _ _ _ _ _ _ _)
   | (with_reducible exact ih1 _ _)
   | (with_reducible exact LeO.refl _)
   | (with_reducible exact LeO.none _)
   | (with_reducible refine LeO.ite ?_ ?_)
   | (with_reducible refine LeO.bind ?_ (fun _ => ?_))
theorem addr_Sub.mono : ∀ a0 a1 a2 a3 a4 a5 k,LeO (addr_Sub.f k a0 a1 a2 a3 a4 a5) (addr_Sub.f (k + 1) a0 a1 a2 a3 a4 a5) := by
 intro a0 a1 a2 a3 a4 a5 k
 obtain ⟨ih0,ih1⟩ := addr_Sub.mono_l k
 unfold addr_Sub.f
 repeat' first
   | (with_reducible exact ih0 _ _ _ _ _ _ _)
   | (with_reducible exact ih1 _ _)
   | (with_reducible exact LeO.refl _)
   | (with_reducible exact LeO.none _)
   | (with_reducible refine LeO.ite ?_ ?_)
   | (with_reducible refine LeO.bind ?_ (fun _ => ?_))
def bits_Add64.f (a0 : Int) (a1 : Int) (a2 : Int) : Option (Int × Int) := XC.add64 a0 a1 a2
def addr_Add.j0 : Nat → Bool → Bool → Int → Int → Option (Bool × Int × Int × Bool)
 | 0,_,_,_,_ => none
 | k + 1,x40,x363000,x363001,x363002 => if x40 = true then (some (false,0,0,false)) else (some (x363000,x363001,x363002,true))
def addr_Add.f (k : Nat) (a0_0 : Bool) (a0_1 : Int) (a0_2 : Int) (a1 : Int) : Option (Bool × Int × Int × Bool) := (addr_Valid.f a0_0 a0_1 a0_2).bind fun t357 => (if t357 = true then ((bits_Add64.f a0_2 a1 0).bind fun bt358 => ((bits_Add64.f a0_1 0 bt358.2).bind fun bt360 => (if bt360.2 = 0 then ((addr_Valid.f a0_0 bt360.1 bt358.1).bind fun t363 => (addr_Add.j0 k (!t363) a0_0 bt360.1 bt358.1)) else (addr_Add.j0 k true a0_0 bt360.1 bt358.1)))) else (some (false,0,0,false)))
theorem addr_Add.mono_l : ∀ k,(∀ y0 y1 y2 y3,LeO (addr_Add.j0 k y0 y1 y2 y3) (addr_Add.j0 (k + 1) y0 y1 y2 y3))
 | 0 => fun _ _ _ _ r h => by simp [addr_Add.j0] at h
 | k + 1 => by
  have ih0 := addr_Add.mono_l k
  ·intro y0 y1 y2 y3
   unfold addr_Add.j0
   repeat' first
   | (with_reducible exact ih0 _ _ _ _)
   | (with_reducible exact LeO.refl _)
   | (with_reducible exact LeO.none _)
   | (with_reducible refine LeO.ite ?_ ?_)
   | (with_reducible refine LeO.bind ?_ (fun _ => ?_))
theorem addr_Add.mono : ∀ a0 a1 a2 a3 k,LeO (addr_Add.f k a0 a1 a2 a3) (addr_Add.f (k + 1) a0 a1 a2 a3) := by
 intro a0 a1 a2 a3 k
 have ih0 := addr_Add.mono_l k
 unfold addr_Add.f
 repeat' first
   | (with_reducible exact ih0 _ _ _ _)
   | (with_reducible exact LeO.refl _)
   | (with_reducible exact LeO.none _)
   | (with_reducible refine LeO.ite ?_ ?_)
   | (with_reducible refine LeO.bind ?_ (fun _ => ?_))
def failover_part.f (k : Nat) (a0 : Bool) (a1_0 : Bool) (a1_1 : Int) (a1_2 : Int) (a1_3 : Bool) (a1_4 : Int) (a1_5 : Int) : Option (Bool × Int × Int × Bool × Int × Int × Bool) := (addr_Sub.f k a1_3 a1_4 a1_5 a1_0 a1_1 a1_2).bind fun bt366 => (if bt366.2 = true then (if a0 = true then ((addr_Add.f k a1_0 a1_1 a1_2 (IntKind.u64.wrap ((IntKind.u64.wrap ((IntKind.u64.wrap (Int.tdiv bt366.1 2)) + 1)) - 1))).bind fun bt368 => (some (a1_0,a1_1,a1_2,bt368.1,bt368.2.1,bt368.2.2.1,true))) else (if (IntKind.u64.wrap ((IntKind.u64.wrap (Int.tdiv bt366.1 2)) + 1)) > bt366.1 then (some (false,0,0,false,0,0,false)) else ((addr_Add.f k a1_0 a1_1 a1_2 (IntKind.u64.wrap ((IntKind.u64.wrap (Int.tdiv bt366.1 2)) + 1))).bind fun bt373 => (some (bt373.1,bt373.2.1,bt373.2.2.1,a1_3,a1_4,a1_5,true))))) else (some (false,0,0,false,0,0,false)))
theorem failover_part.mono : ∀ a0 a1 a2 a3 a4 a5 a6 k,LeO (failover_part.f k a0 a1 a2 a3 a4 a5 a6) (failover_part.f (k + 1) a0 a1 a2 a3 a4 a5 a6) := by
 intro a0 a1 a2 a3 a4 a5 a6 k
 unfold failover_part.f
 repeat' first
   | (with_reducible exact addr_Add.mono _ _ _ _ _)
   | (with_reducible exact addr_Sub.mono _ _ _ _ _ _ _)
   | (with_reducible exact LeO.refl _)
   | (with_reducible exact LeO.none _)
   | (with_reducible refine LeO.ite ?_ ?_)
   | (with_reducible refine LeO.bind ?_ (fun _ => ?_))
def failover_parts.l0 : Nat → List (S57) → List (S57) → Int → Int → Bool → Int → Int → Int → Option ((List (S57)))
 | 0,_,_,_,_,_,_,_,_ => none
 | k + 1,x5,x11,x12,x13,x379000,x379001,x379002,x379003 => if x13 < x12 then (if 0 ≤ x13 then (if x13 < (x11.length : Int) then ((failover_part.f k x379000 ((rd_T57 x11 x13).f0.f0) ((rd_T57 x11 x13).f0.f1) ((rd_T57 x11 x13).f0.f2) ((rd_T57 x11 x13).f1.f0) ((rd_T57 x11 x13).f1.f1) ((rd_T57 x11 x13).f1.f2)).bind fun bt382 => (if bt382.2.2.2.2.2.2 = true then (if x5.length < 2932031007402 then (failover_parts.l0 k (x5 ++ [(⟨(⟨bt382.1,bt382.2.1,bt382.2.2.1⟩ : S25),(⟨bt382.2.2.2.1,bt382.2.2.2.2.1,bt382.2.2.2.2.2.1⟩ : S25)⟩ : S57)]) x11 x12 (wrap64 (x13 + 1)) x379000 x379001 x379002 x379003) else (none)) else (failover_parts.l0 k x5 x11 x12 (wrap64 (x13 + 1)) x379000 x379001 x379002 x379003))) else (none)) else (none)) else (some x5)
def failover_parts.f (k : Nat) (a0_0 : Bool) (a0_1 : Int) (a0_2 : Int) (a0_3 : Int) (a1_0 : Bool) (a1_1 : Int) (a1_2 : Int) (a1_3 : Int) (a1_4 : ByteArray) (l1_5 : List (S57)) (l1_6 : List (S53)) (l1_7 : List (S83)) (a1_8 : Int) : Option ((List (S57))) := failover_parts.l0 k ([] : List (S57)) l1_5 (l1_5.length : Int) 0 a0_0 a0_1 a0_2 a0_3
theorem failover_parts.mono_l : ∀ k,(∀ y0 y1 y2 y3 y4 y5 y6 y7,LeO (failover_parts.l0 k y0 y1 y2 y3 y4 y5 y6 y7) (failover_parts.l0 (k + 1) y0 y1 y2 y3 y4 y5 y6 y7))
 | 0 => fun _ _ _ _ _ _ _ _ r h => by simp [failover_parts.l0] at h
 | k + 1 => by
  have ih0 := failover_parts.mono_l k
  ·intro y0 y1 y2 y3 y4 y5 y6 y7
   unfold failover_parts.l0
   repeat' first
   | (with_reducible exact ih0 _ _ _ _ _ _ _ _)
   | (with_reducible exact failover_part.mono _ _ _ _ _ _ _ _)
   | (with_reducible exact LeO.refl _)
   | (with_reducible exact LeO.none _)
   | (with_reducible refine LeO.ite ?_ ?_)
   | (with_reducible refine LeO.bind ?_ (fun _ => ?_))
theorem failover_parts.mono : ∀ a0 a1 a2 a3 a4 a5 a6 a7 a8 a9 a10 a11 a12 k,LeO (failover_parts.f k a0 a1 a2 a3 a4 a5 a6 a7 a8 a9 a10 a11 a12) (failover_parts.f (k + 1) a0 a1 a2 a3 a4 a5 a6 a7 a8 a9 a10 a11 a12) := by
 intro a0 a1 a2 a3 a4 a5 a6 a7 a8 a9 a10 a11 a12 k
 have ih0 := failover_parts.mono_l k
 unfold failover_parts.f
 repeat' first
   | (with_reducible exact ih0 _ _ _ _ _ _ _ _)
   | (with_reducible exact failover_part.mono _ _ _ _ _ _ _ _)
   | (with_reducible exact LeO.refl _)
   | (with_reducible exact LeO.none _)
   | (with_reducible refine LeO.ite ?_ ?_)
   | (with_reducible refine LeO.bind ?_ (fun _ => ?_))
def slices_Clone_76.f (l0 : List (S83)) : Option (List (S83)) := if l0.length * 24 ≤ 140737488355328 then some l0 else none
def slices_Index.l0 : Nat → List Int → Int → Int → Int → Option (Int)
 | 0,_,_,_,_ => none
 | k + 1,x0,x1,x7,x8 => if x8 < x7 then (if 0 ≤ x8 then (if x8 < (x0.length : Int) then (if x1 = (rd x0 x8) then (some x8) else (slices_Index.l0 k x0 x1 x7 (wrap64 (x8 + 1)))) else (none)) else (none)) else (some (-1))
def slices_Index.f (k : Nat) (l0 : List Int) (a1 : Int) : Option (Int) := slices_Index.l0 k l0 a1 (l0.length : Int) 0
theorem slices_Index.mono_l : ∀ k,(∀ y0 y1 y2 y3,LeO (slices_Index.l0 k y0 y1 y2 y3) (slices_Index.l0 (k + 1) y0 y1 y2 y3))
 | 0 => fun _ _ _ _ r h => by simp [slices_Index.l0] at h
 | k + 1 => by
  have ih0 := slices_Index.mono_l k
  ·intro y0 y1 y2 y3
   unfold slices_Index.l0
   repeat' first
   | (with_reducible exact ih0 _ _ _ _)
   | (with_reducible exact LeO.refl _)
   | (with_reducible exact LeO.none _)
   | (with_reducible refine LeO.ite ?_ ?_)
   | (with_reducible refine LeO.bind ?_ (fun _ => ?_))
theorem slices_Index.mono : ∀ a0 a1 k,LeO (slices_Index.f k a0 a1) (slices_Index.f (k + 1) a0 a1) := by
 intro a0 a1 k
 have ih0 := slices_Index.mono_l k
 unfold slices_Index.f
 repeat' first
   | (with_reducible exact ih0 _ _ _ _)
   | (with_reducible exact LeO.refl _)
   | (with_reducible exact LeO.none _)
   | (with_reducible refine LeO.ite ?_ ?_)
   | (with_reducible refine LeO.bind ?_ (fun _ => ?_))
def slices_Contains.f (k : Nat) (l0 : List Int) (a1 : Int) : Option (Bool) := (slices_Index.f k l0 a1).bind fun t394 => (some (decide (t394 ≥ 0)))
theorem slices_Contains.mono : ∀ a0 a1 k,LeO (slices_Contains.f k a0 a1) (slices_Contains.f (k + 1) a0 a1) := by
 intro a0 a1 k
 unfold slices_Contains.f
 repeat' first
   | (with_reducible exact slices_Index.mono _ _ _)
   | (with_reducible exact LeO.refl _)
   | (with_reducible exact LeO.none _)
   | (with_reducible refine LeO.ite ?_ ?_)
   | (with_reducible refine LeO.bind ?_ (fun _ => ?_))
def failover_is.f (k : Nat) (a0_0 : Bool) (a0_1 : Int) (a0_2 : Int) (a0_3 : Int) (l1 : List Int) : Option (Bool) := (failover_state.f k a0_0 a0_1 a0_2 a0_3).bind fun t396 => ((slices_Contains.f k l1 t396).bind fun t397 => (some t397))
theorem failover_is.mono : ∀ a0 a1 a2 a3 a4 k,LeO (failover_is.f k a0 a1 a2 a3 a4) (failover_is.f (k + 1) a0 a1 a2 a3 a4) := by
 intro a0 a1 a2 a3 a4 k
 unfold failover_is.f
 repeat' first
   | (with_reducible exact failover_state.mono _ _ _ _ _)
   | (with_reducible exact slices_Contains.mono _ _ _)
   | (with_reducible exact LeO.refl _)
   | (with_reducible exact LeO.none _)
   | (with_reducible refine LeO.ite ?_ ?_)
   | (with_reducible refine LeO.bind ?_ (fun _ => ?_))
def slices_Clone_78.f (l0 : List (S57)) : Option (List (S57)) := if l0.length * 48 ≤ 140737488355328 then some l0 else none
def slices_Clone_79.f (l0 : List (S53)) : Option (List (S53)) := if l0.length * 56 ≤ 140737488355328 then some l0 else none
mutual
def failover_Share.j1 : Nat → Bool → Int → Int → Int → ByteArray → List (S57) → List (S53) → List (S83) → Int → Option (Bool × Int × Int × Int × ByteArray × (List (S57)) × (List (S53)) × (List (S83)) × Int)
 | 0,_,_,_,_,_,_,_,_,_ => none
 | k + 1,x400000,x400001,x400002,x400003,x400004,x400005,x400006,x400007,x400008 => (slices_Clone_79.f x400006).bind fun t418 => (some (x400000,x400001,x400002,x400003,x400004,x400005,t418,x400007,x400008))
def failover_Share.j0 : Nat → Bool → Bool → Int → Int → Int → Bool → Int → Int → Int → ByteArray → List (S57) → List (S53) → List (S83) → Int → Option (Bool × Int × Int × Int × ByteArray × (List (S57)) × (List (S53)) × (List (S83)) × Int)
 | 0,_,_,_,_,_,_,_,_,_,_,_,_,_,_ => none
 | k + 1,x22,x399000,x399001,x399002,x399003,x400000,x400001,x400002,x400003,x400004,x400005,x400006,x400007,x400008 => if x22 = true then ((slices_Clone_78.f x400005).bind fun t412 => (failover_Share.j1 k x400000 x400001 x400002 x400003 x400004 t412 x400006 x400007 x400008)) else ((failover_parts.f k x399000 x399001 x399002 x399003 x400000 x400001 x400002 x400003 x400004 x400005 x400006 x400007 x400008).bind fun t415 => (failover_Share.j1 k x400000 x400001 x400002 x400003 x400004 t415 x400006 x400007 x400008))
end
def failover_Share.f (k : Nat) (a0_0 : Bool) (a0_1 : Int) (a0_2 : Int) (a0_3 : Int) (a1_0 : Bool) (a1_1 : Int) (a1_2 : Int) (a1_3 : Int) (a1_4 : ByteArray) (l1_5 : List (S57)) (l1_6 : List (S53)) (l1_7 : List (S83)) (a1_8 : Int) (a2 : Int) : Option (Bool × Int × Int × Int × ByteArray × (List (S57)) × (List (S53)) × (List (S83)) × Int) := (slices_Clone_76.f l1_7).bind fun t401 => ((failover_is.f k a0_0 a0_1 a0_2 a0_3 (([0,4] : List Int))).bind fun t407 => (if t407 = true then (some (a1_0,a1_1,a1_2,a1_3,a1_4,([] : List (S57)),([] : List (S53)),t401,a1_8)) else ((failover_is.f k a0_0 a0_1 a0_2 a0_3 (([3] : List Int))).bind fun t411 => (if t411 = true then (failover_Share.j0 k (decide (a2 ≥ a0_2)) a0_0 a0_1 a0_2 a0_3 a1_0 a1_1 a1_2 a1_3 a1_4 l1_5 l1_6 t401 a1_8) else (failover_Share.j0 k false a0_0 a0_1 a0_2 a0_3 a1_0 a1_1 a1_2 a1_3 a1_4 l1_5 l1_6 t401 a1_8)))))
theorem failover_Share.mono_l : ∀ k,(∀ y0 y1 y2 y3 y4 y5 y6 y7 y8,LeO (failover_Share.j1 k y0 y1 y2 y3 y4 y5 y6 y7 y8) (failover_Share.j1 (k + 1) y0 y1 y2 y3 y4 y5 y6 y7 y8)) ∧ (∀ y0 y1 y2 y3 y4 y5 y6 y7 y8 y9 y10 y11 y12 y13,LeO (failover_Share.j0 k y0 y1 y2 y3 y4 y5 y6 y7 y8 y9 y10 y11 y12 y13) (failover_Share.j0 (k + 1) y0 y1 y2 y3 y4 y5 y6 y7 y8 y9 y10 y11 y12 y13))
 | 0 => ⟨fun _ _ _ _ _ _ _ _ _ r h => by simp [failover_Share.j1] at h,fun _ _ _ _ _ _ _ _ _ _ _ _ _ _ r h => by simp [failover_Share.j0] at h⟩
 | k + 1 => by
  obtain ⟨ih0,ih1⟩ := failover_Share.mono_l k
  refine ⟨?_,?_⟩
  ·intro y0 y1 y2 y3 y4 y5 y6 y7 y8
   unfold failover_Share.j1
   repeat' first
   | (with_reducible exact ih0 _ _ _ _ _ _ _ _ _)
   | (with_reducible exact ih1 _ _ _ _ _ _ _ _ _ _ _ _ _ _)
   | (with_reducible exact failover_is.mono _ _ _ _ _ _)
   | (with_reducible exact failover_parts.mono _ _ _ _ _ _ _ _ _ _ _ _ _ _)
   | (with_reducible exact LeO.refl _)
   | (with_reducible exact LeO.none _)
   | (with_reducible refine LeO.ite ?_ ?_)
   | (with_reducible refine LeO.bind ?_ (fun _ => ?_))
  ·intro y0 y1 y2 y3 y4 y5 y6 y7 y8 y9 y10 y11 y12 y13
   unfold failover_Share.j0
   repeat' first
   | (with_reducible exact ih0 _ _ _ _ _ _ _ _ _)
   | (with_reducible exact ih1 _ _ _ _ _ _ _ _ _ _ _ _ _ _)
   | (with_reducible exact failover_is.mono _ _ _ _ _ _)
   | (with_reducible exact failover_parts.mono _ _ _ _ _ _ _ _ _ _ _ _ _ _)
   | (with_reducible exact LeO.refl _)
   | (with_reducible exact LeO.none _)
   | (with_reducible refine LeO.ite ?_ ?_)
   | (with_reducible refine LeO.bind ?_ (fun _ => ?_))
theorem failover_Share.mono : ∀ a0 a1 a2 a3 a4 a5 a6 a7 a8 a9 a10 a11 a12 a13 k,LeO (failover_Share.f k a0 a1 a2 a3 a4 a5 a6 a7 a8 a9 a10 a11 a12 a13) (failover_Share.f (k + 1) a0 a1 a2 a3 a4 a5 a6 a7 a8 a9 a10 a11 a12 a13) := by
 intro a0 a1 a2 a3 a4 a5 a6 a7 a8 a9 a10 a11 a12 a13 k
 obtain ⟨ih0,ih1⟩ := failover_Share.mono_l k
 unfold failover_Share.f
 repeat' first
   | (with_reducible exact ih0 _ _ _ _ _ _ _ _ _)
   | (with_reducible exact ih1 _ _ _ _ _ _ _ _ _ _ _ _ _ _)
   | (with_reducible exact failover_is.mono _ _ _ _ _ _)
   | (with_reducible exact failover_parts.mono _ _ _ _ _ _ _ _ _ _ _ _ _ _)
   | (with_reducible exact LeO.refl _)
   | (with_reducible exact LeO.none _)
   | (with_reducible refine LeO.ite ?_ ?_)
   | (with_reducible refine LeO.bind ?_ (fun _ => ?_))
def pool_in.f (k : Nat) (a0_0 : Bool) (a0_1 : Int) (a0_2 : Int) (a0_3 : Bool) (a0_4 : Int) (a0_5 : Int) (a1_0 : Bool) (a1_1 : Int) (a1_2 : Int) : Option (Bool) := (addr_Compare.f k a0_0 a0_1 a0_2 a1_0 a1_1 a1_2).bind fun t423 => (if t423 ≤ 0 then ((addr_Compare.f k a1_0 a1_1 a1_2 a0_3 a0_4 a0_5).bind fun t424 => (some (decide (t424 ≤ 0)))) else (some false))
theorem pool_in.mono : ∀ a0 a1 a2 a3 a4 a5 a6 a7 a8 k,LeO (pool_in.f k a0 a1 a2 a3 a4 a5 a6 a7 a8) (pool_in.f (k + 1) a0 a1 a2 a3 a4 a5 a6 a7 a8) := by
 intro a0 a1 a2 a3 a4 a5 a6 a7 a8 k
 unfold pool_in.f
 repeat' first
   | (with_reducible exact addr_Compare.mono _ _ _ _ _ _ _)
   | (with_reducible exact LeO.refl _)
   | (with_reducible exact LeO.none _)
   | (with_reducible refine LeO.ite ?_ ?_)
   | (with_reducible refine LeO.bind ?_ (fun _ => ?_))
def pool_Has_1.f (k : Nat) (a0_0 : Bool) (a0_1 : Int) (a0_2 : Int) (a0_3 : Bool) (a0_4 : Int) (a0_5 : Int) (a1_0 : Bool) (a1_1 : Int) (a1_2 : Int) : Option (Bool) := (pool_in.f k a0_0 a0_1 a0_2 a0_3 a0_4 a0_5 a1_0 a1_1 a1_2).bind fun t426 => (some t426)
theorem pool_Has_1.mono : ∀ a0 a1 a2 a3 a4 a5 a6 a7 a8 k,LeO (pool_Has_1.f k a0 a1 a2 a3 a4 a5 a6 a7 a8) (pool_Has_1.f (k + 1) a0 a1 a2 a3 a4 a5 a6 a7 a8) := by
 intro a0 a1 a2 a3 a4 a5 a6 a7 a8 k
 unfold pool_Has_1.f
 repeat' first
   | (with_reducible exact pool_in.mono _ _ _ _ _ _ _ _ _ _)
   | (with_reducible exact LeO.refl _)
   | (with_reducible exact LeO.none _)
   | (with_reducible refine LeO.ite ?_ ?_)
   | (with_reducible refine LeO.bind ?_ (fun _ => ?_))
def slices_IndexFunc_80.l0 : Nat → List (S57) → Int → Int → Bool → Int → Int → Option (Int)
 | 0,_,_,_,_,_,_ => none
 | k + 1,x0,x7,x8,x700101000,x700101001,x700101002 => if x8 < x7 then (if 0 ≤ x8 then (if x8 < (x0.length : Int) then ((pool_Has_1.f k ((rd_T57 x0 x8).f0.f0) ((rd_T57 x0 x8).f0.f1) ((rd_T57 x0 x8).f0.f2) ((rd_T57 x0 x8).f1.f0) ((rd_T57 x0 x8).f1.f1) ((rd_T57 x0 x8).f1.f2) x700101000 x700101001 x700101002).bind fun t428 => (if t428 = true then (some x8) else (slices_IndexFunc_80.l0 k x0 x7 (wrap64 (x8 + 1)) x700101000 x700101001 x700101002))) else (none)) else (none)) else (some (-1))
def slices_IndexFunc_80.f (k : Nat) (l0 : List (S57)) (a1_0 : Bool) (a1_1 : Int) (a1_2 : Int) : Option (Int) := slices_IndexFunc_80.l0 k l0 (l0.length : Int) 0 a1_0 a1_1 a1_2
theorem slices_IndexFunc_80.mono_l : ∀ k,(∀ y0 y1 y2 y3 y4 y5,LeO (slices_IndexFunc_80.l0 k y0 y1 y2 y3 y4 y5) (slices_IndexFunc_80.l0 (k + 1) y0 y1 y2 y3 y4 y5))
 | 0 => fun _ _ _ _ _ _ r h => by simp [slices_IndexFunc_80.l0] at h
 | k + 1 => by
  have ih0 := slices_IndexFunc_80.mono_l k
  ·intro y0 y1 y2 y3 y4 y5
   unfold slices_IndexFunc_80.l0
   repeat' first
   | (with_reducible exact ih0 _ _ _ _ _ _)
   | (with_reducible exact pool_Has_1.mono _ _ _ _ _ _ _ _ _ _)
   | (with_reducible exact LeO.refl _)
   | (with_reducible exact LeO.none _)
   | (with_reducible refine LeO.ite ?_ ?_)
   | (with_reducible refine LeO.bind ?_ (fun _ => ?_))
theorem slices_IndexFunc_80.mono : ∀ a0 a1 a2 a3 k,LeO (slices_IndexFunc_80.f k a0 a1 a2 a3) (slices_IndexFunc_80.f (k + 1) a0 a1 a2 a3) := by
 intro a0 a1 a2 a3 k
 have ih0 := slices_IndexFunc_80.mono_l k
 unfold slices_IndexFunc_80.f
 repeat' first
   | (with_reducible exact ih0 _ _ _ _ _ _)
   | (with_reducible exact pool_Has_1.mono _ _ _ _ _ _ _ _ _ _)
   | (with_reducible exact LeO.refl _)
   | (with_reducible exact LeO.none _)
   | (with_reducible refine LeO.ite ?_ ?_)
   | (with_reducible refine LeO.bind ?_ (fun _ => ?_))
def slices_ContainsFunc_80.f (k : Nat) (l0 : List (S57)) (a1_0 : Bool) (a1_1 : Int) (a1_2 : Int) : Option (Bool) := (slices_IndexFunc_80.f k l0 a1_0 a1_1 a1_2).bind fun t429 => (some (decide (t429 ≥ 0)))
theorem slices_ContainsFunc_80.mono : ∀ a0 a1 a2 a3 k,LeO (slices_ContainsFunc_80.f k a0 a1 a2 a3) (slices_ContainsFunc_80.f (k + 1) a0 a1 a2 a3) := by
 intro a0 a1 a2 a3 k
 unfold slices_ContainsFunc_80.f
 repeat' first
   | (with_reducible exact slices_IndexFunc_80.mono _ _ _ _ _)
   | (with_reducible exact LeO.refl _)
   | (with_reducible exact LeO.none _)
   | (with_reducible refine LeO.ite ?_ ?_)
   | (with_reducible refine LeO.bind ?_ (fun _ => ?_))
def pool_Has.f (k : Nat) (a0_0 : Bool) (a0_1 : Int) (a0_2 : Int) (a0_3 : Int) (a0_4 : ByteArray) (l0_5 : List (S57)) (l0_6 : List (S53)) (l0_7 : List (S83)) (a0_8 : Int) (a1_0 : Bool) (a1_1 : Int) (a1_2 : Int) : Option (Bool) := (pool_At.f k a0_0 a0_1 a0_2 a0_3 a0_4 l0_5 l0_6 l0_7 a0_8 a1_0 a1_1 a1_2).bind fun bt432 => (if bt432.2.2.2.2.2 = true then (some false) else ((slices_ContainsFunc_80.f k l0_5 a1_0 a1_1 a1_2).bind fun t439 => (some t439)))
theorem pool_Has.mono : ∀ a0 a1 a2 a3 a4 a5 a6 a7 a8 a9 a10 a11 k,LeO (pool_Has.f k a0 a1 a2 a3 a4 a5 a6 a7 a8 a9 a10 a11) (pool_Has.f (k + 1) a0 a1 a2 a3 a4 a5 a6 a7 a8 a9 a10 a11) := by
 intro a0 a1 a2 a3 a4 a5 a6 a7 a8 a9 a10 a11 k
 unfold pool_Has.f
 repeat' first
   | (with_reducible exact pool_At.mono _ _ _ _ _ _ _ _ _ _ _ _ _)
   | (with_reducible exact slices_ContainsFunc_80.mono _ _ _ _ _)
   | (with_reducible exact LeO.refl _)
   | (with_reducible exact LeO.none _)
   | (with_reducible refine LeO.ite ?_ ?_)
   | (with_reducible refine LeO.bind ?_ (fun _ => ?_))
def failover_Leases.f (k : Nat) (a0_0 : Bool) (a0_1 : Int) (a0_2 : Int) (a0_3 : Int) (a1_0 : Bool) (a1_1 : Int) (a1_2 : Int) (a1_3 : Int) (a1_4 : ByteArray) (l1_5 : List (S57)) (l1_6 : List (S53)) (l1_7 : List (S83)) (a1_8 : Int) (a2_0 : Bool) (a2_1 : Int) (a2_2 : Int) (a3 : Int) : Option (Bool) := (failover_Share.f k a0_0 a0_1 a0_2 a0_3 a1_0 a1_1 a1_2 a1_3 a1_4 l1_5 l1_6 l1_7 a1_8 a3).bind fun bt443 => ((pool_At.f k bt443.1 bt443.2.1 bt443.2.2.1 bt443.2.2.2.1 bt443.2.2.2.2.1 bt443.2.2.2.2.2.1 bt443.2.2.2.2.2.2.1 bt443.2.2.2.2.2.2.2.1 bt443.2.2.2.2.2.2.2.2 a2_0 a2_1 a2_2).bind fun bt459 => (if bt459.2.2.2.2.2 = true then (some true) else ((pool_Has.f k bt443.1 bt443.2.1 bt443.2.2.1 bt443.2.2.2.1 bt443.2.2.2.2.1 bt443.2.2.2.2.2.1 bt443.2.2.2.2.2.2.1 bt443.2.2.2.2.2.2.2.1 bt443.2.2.2.2.2.2.2.2 a2_0 a2_1 a2_2).bind fun t466 => (some t466))))
theorem failover_Leases.mono : ∀ a0 a1 a2 a3 a4 a5 a6 a7 a8 a9 a10 a11 a12 a13 a14 a15 a16 k,LeO (failover_Leases.f k a0 a1 a2 a3 a4 a5 a6 a7 a8 a9 a10 a11 a12 a13 a14 a15 a16) (failover_Leases.f (k + 1) a0 a1 a2 a3 a4 a5 a6 a7 a8 a9 a10 a11 a12 a13 a14 a15 a16) := by
 intro a0 a1 a2 a3 a4 a5 a6 a7 a8 a9 a10 a11 a12 a13 a14 a15 a16 k
 unfold failover_Leases.f
 repeat' first
   | (with_reducible exact failover_Share.mono _ _ _ _ _ _ _ _ _ _ _ _ _ _ _)
   | (with_reducible exact pool_At.mono _ _ _ _ _ _ _ _ _ _ _ _ _)
   | (with_reducible exact pool_Has.mono _ _ _ _ _ _ _ _ _ _ _ _ _)
   | (with_reducible exact LeO.refl _)
   | (with_reducible exact LeO.none _)
   | (with_reducible refine LeO.ite ?_ ?_)
   | (with_reducible refine LeO.bind ?_ (fun _ => ?_))
def failover_New.j0 : Nat → Bool → Int → Bool → Option (Bool × Int × Int × Int × Int)
 | 0,_,_,_ => none
 | k + 1,x0,x1,x11 => if x11 = true then (some (false,0,0,0,1)) else (some (x0,0,0,x1,0))
def failover_New.f (k : Nat) (a0 : Bool) (a1 : Int) : Option (Bool × Int × Int × Int × Int) := if a1 < 1 then (failover_New.j0 k a0 a1 true) else (failover_New.j0 k a0 a1 (decide (a1 > 1073741824)))
theorem failover_New.mono_l : ∀ k,(∀ y0 y1 y2,LeO (failover_New.j0 k y0 y1 y2) (failover_New.j0 (k + 1) y0 y1 y2))
 | 0 => fun _ _ _ r h => by simp [failover_New.j0] at h
 | k + 1 => by
  have ih0 := failover_New.mono_l k
  ·intro y0 y1 y2
   unfold failover_New.j0
   repeat' first
   | (with_reducible exact ih0 _ _ _)
   | (with_reducible exact LeO.refl _)
   | (with_reducible exact LeO.none _)
   | (with_reducible refine LeO.ite ?_ ?_)
   | (with_reducible refine LeO.bind ?_ (fun _ => ?_))
theorem failover_New.mono : ∀ a0 a1 k,LeO (failover_New.f k a0 a1) (failover_New.f (k + 1) a0 a1) := by
 intro a0 a1 k
 have ih0 := failover_New.mono_l k
 unfold failover_New.f
 repeat' first
   | (with_reducible exact ih0 _ _ _)
   | (with_reducible exact LeO.refl _)
   | (with_reducible exact LeO.none _)
   | (with_reducible refine LeO.ite ?_ ?_)
   | (with_reducible refine LeO.bind ?_ (fun _ => ?_))
def failover_time.f (a0 : Int) : Option (Bool) := if a0 ≥ 0 then (some (decide (a0 ≤ 4294967295))) else (some false)
def failover_later.f (a0 : Int) (a1 : Int) : Option (Int) := if a1 > (wrap64 (4294967295 - a0)) then (some 4294967295) else (some (wrap64 (a0 + a1)))
def failover_normal.f (a0_0 : Bool) (a0_1 : Int) (a0_2 : Int) (a0_3 : Int) (a1 : Int) (a2 : Int) : Option (Bool × Int × Int × Int) := (failover_later.f a1 a2).bind fun t470 => (some (a0_0,1,t470,a0_3))
def failover_Exchanged.j0 : Nat → Int → Int → Bool → Bool → Int → Int → Int → Option (Bool × Int × Int × Int)
 | 0,_,_,_,_,_,_,_ => none
 | k + 1,x1,x2,x13,x472000,x472001,x472002,x472003 => if x13 = true then (some (x472000,x472001,x472002,x472003)) else ((failover_normal.f x472000 x472001 x472002 x472003 x1 x2).bind fun bt474 => (some (bt474.1,bt474.2.1,bt474.2.2.1,bt474.2.2.2)))
def failover_Exchanged.f (k : Nat) (a0_0 : Bool) (a0_1 : Int) (a0_2 : Int) (a0_3 : Int) (a1 : Int) (a2 : Int) : Option (Bool × Int × Int × Int) := (failover_time.f a1).bind fun t473 => (if t473 = true then (failover_Exchanged.j0 k a1 a2 (decide (a2 < 0)) a0_0 a0_1 a0_2 a0_3) else (failover_Exchanged.j0 k a1 a2 true a0_0 a0_1 a0_2 a0_3))
theorem failover_Exchanged.mono_l : ∀ k,(∀ y0 y1 y2 y3 y4 y5 y6,LeO (failover_Exchanged.j0 k y0 y1 y2 y3 y4 y5 y6) (failover_Exchanged.j0 (k + 1) y0 y1 y2 y3 y4 y5 y6))
 | 0 => fun _ _ _ _ _ _ _ r h => by simp [failover_Exchanged.j0] at h
 | k + 1 => by
  have ih0 := failover_Exchanged.mono_l k
  ·intro y0 y1 y2 y3 y4 y5 y6
   unfold failover_Exchanged.j0
   repeat' first
   | (with_reducible exact ih0 _ _ _ _ _ _ _)
   | (with_reducible exact LeO.refl _)
   | (with_reducible exact LeO.none _)
   | (with_reducible refine LeO.ite ?_ ?_)
   | (with_reducible refine LeO.bind ?_ (fun _ => ?_))
theorem failover_Exchanged.mono : ∀ a0 a1 a2 a3 a4 a5 k,LeO (failover_Exchanged.f k a0 a1 a2 a3 a4 a5) (failover_Exchanged.f (k + 1) a0 a1 a2 a3 a4 a5) := by
 intro a0 a1 a2 a3 a4 a5 k
 have ih0 := failover_Exchanged.mono_l k
 unfold failover_Exchanged.f
 repeat' first
   | (with_reducible exact ih0 _ _ _ _ _ _ _)
   | (with_reducible exact LeO.refl _)
   | (with_reducible exact LeO.none _)
   | (with_reducible refine LeO.ite ?_ ?_)
   | (with_reducible refine LeO.bind ?_ (fun _ => ?_))
def ddilaw44_sample.f  : Option (Bool × Int × Int × Int × ByteArray × (List (S57)) × (List (S53)) × (List (S83)) × Int) := some (false,0,256,24,(⟨#[]⟩ : ByteArray),(([(⟨(⟨false,0,261⟩ : S25),(⟨false,0,263⟩ : S25)⟩ : S57)] : List (S57))),([] : List (S53)),([] : List (S83)),60)
def ddilaw44_awake.f (k : Nat)  : Option (Bool) := (failover_New.f k true 60).bind fun bt482 => ((failover_Exchanged.f k bt482.1 bt482.2.1 bt482.2.2.1 bt482.2.2.2.1 3 5).bind fun bt488 => (if bt482.2.2.2.2 = 0 then (if bt488.2.1 = 1 then (if bt488.2.2.1 = 8 then (if bt488.2.2.2 = 60 then ((ddilaw44_sample.f).bind fun bt492 => ((failover_Leases.f k bt488.1 bt488.2.1 bt488.2.2.1 bt488.2.2.2 bt492.1 bt492.2.1 bt492.2.2.1 bt492.2.2.2.1 bt492.2.2.2.2.1 bt492.2.2.2.2.2.1 bt492.2.2.2.2.2.2.1 bt492.2.2.2.2.2.2.2.1 bt492.2.2.2.2.2.2.2.2 false 0 262 4).bind fun t507 => (if t507 = true then ((ddilaw44_sample.f).bind fun bt508 => ((failover_Leases.f k bt488.1 bt488.2.1 bt488.2.2.1 bt488.2.2.2 bt508.1 bt508.2.1 bt508.2.2.1 bt508.2.2.2.1 bt508.2.2.2.2.1 bt508.2.2.2.2.2.1 bt508.2.2.2.2.2.2.1 bt508.2.2.2.2.2.2.2.1 bt508.2.2.2.2.2.2.2.2 false 0 263 4).bind fun t523 => (some (!t523)))) else (some false)))) else (some false)) else (some false)) else (some false)) else (some false)))
theorem ddilaw44_awake.mono : ∀ k,LeO (ddilaw44_awake.f k ) (ddilaw44_awake.f (k + 1) ) := by
 intro  k
 unfold ddilaw44_awake.f
 repeat' first
   | (with_reducible exact failover_Exchanged.mono _ _ _ _ _ _ _)
   | (with_reducible exact failover_Leases.mono _ _ _ _ _ _ _ _ _ _ _ _ _ _ _ _ _ _)
   | (with_reducible exact failover_New.mono _ _ _)
   | (with_reducible exact LeO.refl _)
   | (with_reducible exact LeO.none _)
   | (with_reducible refine LeO.ite ?_ ?_)
   | (with_reducible refine LeO.bind ?_ (fun _ => ?_))
mutual
def ddilaw44_small.j0 : Nat → Bool → Bool → Int → Int → Int → ByteArray → List (S57) → List (S53) → List (S83) → Int → Option (Bool)
 | 0,_,_,_,_,_,_,_,_,_,_ => none
 | k + 1,x26,x525000,x525001,x525002,x525003,x525004,x525005,x525006,x525007,x525008 => if x26 = true then (some false) else (ddilaw44_small.l0 k 0 x525000 x525001 x525002 x525003 x525004 x525005 x525006 x525007 x525008)
def ddilaw44_small.l0 : Nat → Int → Bool → Int → Int → Int → ByteArray → List (S57) → List (S53) → List (S83) → Int → Option (Bool)
 | 0,_,_,_,_,_,_,_,_,_,_ => none
 | k + 1,x3,x525000,x525001,x525002,x525003,x525004,x525005,x525006,x525007,x525008 => if x3 < (x525006.length : Int) then (if 0 ≤ x3 then (if (((rd_T53 x525006 x3).f0).size : Int) > 300 then (ddilaw44_small.j2 k x3 true x525000 x525001 x525002 x525003 x525004 x525005 x525006 x525007 x525008) else (ddilaw44_small.j2 k x3 (decide ((((rd_T53 x525006 x3).f2).size : Int) > 300)) x525000 x525001 x525002 x525003 x525004 x525005 x525006 x525007 x525008)) else (none)) else (ddilaw44_small.l1 k 0 x525000 x525001 x525002 x525003 x525004 x525005 x525006 x525007 x525008)
def ddilaw44_small.j2 : Nat → Int → Bool → Bool → Int → Int → Int → ByteArray → List (S57) → List (S53) → List (S83) → Int → Option (Bool)
 | 0,_,_,_,_,_,_,_,_,_,_,_ => none
 | k + 1,x3,x51,x525000,x525001,x525002,x525003,x525004,x525005,x525006,x525007,x525008 => if x51 = true then (some false) else (ddilaw44_small.l0 k (wrap64 (x3 + 1)) x525000 x525001 x525002 x525003 x525004 x525005 x525006 x525007 x525008)
def ddilaw44_small.l1 : Nat → Int → Bool → Int → Int → Int → ByteArray → List (S57) → List (S53) → List (S83) → Int → Option (Bool)
 | 0,_,_,_,_,_,_,_,_,_,_ => none
 | k + 1,x4,x525000,x525001,x525002,x525003,x525004,x525005,x525006,x525007,x525008 => if x4 < (x525007.length : Int) then (if 0 ≤ x4 then (if (((rd_T83 x525007 x4).f1).size : Int) > 1100 then (some false) else (ddilaw44_small.l1 k (wrap64 (x4 + 1)) x525000 x525001 x525002 x525003 x525004 x525005 x525006 x525007 x525008)) else (none)) else (some true)
end
def ddilaw44_small.f (k : Nat) (a0_0 : Bool) (a0_1 : Int) (a0_2 : Int) (a0_3 : Int) (a0_4 : ByteArray) (l0_5 : List (S57)) (l0_6 : List (S53)) (l0_7 : List (S83)) (a0_8 : Int) : Option (Bool) := if (l0_5.length : Int) > 20 then (ddilaw44_small.j0 k true a0_0 a0_1 a0_2 a0_3 a0_4 l0_5 l0_6 l0_7 a0_8) else (if (l0_6.length : Int) > 20 then (ddilaw44_small.j0 k true a0_0 a0_1 a0_2 a0_3 a0_4 l0_5 l0_6 l0_7 a0_8) else (if (l0_7.length : Int) > 40 then (ddilaw44_small.j0 k true a0_0 a0_1 a0_2 a0_3 a0_4 l0_5 l0_6 l0_7 a0_8) else (ddilaw44_small.j0 k (decide ((a0_4.size : Int) > 300)) a0_0 a0_1 a0_2 a0_3 a0_4 l0_5 l0_6 l0_7 a0_8)))
def prefix_length.f (a0_0 : Bool) (a0_1 : Int) (a0_2 : Int) : Option (Int) := if a0_0 = true then (some 128) else (some 32)
def prefix_later.f (a0 : Bool) (a1 : Int) : Option (Int × Int) := if a0 = true then (if a1 ≥ 64 then (if 0 ≤ (IntKind.u64.wrap (wrap64 (128 - a1))) then (some (0,IntKind.u64.wrap ((shl .u64 1 (IntKind.u64.wrap (wrap64 (128 - a1)))) - 1))) else (none)) else (if 0 ≤ (IntKind.u64.wrap (wrap64 (64 - a1))) then (some (IntKind.u64.wrap ((shl .u64 1 (IntKind.u64.wrap (wrap64 (64 - a1)))) - 1),18446744073709551615)) else (none))) else (if 0 ≤ (IntKind.u64.wrap (wrap64 (32 - a1))) then (some (0,IntKind.u64.wrap ((shl .u64 1 (IntKind.u64.wrap (wrap64 (32 - a1)))) - 1))) else (none))
def prefix_Valid.j0 : Nat → Bool → Bool → Int → Int → Int → Option (Bool)
 | 0,_,_,_,_,_ => none
 | k + 1,x21,x530000,x530001,x530002,x530003 => if x21 = true then (some false) else ((prefix_later.f x530000 x530003).bind fun bt532 => (if (Go.bits .and .u64 x530001 bt532.1) = 0 then (some ((Go.bits .and .u64 x530002 bt532.2) == 0)) else (some false)))
def prefix_Valid.f (k : Nat) (a0_0 : Bool) (a0_1 : Int) (a0_2 : Int) (a0_3 : Int) : Option (Bool) := (addr_Valid.f a0_0 a0_1 a0_2).bind fun t530 => (if t530 = true then (if a0_3 < 0 then (prefix_Valid.j0 k true a0_0 a0_1 a0_2 a0_3) else ((prefix_length.f a0_0 a0_1 a0_2).bind fun t531 => (prefix_Valid.j0 k (decide (a0_3 > t531)) a0_0 a0_1 a0_2 a0_3))) else (prefix_Valid.j0 k true a0_0 a0_1 a0_2 a0_3))
def prefix_Bounds.f (k : Nat) (a0_0 : Bool) (a0_1 : Int) (a0_2 : Int) (a0_3 : Int) : Option (Bool × Int × Int × Bool × Int × Int × Bool) := (prefix_Valid.f k a0_0 a0_1 a0_2 a0_3).bind fun t536 => (if t536 = true then ((prefix_later.f a0_0 a0_3).bind fun bt537 => (some (a0_0,a0_1,a0_2,a0_0,Go.bits .or .u64 a0_1 bt537.1,Go.bits .or .u64 a0_2 bt537.2,true))) else (some (false,0,0,false,0,0,false)))
def prefix_Of.j0 : Nat → Int → Bool → Bool → Int → Int → Option (Bool × Int × Int × Int × Bool)
 | 0,_,_,_,_,_ => none
 | k + 1,x1,x20,x541000,x541001,x541002 => if x20 = true then (some (false,0,0,0,false)) else ((prefix_later.f x541000 x1).bind fun bt544 => (some (x541000,Go.bits .andNot .u64 x541001 bt544.1,Go.bits .andNot .u64 x541002 bt544.2,x1,true)))
def prefix_Of.f (k : Nat) (a0_0 : Bool) (a0_1 : Int) (a0_2 : Int) (a1 : Int) : Option (Bool × Int × Int × Int × Bool) := (addr_Valid.f a0_0 a0_1 a0_2).bind fun t542 => (if t542 = true then (if a1 < 0 then (prefix_Of.j0 k a1 true a0_0 a0_1 a0_2) else ((prefix_length.f a0_0 a0_1 a0_2).bind fun t543 => (prefix_Of.j0 k a1 (decide (a1 > t543)) a0_0 a0_1 a0_2))) else (prefix_Of.j0 k a1 true a0_0 a0_1 a0_2))
def prefix_Contains.j0 : Nat → Bool → Bool → Int → Int → Int → Bool → Int → Int → Option (Bool)
 | 0,_,_,_,_,_,_,_,_ => none
 | k + 1,x17,x547000,x547001,x547002,x547003,x548000,x548001,x548002 => if x17 = true then (some false) else ((prefix_Of.f k x548000 x548001 x548002 x547003).bind fun bt549 => (if bt549.2.2.2.2 = true then (some ((bt549.1 == x547000 && (bt549.2.1 == x547001 && (bt549.2.2.1 == x547002))) && (bt549.2.2.2.1 == x547003))) else (some false)))
def prefix_Contains.f (k : Nat) (a0_0 : Bool) (a0_1 : Int) (a0_2 : Int) (a0_3 : Int) (a1_0 : Bool) (a1_1 : Int) (a1_2 : Int) : Option (Bool) := (prefix_Valid.f k a0_0 a0_1 a0_2 a0_3).bind fun t548 => (if t548 = true then (prefix_Contains.j0 k (a0_0 != a1_0) a0_0 a0_1 a0_2 a0_3 a1_0 a1_1 a1_2) else (prefix_Contains.j0 k true a0_0 a0_1 a0_2 a0_3 a1_0 a1_1 a1_2))
def pool_leased.f (k : Nat) (a0_0 : Bool) (a0_1 : Int) (a0_2 : Int) (a0_3 : Int) (a1_0 : Bool) (a1_1 : Int) (a1_2 : Int) : Option (Bool) := (prefix_Bounds.f k a0_0 a0_1 a0_2 a0_3).bind fun bt557 => ((prefix_Contains.f k a0_0 a0_1 a0_2 a0_3 a1_0 a1_1 a1_2).bind fun t565 => (if t565 = true then (if (!(a1_0 == bt557.1) || (!(a1_1 == bt557.2.1) || (!(a1_2 == bt557.2.2.1)))) = true then (some (!(a1_0 == bt557.2.2.2.1) || (!(a1_1 == bt557.2.2.2.2.1) || (!(a1_2 == bt557.2.2.2.2.2.1))))) else (some false)) else (some false)))
def pool_pools_1.f (k : Nat) (a0_0 : Bool) (a0_1 : Int) (a0_2 : Int) (a0_3 : Bool) (a0_4 : Int) (a0_5 : Int) (a1_0 : Bool) (a1_1 : Int) (a1_2 : Int) (a1_3 : Bool) (a1_4 : Int) (a1_5 : Int) : Option (Bool) := (pool_in.f k a0_0 a0_1 a0_2 a0_3 a0_4 a0_5 a1_0 a1_1 a1_2).bind fun t567 => (if t567 = true then (some true) else ((pool_in.f k a1_0 a1_1 a1_2 a1_3 a1_4 a1_5 a0_0 a0_1 a0_2).bind fun t568 => (some t568)))
def slices_IndexFunc_66.l0 : Nat → List (S57) → Int → Int → Bool → Int → Int → Bool → Int → Int → Option (Int)
 | 0,_,_,_,_,_,_,_,_,_ => none
 | k + 1,x0,x7,x8,x700101000,x700101001,x700101002,x700101003,x700101004,x700101005 => if x8 < x7 then (if 0 ≤ x8 then (if x8 < (x0.length : Int) then ((pool_pools_1.f k ((rd_T57 x0 x8).f0.f0) ((rd_T57 x0 x8).f0.f1) ((rd_T57 x0 x8).f0.f2) ((rd_T57 x0 x8).f1.f0) ((rd_T57 x0 x8).f1.f1) ((rd_T57 x0 x8).f1.f2) x700101000 x700101001 x700101002 x700101003 x700101004 x700101005).bind fun t570 => (if t570 = true then (some x8) else (slices_IndexFunc_66.l0 k x0 x7 (wrap64 (x8 + 1)) x700101000 x700101001 x700101002 x700101003 x700101004 x700101005))) else (none)) else (none)) else (some (-1))
def slices_IndexFunc_66.f (k : Nat) (l0 : List (S57)) (a1_0 : Bool) (a1_1 : Int) (a1_2 : Int) (a1_3 : Bool) (a1_4 : Int) (a1_5 : Int) : Option (Int) := slices_IndexFunc_66.l0 k l0 (l0.length : Int) 0 a1_0 a1_1 a1_2 a1_3 a1_4 a1_5
def slices_ContainsFunc_66.f (k : Nat) (l0 : List (S57)) (a1_0 : Bool) (a1_1 : Int) (a1_2 : Int) (a1_3 : Bool) (a1_4 : Int) (a1_5 : Int) : Option (Bool) := (slices_IndexFunc_66.f k l0 a1_0 a1_1 a1_2 a1_3 a1_4 a1_5).bind fun t571 => (some (decide (t571 ≥ 0)))
mutual
def pool_pools.l0 : Nat → List (S57) → Int → Int → Bool → Int → Int → Int → ByteArray → List (S57) → List (S53) → List (S83) → Int → Option (Int)
 | 0,_,_,_,_,_,_,_,_,_,_,_,_ => none
 | k + 1,x6,x7,x8,x573000,x573001,x573002,x573003,x573004,x573005,x573006,x573007,x573008 => if x8 < x7 then (if 0 ≤ x8 then (if x8 < (x6.length : Int) then ((pool_leased.f k x573000 x573001 x573002 x573003 ((rd_T57 x6 x8).f0.f0) ((rd_T57 x6 x8).f0.f1) ((rd_T57 x6 x8).f0.f2)).bind fun t575 => (if t575 = true then ((pool_leased.f k x573000 x573001 x573002 x573003 ((rd_T57 x6 x8).f1.f0) ((rd_T57 x6 x8).f1.f1) ((rd_T57 x6 x8).f1.f2)).bind fun t576 => (if t576 = true then ((addr_Compare.f k ((rd_T57 x6 x8).f0.f0) ((rd_T57 x6 x8).f0.f1) ((rd_T57 x6 x8).f0.f2) ((rd_T57 x6 x8).f1.f0) ((rd_T57 x6 x8).f1.f1) ((rd_T57 x6 x8).f1.f2)).bind fun t577 => (pool_pools.j1 k x8 x6 x7 x8 (decide (t577 > 0)) x573000 x573001 x573002 x573003 x573004 x573005 x573006 x573007 x573008 ((rd_T57 x6 x8).f0.f0) ((rd_T57 x6 x8).f0.f1) ((rd_T57 x6 x8).f0.f2) ((rd_T57 x6 x8).f1.f0) ((rd_T57 x6 x8).f1.f1) ((rd_T57 x6 x8).f1.f2))) else (pool_pools.j1 k x8 x6 x7 x8 true x573000 x573001 x573002 x573003 x573004 x573005 x573006 x573007 x573008 ((rd_T57 x6 x8).f0.f0) ((rd_T57 x6 x8).f0.f1) ((rd_T57 x6 x8).f0.f2) ((rd_T57 x6 x8).f1.f0) ((rd_T57 x6 x8).f1.f1) ((rd_T57 x6 x8).f1.f2)))) else (pool_pools.j1 k x8 x6 x7 x8 true x573000 x573001 x573002 x573003 x573004 x573005 x573006 x573007 x573008 ((rd_T57 x6 x8).f0.f0) ((rd_T57 x6 x8).f0.f1) ((rd_T57 x6 x8).f0.f2) ((rd_T57 x6 x8).f1.f0) ((rd_T57 x6 x8).f1.f1) ((rd_T57 x6 x8).f1.f2)))) else (none)) else (none)) else (some 0)
def pool_pools.j1 : Nat → Int → List (S57) → Int → Int → Bool → Bool → Int → Int → Int → ByteArray → List (S57) → List (S53) → List (S83) → Int → Bool → Int → Int → Bool → Int → Int → Option (Int)
 | 0,_,_,_,_,_,_,_,_,_,_,_,_,_,_,_,_,_,_,_,_ => none
 | k + 1,x3,x6,x7,x8,x34,x573000,x573001,x573002,x573003,x573004,x573005,x573006,x573007,x573008,x575000,x575001,x575002,x575003,x575004,x575005 => if x34 = true then (some 3) else (if 0 ≤ x3 then (if x3 ≤ (x573005.length : Int) then ((slices_ContainsFunc_66.f k (x573005.take (x3 : Int).toNat) x575000 x575001 x575002 x575003 x575004 x575005).bind fun t582 => (if t582 = true then (some 24) else (pool_pools.l0 k x6 x7 (wrap64 (x8 + 1)) x573000 x573001 x573002 x573003 x573004 x573005 x573006 x573007 x573008))) else (none)) else (none))
end
def pool_pools.f (k : Nat) (a0_0 : Bool) (a0_1 : Int) (a0_2 : Int) (a0_3 : Int) (a0_4 : ByteArray) (l0_5 : List (S57)) (l0_6 : List (S53)) (l0_7 : List (S83)) (a0_8 : Int) : Option (Int) := pool_pools.l0 k l0_5 (l0_5.length : Int) 0 a0_0 a0_1 a0_2 a0_3 a0_4 l0_5 l0_6 l0_7 a0_8
def pool_client_1.f (a0 : Int) : Option (Bool) := if a0 < 33 then (some true) else (some (decide (a0 > 126)))
def slices_IndexFunc_90.l0 : Nat → List Int → Int → Int → Option (Int)
 | 0,_,_,_ => none
 | k + 1,x0,x7,x8 => if x8 < x7 then (if 0 ≤ x8 then (if x8 < (x0.length : Int) then ((pool_client_1.f (rd x0 x8)).bind fun t584 => (if t584 = true then (some x8) else (slices_IndexFunc_90.l0 k x0 x7 (wrap64 (x8 + 1))))) else (none)) else (none)) else (some (-1))
def slices_IndexFunc_90.f (k : Nat) (l0 : List Int)  : Option (Int) := slices_IndexFunc_90.l0 k l0 (l0.length : Int) 0
def slices_ContainsFunc_90.f (k : Nat) (l0 : List Int)  : Option (Bool) := (slices_IndexFunc_90.f k l0).bind fun t585 => (some (decide (t585 ≥ 0)))
def pool_client.f (k : Nat) (a0 : ByteArray) : Option (Bool) := if (a0.size : Int) ≥ 1 then (if (a0.size : Int) ≤ 32 then ((conv_bytes_119.f a0).bind fun t586 => ((slices_ContainsFunc_90.f k t586).bind fun t589 => (some (!t589)))) else (some false)) else (some false)
def pool_reserved_1.f (a0_0 : ByteArray) (a0_1 : Bool) (a0_2 : Int) (a0_3 : Int) (a0_4 : ByteArray) (a1_0 : ByteArray) (a1_1 : Bool) (a1_2 : Int) (a1_3 : Int) (a1_4 : ByteArray) : Option (Bool) := if a0_0.toList = a1_0.toList then (some true) else (some (a0_1 == a1_1 && (a0_2 == a1_2 && (a0_3 == a1_3))))
def slices_IndexFunc_70.l0 : Nat → List (S53) → Int → Int → ByteArray → Bool → Int → Int → ByteArray → Option (Int)
 | 0,_,_,_,_,_,_,_,_ => none
 | k + 1,x0,x7,x8,x700101000,x700101001,x700101002,x700101003,x700101004 => if x8 < x7 then (if 0 ≤ x8 then (if x8 < (x0.length : Int) then ((pool_reserved_1.f ((rd_T53 x0 x8).f0) ((rd_T53 x0 x8).f1.f0) ((rd_T53 x0 x8).f1.f1) ((rd_T53 x0 x8).f1.f2) ((rd_T53 x0 x8).f2) x700101000 x700101001 x700101002 x700101003 x700101004).bind fun t592 => (if t592 = true then (some x8) else (slices_IndexFunc_70.l0 k x0 x7 (wrap64 (x8 + 1)) x700101000 x700101001 x700101002 x700101003 x700101004))) else (none)) else (none)) else (some (-1))
def slices_IndexFunc_70.f (k : Nat) (l0 : List (S53)) (a1_0 : ByteArray) (a1_1 : Bool) (a1_2 : Int) (a1_3 : Int) (a1_4 : ByteArray) : Option (Int) := slices_IndexFunc_70.l0 k l0 (l0.length : Int) 0 a1_0 a1_1 a1_2 a1_3 a1_4
def slices_ContainsFunc_70.f (k : Nat) (l0 : List (S53)) (a1_0 : ByteArray) (a1_1 : Bool) (a1_2 : Int) (a1_3 : Int) (a1_4 : ByteArray) : Option (Bool) := (slices_IndexFunc_70.f k l0 a1_0 a1_1 a1_2 a1_3 a1_4).bind fun t593 => (some (decide (t593 ≥ 0)))
mutual
def pool_reserved.l0 : Nat → List (S53) → Int → Int → Bool → Int → Int → Int → ByteArray → List (S57) → List (S53) → List (S83) → Int → Option (Int)
 | 0,_,_,_,_,_,_,_,_,_,_,_,_ => none
 | k + 1,x6,x7,x8,x595000,x595001,x595002,x595003,x595004,x595005,x595006,x595007,x595008 => if x8 < x7 then (if 0 ≤ x8 then (if x8 < (x6.length : Int) then ((pool_client.f k ((rd_T53 x6 x8).f0)).bind fun t597 => (if t597 = true then ((pool_leased.f k x595000 x595001 x595002 x595003 ((rd_T53 x6 x8).f1.f0) ((rd_T53 x6 x8).f1.f1) ((rd_T53 x6 x8).f1.f2)).bind fun t598 => (if t598 = true then (if x8 ≤ (x595006.length : Int) then ((slices_ContainsFunc_70.f k (x595006.take (x8 : Int).toNat) ((rd_T53 x6 x8).f0) ((rd_T53 x6 x8).f1.f0) ((rd_T53 x6 x8).f1.f1) ((rd_T53 x6 x8).f1.f2) ((rd_T53 x6 x8).f2)).bind fun t603 => (if t603 = true then (some 12) else (if ((rd_T53 x6 x8).f2).toList = ([] : List UInt8) then (pool_reserved.j1 k x6 x7 x8 false x595000 x595001 x595002 x595003 x595004 x595005 x595006 x595007 x595008) else ((dname_Valid.f k ((rd_T53 x6 x8).f2)).bind fun t604 => (pool_reserved.j1 k x6 x7 x8 (!t604) x595000 x595001 x595002 x595003 x595004 x595005 x595006 x595007 x595008))))) else (none)) else (some 3))) else (some 9))) else (none)) else (none)) else (some 0)
def pool_reserved.j1 : Nat → List (S53) → Int → Int → Bool → Bool → Int → Int → Int → ByteArray → List (S57) → List (S53) → List (S83) → Int → Option (Int)
 | 0,_,_,_,_,_,_,_,_,_,_,_,_,_ => none
 | k + 1,x6,x7,x8,x32,x595000,x595001,x595002,x595003,x595004,x595005,x595006,x595007,x595008 => if x32 = true then (some 2) else (pool_reserved.l0 k x6 x7 (wrap64 (x8 + 1)) x595000 x595001 x595002 x595003 x595004 x595005 x595006 x595007 x595008)
end
def pool_reserved.f (k : Nat) (a0_0 : Bool) (a0_1 : Int) (a0_2 : Int) (a0_3 : Int) (a0_4 : ByteArray) (l0_5 : List (S57)) (l0_6 : List (S53)) (l0_7 : List (S83)) (a0_8 : Int) : Option (Int) := pool_reserved.l0 k l0_6 (l0_6.length : Int) 0 a0_0 a0_1 a0_2 a0_3 a0_4 l0_5 l0_6 l0_7 a0_8
def option_size.l0 : Nat → Int → List (S83) → Int → Int → Option (Int)
 | 0,_,_,_,_ => none
 | k + 1,x3,x6,x7,x8 => if x8 < x7 then (if 0 ≤ x8 then (if x8 < (x6.length : Int) then (option_size.l0 k (wrap64 (x3 + (((rd_T83 x6 x8).f1).size : Int))) x6 x7 (wrap64 (x8 + 1))) else (none)) else (none)) else (some x3)
def option_size.f (k : Nat) (l0 : List (S83)) : Option (Int) := option_size.l0 k 0 l0 (l0.length : Int) 0
def option_Find.l0 : Nat → Int → List (S83) → Int → Int → Option (ByteArray × Bool)
 | 0,_,_,_,_ => none
 | k + 1,x1,x8,x9,x10 => if x10 < x9 then (if 0 ≤ x10 then (if x10 < (x8.length : Int) then (if ((rd_T83 x8 x10).f0) = x1 then (some ((rd_T83 x8 x10).f1,true)) else (option_Find.l0 k x1 x8 x9 (wrap64 (x10 + 1)))) else (none)) else (none)) else (some ((⟨#[]⟩ : ByteArray),false))
def option_Find.f (k : Nat) (l0 : List (S83)) (a1 : Int) : Option (ByteArray × Bool) := option_Find.l0 k a1 l0 (l0.length : Int) 0
def option_isCode.f (a0 : Int) : Option (Bool) := if a0 ≥ 1 then (some (decide (a0 ≤ 254))) else (some false)
mutual
def option_Valid.j0 : Nat → List (S83) → Bool → Option (Bool)
 | 0,_,_ => none
 | k + 1,x0,x14 => if x14 = true then (some false) else (option_Valid.l0 k x0 x0 (x0.length : Int) 0)
def option_Valid.l0 : Nat → List (S83) → List (S83) → Int → Int → Option (Bool)
 | 0,_,_,_,_ => none
 | k + 1,x0,x15,x16,x17 => if x17 < x16 then (if 0 ≤ x17 then (if x17 < (x15.length : Int) then (if x17 ≤ (x0.length : Int) then ((option_Find.f k (x0.take (x17 : Int).toNat) ((rd_T83 x15 x17).f0)).bind fun bt616 => (if bt616.2 = true then (option_Valid.j2 k x0 x15 x16 x17 true) else ((option_isCode.f ((rd_T83 x15 x17).f0)).bind fun t618 => (if t618 = true then (option_Valid.j2 k x0 x15 x16 x17 (decide ((((rd_T83 x15 x17).f1).size : Int) > 1024))) else (option_Valid.j2 k x0 x15 x16 x17 true))))) else (none)) else (none)) else (none)) else (some true)
def option_Valid.j2 : Nat → List (S83) → List (S83) → Int → Int → Bool → Option (Bool)
 | 0,_,_,_,_,_ => none
 | k + 1,x0,x15,x16,x17,x43 => if x43 = true then (some false) else (option_Valid.l0 k x0 x15 x16 (wrap64 (x17 + 1)))
end
def option_Valid.f (k : Nat) (l0 : List (S83)) : Option (Bool) := if (l0.length : Int) > 32 then (option_Valid.j0 k l0 true) else ((option_size.f k l0).bind fun t609 => (option_Valid.j0 k l0 (decide (t609 > 4096))))
mutual
def pool_Check.j0 : Nat → Bool → Bool → Int → Int → Int → ByteArray → List (S57) → List (S53) → List (S83) → Int → Option (Int)
 | 0,_,_,_,_,_,_,_,_,_,_ => none
 | k + 1,x5,x620000,x620001,x620002,x620003,x620004,x620005,x620006,x620007,x620008 => if x5 = true then (some 3) else (if (x620005.length : Int) > 16 then (pool_Check.j1 k true x620000 x620001 x620002 x620003 x620004 x620005 x620006 x620007 x620008) else (pool_Check.j1 k (decide ((x620006.length : Int) > 16)) x620000 x620001 x620002 x620003 x620004 x620005 x620006 x620007 x620008))
def pool_Check.j1 : Nat → Bool → Bool → Int → Int → Int → ByteArray → List (S57) → List (S53) → List (S83) → Int → Option (Int)
 | 0,_,_,_,_,_,_,_,_,_,_ => none
 | k + 1,x22,x620000,x620001,x620002,x620003,x620004,x620005,x620006,x620007,x620008 => if x22 = true then (some 9) else ((pool_pools.f k x620000 x620001 x620002 x620003 x620004 x620005 x620006 x620007 x620008).bind fun t621 => (if t621 = 0 then ((pool_reserved.f k x620000 x620001 x620002 x620003 x620004 x620005 x620006 x620007 x620008).bind fun t622 => (if t622 = 0 then ((option_Valid.f k x620007).bind fun t623 => (if t623 = true then (if x620008 < 1 then (pool_Check.j2 k true) else (if x620008 > 1073741824 then (pool_Check.j2 k true) else (pool_Check.j2 k (decide ((x620004.size : Int) > 255))))) else (pool_Check.j2 k true))) else (some t622))) else (some t621)))
def pool_Check.j2 : Nat → Bool → Option (Int)
 | 0,_ => none
 | k + 1,x62 => if x62 = true then (some 1) else (some 0)
end
def pool_Check.f (k : Nat) (a0_0 : Bool) (a0_1 : Int) (a0_2 : Int) (a0_3 : Int) (a0_4 : ByteArray) (l0_5 : List (S57)) (l0_6 : List (S53)) (l0_7 : List (S83)) (a0_8 : Int) : Option (Int) := (prefix_Valid.f k a0_0 a0_1 a0_2 a0_3).bind fun t620 => (if t620 = true then (if a0_0 = true then (pool_Check.j0 k true a0_0 a0_1 a0_2 a0_3 a0_4 l0_5 l0_6 l0_7 a0_8) else (pool_Check.j0 k (decide (a0_3 > 30)) a0_0 a0_1 a0_2 a0_3 a0_4 l0_5 l0_6 l0_7 a0_8)) else (pool_Check.j0 k true a0_0 a0_1 a0_2 a0_3 a0_4 l0_5 l0_6 l0_7 a0_8))
def failover_Mine_1.f (k : Nat) (a0_0 : Bool) (a0_1 : Int) (a0_2 : Int) (a0_3 : Bool) (a0_4 : Int) (a0_5 : Int) (a1_0 : Bool) (a1_1 : Int) (a1_2 : Int) : Option (Bool) := (addr_Compare.f k a0_0 a0_1 a0_2 a1_0 a1_1 a1_2).bind fun t625 => (if t625 ≤ 0 then ((addr_Compare.f k a1_0 a1_1 a1_2 a0_3 a0_4 a0_5).bind fun t626 => (some (decide (t626 ≤ 0)))) else (some false))
def slices_IndexFunc_50.l0 : Nat → List (S57) → Int → Int → Bool → Int → Int → Option (Int)
 | 0,_,_,_,_,_,_ => none
 | k + 1,x0,x7,x8,x700101000,x700101001,x700101002 => if x8 < x7 then (if 0 ≤ x8 then (if x8 < (x0.length : Int) then ((failover_Mine_1.f k ((rd_T57 x0 x8).f0.f0) ((rd_T57 x0 x8).f0.f1) ((rd_T57 x0 x8).f0.f2) ((rd_T57 x0 x8).f1.f0) ((rd_T57 x0 x8).f1.f1) ((rd_T57 x0 x8).f1.f2) x700101000 x700101001 x700101002).bind fun t628 => (if t628 = true then (some x8) else (slices_IndexFunc_50.l0 k x0 x7 (wrap64 (x8 + 1)) x700101000 x700101001 x700101002))) else (none)) else (none)) else (some (-1))
def slices_IndexFunc_50.f (k : Nat) (l0 : List (S57)) (a1_0 : Bool) (a1_1 : Int) (a1_2 : Int) : Option (Int) := slices_IndexFunc_50.l0 k l0 (l0.length : Int) 0 a1_0 a1_1 a1_2
def slices_ContainsFunc_50.f (k : Nat) (l0 : List (S57)) (a1_0 : Bool) (a1_1 : Int) (a1_2 : Int) : Option (Bool) := (slices_IndexFunc_50.f k l0 a1_0 a1_1 a1_2).bind fun t629 => (some (decide (t629 ≥ 0)))
def failover_Mine.f (k : Nat) (a0_0 : Bool) (a0_1 : Int) (a0_2 : Int) (a0_3 : Int) (a1_0 : Bool) (a1_1 : Int) (a1_2 : Int) (a1_3 : Int) (a1_4 : ByteArray) (l1_5 : List (S57)) (l1_6 : List (S53)) (l1_7 : List (S83)) (a1_8 : Int) (a2_0 : Bool) (a2_1 : Int) (a2_2 : Int) : Option (Bool) := (pool_At.f k a1_0 a1_1 a1_2 a1_3 a1_4 l1_5 l1_6 l1_7 a1_8 a2_0 a2_1 a2_2).bind fun bt633 => (if bt633.2.2.2.2.2 = true then (some true) else ((failover_parts.f k a0_0 a0_1 a0_2 a0_3 a1_0 a1_1 a1_2 a1_3 a1_4 l1_5 l1_6 l1_7 a1_8).bind fun t640 => ((slices_ContainsFunc_50.f k t640 a2_0 a2_1 a2_2).bind fun t643 => (some t643))))
mutual
def ddilaw44_FailoverApart.j0 : Nat → Bool → Bool → Int → Int → Int → Bool → Int → Int → Int → Bool → Int → Int → Int → ByteArray → List (S57) → List (S53) → List (S83) → Int → Bool → Int → Int → Int → Option (Bool)
 | 0,_,_,_,_,_,_,_,_,_,_,_,_,_,_,_,_,_,_,_,_,_,_ => none
 | k + 1,x32,x645000,x645001,x645002,x645003,x646000,x646001,x646002,x646003,x647000,x647001,x647002,x647003,x647004,x647005,x647006,x647007,x647008,x648000,x648001,x648002,x648003 => if x32 = true then (some true) else ((pool_At.f k x647000 x647001 x647002 x647003 x647004 x647005 x647006 x647007 x647008 x648000 x648001 x648002).bind fun bt651 => (ddilaw44_FailoverApart.l0 k bt651.2.2.2.2.2 false 0 x645000 x645001 x645002 x645003 x646000 x646001 x646002 x646003 x647000 x647001 x647002 x647003 x647004 x647005 x647006 x647007 x647008 x648000 x648001 x648002 x648003))
def ddilaw44_FailoverApart.l0 : Nat → Bool → Bool → Int → Bool → Int → Int → Int → Bool → Int → Int → Int → Bool → Int → Int → Int → ByteArray → List (S57) → List (S53) → List (S83) → Int → Bool → Int → Int → Int → Option (Bool)
 | 0,_,_,_,_,_,_,_,_,_,_,_,_,_,_,_,_,_,_,_,_,_,_,_,_ => none
 | k + 1,x10,x11,x12,x645000,x645001,x645002,x645003,x646000,x646001,x646002,x646003,x647000,x647001,x647002,x647003,x647004,x647005,x647006,x647007,x647008,x648000,x648001,x648002,x648003 => if x12 < (x647005.length : Int) then (if 0 ≤ x12 then (if x11 = true then (ddilaw44_FailoverApart.l0 k x10 true (wrap64 (x12 + 1)) x645000 x645001 x645002 x645003 x646000 x646001 x646002 x646003 x647000 x647001 x647002 x647003 x647004 x647005 x647006 x647007 x647008 x648000 x648001 x648002 x648003) else (if x648000 = true then (ddilaw44_FailoverApart.l0 k x10 false (wrap64 (x12 + 1)) x645000 x645001 x645002 x645003 x646000 x646001 x646002 x646003 x647000 x647001 x647002 x647003 x647004 x647005 x647006 x647007 x647008 x648000 x648001 x648002 x648003) else (if x648001 = 0 then (if ((rd_T57 x647005 x12).f0.f2) ≤ x648002 then (ddilaw44_FailoverApart.l0 k x10 (decide (x648002 ≤ ((rd_T57 x647005 x12).f1.f2))) (wrap64 (x12 + 1)) x645000 x645001 x645002 x645003 x646000 x646001 x646002 x646003 x647000 x647001 x647002 x647003 x647004 x647005 x647006 x647007 x647008 x648000 x648001 x648002 x648003) else (ddilaw44_FailoverApart.l0 k x10 false (wrap64 (x12 + 1)) x645000 x645001 x645002 x645003 x646000 x646001 x646002 x646003 x647000 x647001 x647002 x647003 x647004 x647005 x647006 x647007 x647008 x648000 x648001 x648002 x648003)) else (ddilaw44_FailoverApart.l0 k x10 false (wrap64 (x12 + 1)) x645000 x645001 x645002 x645003 x646000 x646001 x646002 x646003 x647000 x647001 x647002 x647003 x647004 x647005 x647006 x647007 x647008 x648000 x648001 x648002 x648003)))) else (none)) else ((failover_Mine.f k x645000 x645001 x645002 x645003 x647000 x647001 x647002 x647003 x647004 x647005 x647006 x647007 x647008 x648000 x648001 x648002).bind fun t660 => ((failover_Mine.f k x646000 x646001 x646002 x646003 x647000 x647001 x647002 x647003 x647004 x647005 x647006 x647007 x647008 x648000 x648001 x648002).bind fun t661 => (if x10 = true then (if t660 = true then (some t661) else (some false)) else (if t660 = true then (if t661 = true then (ddilaw44_FailoverApart.j2 k true x645000 x645001 x645002 x645003 x646000 x646001 x646002 x646003 x647000 x647001 x647002 x647003 x647004 x647005 x647006 x647007 x647008 x648000 x648001 x648002 x648003) else (ddilaw44_FailoverApart.j2 k (x11 != true) x645000 x645001 x645002 x645003 x646000 x646001 x646002 x646003 x647000 x647001 x647002 x647003 x647004 x647005 x647006 x647007 x647008 x648000 x648001 x648002 x648003)) else (ddilaw44_FailoverApart.j2 k (x11 != t661) x645000 x645001 x645002 x645003 x646000 x646001 x646002 x646003 x647000 x647001 x647002 x647003 x647004 x647005 x647006 x647007 x647008 x648000 x648001 x648002 x648003)))))
def ddilaw44_FailoverApart.j2 : Nat → Bool → Bool → Int → Int → Int → Bool → Int → Int → Int → Bool → Int → Int → Int → ByteArray → List (S57) → List (S53) → List (S83) → Int → Bool → Int → Int → Int → Option (Bool)
 | 0,_,_,_,_,_,_,_,_,_,_,_,_,_,_,_,_,_,_,_,_,_,_ => none
 | k + 1,x109,x645000,x645001,x645002,x645003,x646000,x646001,x646002,x646003,x647000,x647001,x647002,x647003,x647004,x647005,x647006,x647007,x647008,x648000,x648001,x648002,x648003 => if x109 = true then (some false) else (if x645001 = 3 then (if x648003 ≥ x645002 then (ddilaw44_FailoverApart.j3 k true x645000 x645001 x645002 x645003 x646000 x646001 x646002 x646003 x647000 x647001 x647002 x647003 x647004 x647005 x647006 x647007 x647008 x648000 x648001 x648002 x648003) else (if x646001 = 3 then (ddilaw44_FailoverApart.j3 k (decide (x648003 ≥ x646002)) x645000 x645001 x645002 x645003 x646000 x646001 x646002 x646003 x647000 x647001 x647002 x647003 x647004 x647005 x647006 x647007 x647008 x648000 x648001 x648002 x648003) else (ddilaw44_FailoverApart.j3 k false x645000 x645001 x645002 x645003 x646000 x646001 x646002 x646003 x647000 x647001 x647002 x647003 x647004 x647005 x647006 x647007 x647008 x648000 x648001 x648002 x648003))) else (if x646001 = 3 then (ddilaw44_FailoverApart.j3 k (decide (x648003 ≥ x646002)) x645000 x645001 x645002 x645003 x646000 x646001 x646002 x646003 x647000 x647001 x647002 x647003 x647004 x647005 x647006 x647007 x647008 x648000 x648001 x648002 x648003) else (ddilaw44_FailoverApart.j3 k false x645000 x645001 x645002 x645003 x646000 x646001 x646002 x646003 x647000 x647001 x647002 x647003 x647004 x647005 x647006 x647007 x647008 x648000 x648001 x648002 x648003)))
def ddilaw44_FailoverApart.j3 : Nat → Bool → Bool → Int → Int → Int → Bool → Int → Int → Int → Bool → Int → Int → Int → ByteArray → List (S57) → List (S53) → List (S83) → Int → Bool → Int → Int → Int → Option (Bool)
 | 0,_,_,_,_,_,_,_,_,_,_,_,_,_,_,_,_,_,_,_,_,_,_ => none
 | k + 1,x131,x645000,x645001,x645002,x645003,x646000,x646001,x646002,x646003,x647000,x647001,x647002,x647003,x647004,x647005,x647006,x647007,x647008,x648000,x648001,x648002,x648003 => if x131 = true then (some true) else ((failover_Leases.f k x645000 x645001 x645002 x645003 x647000 x647001 x647002 x647003 x647004 x647005 x647006 x647007 x647008 x648000 x648001 x648002 x648003).bind fun t662 => (if t662 = true then ((failover_Leases.f k x646000 x646001 x646002 x646003 x647000 x647001 x647002 x647003 x647004 x647005 x647006 x647007 x647008 x648000 x648001 x648002 x648003).bind fun t663 => (some (!t663))) else (some true)))
end
def ddilaw44_FailoverApart.f (k : Nat) (a0_0 : Bool) (a0_1 : Int) (a0_2 : Int) (a0_3 : Int) (a1_0 : Bool) (a1_1 : Int) (a1_2 : Int) (a1_3 : Int) (a2_0 : Bool) (a2_1 : Int) (a2_2 : Int) (a2_3 : Int) (a2_4 : ByteArray) (l2_5 : List (S57)) (l2_6 : List (S53)) (l2_7 : List (S83)) (a2_8 : Int) (a3_0 : Bool) (a3_1 : Int) (a3_2 : Int) (a3_3 : Int) : Option (Bool) := (ddilaw44_awake.f k).bind fun t648 => (if t648 = true then (if (a0_0 == a1_0) = true then (ddilaw44_FailoverApart.j0 k true a0_0 a0_1 a0_2 a0_3 a1_0 a1_1 a1_2 a1_3 a2_0 a2_1 a2_2 a2_3 a2_4 l2_5 l2_6 l2_7 a2_8 a3_0 a3_1 a3_2 a3_3) else ((ddilaw44_small.f k a2_0 a2_1 a2_2 a2_3 a2_4 l2_5 l2_6 l2_7 a2_8).bind fun t649 => (if t649 = true then ((pool_Check.f k a2_0 a2_1 a2_2 a2_3 a2_4 l2_5 l2_6 l2_7 a2_8).bind fun t650 => (ddilaw44_FailoverApart.j0 k (t650 != 0) a0_0 a0_1 a0_2 a0_3 a1_0 a1_1 a1_2 a1_3 a2_0 a2_1 a2_2 a2_3 a2_4 l2_5 l2_6 l2_7 a2_8 a3_0 a3_1 a3_2 a3_3)) else (ddilaw44_FailoverApart.j0 k true a0_0 a0_1 a0_2 a0_3 a1_0 a1_1 a1_2 a1_3 a2_0 a2_1 a2_2 a2_3 a2_4 l2_5 l2_6 l2_7 a2_8 a3_0 a3_1 a3_2 a3_3)))) else (some false))
/-- THE ONE PURE STATEMENT of ddilaw44_FailoverApart: ours. -/
def ddilaw44_FailoverApart.Pure : Prop := ∀ (a0_0 : Bool) (a0_1 : Int) (a0_2 : Int) (a0_3 : Int) (a1_0 : Bool) (a1_1 : Int) (a1_2 : Int) (a1_3 : Int) (a2_0 : Bool) (a2_1 : Int) (a2_2 : Int) (a2_3 : Int) (a2_4 : ByteArray) (l2_5 : List (S57)) (l2_6 : List (S53)) (l2_7 : List (S83)) (a2_8 : Int) (a3_0 : Bool) (a3_1 : Int) (a3_2 : Int) (a3_3 : Int),okS37 (⟨a0_0,a0_1,a0_2,a0_3⟩ : S37) → okS37 (⟨a1_0,a1_1,a1_2,a1_3⟩ : S37) → okS46 (⟨(⟨(⟨a2_0,a2_1,a2_2⟩ : S25),a2_3⟩ : S41),a2_4,l2_5,l2_6,l2_7,a2_8⟩ : S46) → okS48 (⟨(⟨a3_0,a3_1,a3_2⟩ : S25),a3_3⟩ : S48) → ∃ k,ddilaw44_FailoverApart.f k a0_0 a0_1 a0_2 a0_3 a1_0 a1_1 a1_2 a1_3 a2_0 a2_1 a2_2 a2_3 a2_4 l2_5 l2_6 l2_7 a2_8 a3_0 a3_1 a3_2 a3_3 = some true
end Go.Proofs.YtpcjablkjaiapaaDoor.QA
