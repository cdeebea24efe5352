-- Written by this session's own program (wip/xprint) out of the translation; Lean checks it.
import Derived.Below
import Derived.Deep.Draws
import Derived.Deep.AppendLies
import Derived.Maps.AppendAt
import Derived.OwnWalk
import Derived.Laws.BytesArg
import Derived.Laws.MakeOwn
import Derived.Laws.OwnMore
import Derived.Deep.OwnRows
import Derived.Tactics
import Derived.Lib.ConvBytes
import Derived.Laws.Slices
import Derived.WalkKit
import Derived.KernelRfl
import Derived.RowKit3
import Derived.Deep.LoopGhost
import Derived.Deep.QuietTactic
import Derived.BigQuiet
import Derived.WideLaws
import Derived.Deep.DeepCutAuto
import Derived.Deep.CutBlock
import Derived.Deep.RegionHeld3
import Derived.Laws.Rows
import Derived.Lib.AppendStr
import Derived.ArgAppend
import Derived.Laws.IdiomCopy
import Derived.OrdersHeld
import Derived.Laws.BitsLemmas
import Derived.RowKit
import Derived.Test.YtgkpinecggoilaaWMore
namespace Go.Proofs.Ytgkpinecggoilaa.QA
open Go.RowKit Go.Proofs.YtgkpinecggoilaaW.PrintWords Go.Proofs.YtgkpinecggoilaaW.PrintLast Go.Proofs.YtgkpinecggoilaaW.PrintMore
set_option linter.unusedVariables false

structure S25 where
  f0 : Bool
  f1 : Int
  f2 : Int
def z25 : S25 := ⟨false, (0 : Int), (0 : Int)⟩
def rd_T25 (xs : List S25) (i : Int) : S25 := xs.getD i.toNat z25
structure S34 where
  f0 : S25
  f1 : Int
  f2 : Int
  f3 : Int
def z34 : S34 := ⟨z25, (0 : Int), (0 : Int), (0 : Int)⟩
def rd_T34 (xs : List S34) (i : Int) : S34 := xs.getD i.toNat z34
structure S35 where
  f0 : S25
  f1 : Int
  f2 : Int
  f3 : Int
def z35 : S35 := ⟨z25, (0 : Int), (0 : Int), (0 : Int)⟩
def rd_T35 (xs : List S35) (i : Int) : S35 := xs.getD i.toNat z35
structure S27 where
  f0 : S25
  f1 : Bool
  f2 : Int
  f3 : Int
def z27 : S27 := ⟨z25, false, (0 : Int), (0 : Int)⟩
def rd_T27 (xs : List S27) (i : Int) : S27 := xs.getD i.toNat z27
def rd_L7 (xs : List (List S25)) (i : Int) : (List S25) := xs.getD i.toNat ([] : List S25)
structure S42 where
  f0 : (List S25)
  f1 : (List S25)
  f2 : Int
def z42 : S42 := ⟨([] : List S25), ([] : List S25), (0 : Int)⟩
def rd_T42 (xs : List S42) (i : Int) : S42 := xs.getD i.toNat z42
def ddilaw32_back.l0 : Nat → List (S35) → List (S34) → Int → Int → Option ((List (S35)))
  | 0, _, _, _, _ => none
  | k + 1, x3, x6, x7, x8 => if x8 < x7 then (if 0 ≤ x8 then (if x8 < (x6.length : Int) then (if x3.length < 2932031007402 then (ddilaw32_back.l0 k (x3 ++ [(⟨(⟨(rd_T34 x6 x8).f0.f0, (rd_T34 x6 x8).f0.f1, (rd_T34 x6 x8).f0.f2⟩ : S25), (rd_T34 x6 x8).f1, (rd_T34 x6 x8).f2, (rd_T34 x6 x8).f3⟩ : S35)]) x6 x7 (wrap64 (x8 + 1))) else (none)) else (none)) else (none)) else (some x3)
def ddilaw32_back.f (k : Nat) (l0 : List (S34)) : Option ((List (S35))) := ddilaw32_back.l0 k ([] : List (S35)) l0 (l0.length : Int) 0
theorem ddilaw32_back.mono_l : ∀ k, (∀ y0 y1 y2 y3, LeO (ddilaw32_back.l0 k y0 y1 y2 y3) (ddilaw32_back.l0 (k + 1) y0 y1 y2 y3))
  | 0 => fun _ _ _ _ r h => by simp [ddilaw32_back.l0] at h
  | k + 1 => by
    have ih0 := ddilaw32_back.mono_l k
    · intro y0 y1 y2 y3
      unfold ddilaw32_back.l0
      repeat' first
      | (with_reducible exact ih0 _ _ _ _)
      | (with_reducible exact LeO.refl _)
      | (with_reducible exact LeO.none _)
      | (with_reducible refine LeO.ite ?_ ?_)
      | (with_reducible refine LeO.bind ?_ (fun _ => ?_))
      | exact ih0 _ _ _ _
      | exact LeO.none _
      | refine LeO.ite ?_ ?_
      | refine LeO.bind ?_ (fun _ => ?_)
theorem ddilaw32_back.mono : ∀ a0 k, LeO (ddilaw32_back.f k a0) (ddilaw32_back.f (k + 1) a0) := by
  intro a0 k
  have ih0 := ddilaw32_back.mono_l k
  unfold ddilaw32_back.f
  repeat' first
      | (with_reducible exact ih0 _ _ _ _)
      | (with_reducible exact LeO.refl _)
      | (with_reducible exact LeO.none _)
      | (with_reducible refine LeO.ite ?_ ?_)
      | (with_reducible refine LeO.bind ?_ (fun _ => ?_))
      | exact ih0 _ _ _ _
      | exact LeO.none _
      | refine LeO.ite ?_ ?_
      | refine LeO.bind ?_ (fun _ => ?_)
def ddilaw32_same.l0 : Nat → List (S35) → List (S34) → Int → Int → Option (Bool)
  | 0, _, _, _, _ => none
  | k + 1, x0, x1, x12, x13 => if x13 < x12 then (if 0 ≤ x13 then (if x13 < (x0.length : Int) then (if x13 < (x1.length : Int) then (if ((!(((rd_T35 x0 x13).f0.f0) == ((rd_T34 x1 x13).f0.f0)) || (!(((rd_T35 x0 x13).f0.f1) == ((rd_T34 x1 x13).f0.f1)) || (!(((rd_T35 x0 x13).f0.f2) == ((rd_T34 x1 x13).f0.f2))))) || (!(((rd_T35 x0 x13).f1) == ((rd_T34 x1 x13).f1)) || (!(((rd_T35 x0 x13).f2) == ((rd_T34 x1 x13).f2)) || (!(((rd_T35 x0 x13).f3) == ((rd_T34 x1 x13).f3)))))) = true then (some false) else (ddilaw32_same.l0 k x0 x1 x12 (wrap64 (x13 + 1)))) else (none)) else (none)) else (none)) else (some true)
def ddilaw32_same.f (k : Nat) (l0 : List (S35)) (l1 : List (S34)) : Option (Bool) := if (l0.length : Int) = (l1.length : Int) then (ddilaw32_same.l0 k l0 l1 (l0.length : Int) 0) else (some false)
theorem ddilaw32_same.mono_l : ∀ k, (∀ y0 y1 y2 y3, LeO (ddilaw32_same.l0 k y0 y1 y2 y3) (ddilaw32_same.l0 (k + 1) y0 y1 y2 y3))
  | 0 => fun _ _ _ _ r h => by simp [ddilaw32_same.l0] at h
  | k + 1 => by
    have ih0 := ddilaw32_same.mono_l k
    · intro y0 y1 y2 y3
      unfold ddilaw32_same.l0
      repeat' first
      | (with_reducible exact ih0 _ _ _ _)
      | (with_reducible exact LeO.refl _)
      | (with_reducible exact LeO.none _)
      | (with_reducible refine LeO.ite ?_ ?_)
      | (with_reducible refine LeO.bind ?_ (fun _ => ?_))
      | exact ih0 _ _ _ _
      | exact LeO.none _
      | refine LeO.ite ?_ ?_
      | refine LeO.bind ?_ (fun _ => ?_)
theorem ddilaw32_same.mono : ∀ a0 a1 k, LeO (ddilaw32_same.f k a0 a1) (ddilaw32_same.f (k + 1) a0 a1) := by
  intro a0 a1 k
  have ih0 := ddilaw32_same.mono_l k
  unfold ddilaw32_same.f
  repeat' first
      | (with_reducible exact ih0 _ _ _ _)
      | (with_reducible exact LeO.refl _)
      | (with_reducible exact LeO.none _)
      | (with_reducible refine LeO.ite ?_ ?_)
      | (with_reducible refine LeO.bind ?_ (fun _ => ?_))
      | exact ih0 _ _ _ _
      | exact LeO.none _
      | refine LeO.ite ?_ ?_
      | refine LeO.bind ?_ (fun _ => ?_)
def upstream_cut.f (a0 : Int) (a1 : Int) (a2 : Int) : Option (Int) := some (mn (mx a0 a1) a2)
def upstream_index_1.f (a0_0 : Bool) (a0_1 : Int) (a0_2 : Int) (a0_3 : Int) (a0_4 : Int) (a0_5 : Int) (a1_0 : Bool) (a1_1 : Int) (a1_2 : Int) : Option (Bool) := some (a0_0 == a1_0 && (a0_1 == a1_1 && (a0_2 == a1_2)))
def slices_IndexFunc_37.l0 : Nat → List (S35) → Int → Int → Bool → Int → Int → Option (Int)
  | 0, _, _, _, _, _, _ => none
  | k + 1, x0, x7, x8, x700101000, x700101001, x700101002 => if x8 < x7 then (if 0 ≤ x8 then (if x8 < (x0.length : Int) then ((upstream_index_1.f ((rd_T35 x0 x8).f0.f0) ((rd_T35 x0 x8).f0.f1) ((rd_T35 x0 x8).f0.f2) ((rd_T35 x0 x8).f1) ((rd_T35 x0 x8).f2) ((rd_T35 x0 x8).f3) x700101000 x700101001 x700101002).bind fun t110 => (if t110 = true then (some x8) else (slices_IndexFunc_37.l0 k x0 x7 (wrap64 (x8 + 1)) x700101000 x700101001 x700101002))) else (none)) else (none)) else (some (-1))
def slices_IndexFunc_37.f (k : Nat) (l0 : List (S35)) (a1_0 : Bool) (a1_1 : Int) (a1_2 : Int) : Option (Int) := slices_IndexFunc_37.l0 k l0 (l0.length : Int) 0 a1_0 a1_1 a1_2
theorem slices_IndexFunc_37.mono_l : ∀ k, (∀ y0 y1 y2 y3 y4 y5, LeO (slices_IndexFunc_37.l0 k y0 y1 y2 y3 y4 y5) (slices_IndexFunc_37.l0 (k + 1) y0 y1 y2 y3 y4 y5))
  | 0 => fun _ _ _ _ _ _ r h => by simp [slices_IndexFunc_37.l0] at h
  | k + 1 => by
    have ih0 := slices_IndexFunc_37.mono_l k
    · intro y0 y1 y2 y3 y4 y5
      unfold slices_IndexFunc_37.l0
      repeat' first
      | (with_reducible exact ih0 _ _ _ _ _ _)
      | (with_reducible exact LeO.refl _)
      | (with_reducible exact LeO.none _)
      | (with_reducible refine LeO.ite ?_ ?_)
      | (with_reducible refine LeO.bind ?_ (fun _ => ?_))
      | exact ih0 _ _ _ _ _ _
      | exact LeO.none _
      | refine LeO.ite ?_ ?_
      | refine LeO.bind ?_ (fun _ => ?_)
theorem slices_IndexFunc_37.mono : ∀ a0 a1 a2 a3 k, LeO (slices_IndexFunc_37.f k a0 a1 a2 a3) (slices_IndexFunc_37.f (k + 1) a0 a1 a2 a3) := by
  intro a0 a1 a2 a3 k
  have ih0 := slices_IndexFunc_37.mono_l k
  unfold slices_IndexFunc_37.f
  repeat' first
      | (with_reducible exact ih0 _ _ _ _ _ _)
      | (with_reducible exact LeO.refl _)
      | (with_reducible exact LeO.none _)
      | (with_reducible refine LeO.ite ?_ ?_)
      | (with_reducible refine LeO.bind ?_ (fun _ => ?_))
      | exact ih0 _ _ _ _ _ _
      | exact LeO.none _
      | refine LeO.ite ?_ ?_
      | refine LeO.bind ?_ (fun _ => ?_)
def upstream_index.f (k : Nat) (l0 : List (S35)) (a1_0 : Bool) (a1_1 : Int) (a1_2 : Int) : Option (Int) := (slices_IndexFunc_37.f k l0 a1_0 a1_1 a1_2).bind fun t112 => (some t112)
theorem upstream_index.mono : ∀ a0 a1 a2 a3 k, LeO (upstream_index.f k a0 a1 a2 a3) (upstream_index.f (k + 1) a0 a1 a2 a3) := by
  intro a0 a1 a2 a3 k
  unfold upstream_index.f
  repeat' first
      | (with_reducible exact slices_IndexFunc_37.mono _ _ _ _ _)
      | (with_reducible exact LeO.refl _)
      | (with_reducible exact LeO.none _)
      | (with_reducible refine LeO.ite ?_ ?_)
      | (with_reducible refine LeO.bind ?_ (fun _ => ?_))
      | exact slices_IndexFunc_37.mono _ _ _ _ _
      | exact LeO.none _
      | refine LeO.ite ?_ ?_
      | refine LeO.bind ?_ (fun _ => ?_)
def slices_Clone.f (l0 : List (S35)) : Option (List (S35)) := if l0.length * 48 ≤ 140737488355328 then some l0 else none
def slices_Delete.f (l0 : List (S35)) (a1 a2 : Int) : Option (List (S35)) :=
  if 0 ≤ a1 then (if a1 ≤ a2 then (if a2 ≤ (l0.length : Int) then some (l0.take a1.toNat ++ l0.drop a2.toNat) else none) else none) else none
def addr_number.f (a0 : Int) (a1 : Int) : Option (Int) := if a0 < a1 then (some (-1)) else (if a0 > a1 then (some 1) else (some 0))
def addr_Compare.j0 : Nat → Bool → Bool → Int → Int → Bool → Int → Int → Option (Int)
  | 0, _, _, _, _, _, _, _ => none
  | k + 1, x5, x114000, x114001, x114002, x115000, x115001, x115002 => if x5 = true then (some (-1)) else (if (x114000 != x115000) = true then (some 1) else (if x114001 = x115001 then ((addr_number.f x114002 x115002).bind fun t116 => (some t116)) else ((addr_number.f x114001 x115001).bind fun t115 => (some t115))))
def addr_Compare.f (k : Nat) (a0_0 : Bool) (a0_1 : Int) (a0_2 : Int) (a1_0 : Bool) (a1_1 : Int) (a1_2 : Int) : Option (Int) := if (a0_0 != a1_0) = true then (addr_Compare.j0 k a1_0 a0_0 a0_1 a0_2 a1_0 a1_1 a1_2) else (addr_Compare.j0 k false a0_0 a0_1 a0_2 a1_0 a1_1 a1_2)
theorem addr_Compare.mono_l : ∀ k, (∀ y0 y1 y2 y3 y4 y5 y6, LeO (addr_Compare.j0 k y0 y1 y2 y3 y4 y5 y6) (addr_Compare.j0 (k + 1) y0 y1 y2 y3 y4 y5 y6))
  | 0 => fun _ _ _ _ _ _ _ r h => by simp [addr_Compare.j0] at h
  | k + 1 => by
    have ih0 := addr_Compare.mono_l k
    · intro y0 y1 y2 y3 y4 y5 y6
      unfold addr_Compare.j0
      repeat' first
      | (with_reducible exact ih0 _ _ _ _ _ _ _)
      | (with_reducible exact LeO.refl _)
      | (with_reducible exact LeO.none _)
      | (with_reducible refine LeO.ite ?_ ?_)
      | (with_reducible refine LeO.bind ?_ (fun _ => ?_))
      | exact ih0 _ _ _ _ _ _ _
      | exact LeO.none _
      | refine LeO.ite ?_ ?_
      | refine LeO.bind ?_ (fun _ => ?_)
theorem addr_Compare.mono : ∀ a0 a1 a2 a3 a4 a5 k, LeO (addr_Compare.f k a0 a1 a2 a3 a4 a5) (addr_Compare.f (k + 1) a0 a1 a2 a3 a4 a5) := by
  intro a0 a1 a2 a3 a4 a5 k
  have ih0 := addr_Compare.mono_l k
  unfold addr_Compare.f
  repeat' first
      | (with_reducible exact ih0 _ _ _ _ _ _ _)
      | (with_reducible exact LeO.refl _)
      | (with_reducible exact LeO.none _)
      | (with_reducible refine LeO.ite ?_ ?_)
      | (with_reducible refine LeO.bind ?_ (fun _ => ?_))
      | exact ih0 _ _ _ _ _ _ _
      | exact LeO.none _
      | refine LeO.ite ?_ ?_
      | refine LeO.bind ?_ (fun _ => ?_)
def upstream_store_1.f (k : Nat) (a0_0 : Bool) (a0_1 : Int) (a0_2 : Int) (a0_3 : Int) (a0_4 : Int) (a0_5 : Int) (a1_0 : Bool) (a1_1 : Int) (a1_2 : Int) (a1_3 : Int) (a1_4 : Int) (a1_5 : Int) : Option (Bool) := (addr_Compare.f k a0_0 a0_1 a0_2 a1_0 a1_1 a1_2).bind fun t118 => (some (decide (t118 > 0)))
theorem upstream_store_1.mono : ∀ a0 a1 a2 a3 a4 a5 a6 a7 a8 a9 a10 a11 k, LeO (upstream_store_1.f k a0 a1 a2 a3 a4 a5 a6 a7 a8 a9 a10 a11) (upstream_store_1.f (k + 1) a0 a1 a2 a3 a4 a5 a6 a7 a8 a9 a10 a11) := by
  intro a0 a1 a2 a3 a4 a5 a6 a7 a8 a9 a10 a11 k
  unfold upstream_store_1.f
  repeat' first
      | (with_reducible exact addr_Compare.mono _ _ _ _ _ _ _)
      | (with_reducible exact LeO.refl _)
      | (with_reducible exact LeO.none _)
      | (with_reducible refine LeO.ite ?_ ?_)
      | (with_reducible refine LeO.bind ?_ (fun _ => ?_))
      | exact addr_Compare.mono _ _ _ _ _ _ _
      | exact LeO.none _
      | refine LeO.ite ?_ ?_
      | refine LeO.bind ?_ (fun _ => ?_)
def slices_Reverse.l0 : Nat → List (S35) → Int → Int → Option ((List (S35)))
  | 0, _, _, _ => none
  | k + 1, x0, x2, x3 => if x2 < x3 then (if 0 ≤ x3 then (if x3 < (x0.length : Int) then (if 0 ≤ x2 then (if x2 < (x0.length : Int) then (slices_Reverse.l0 k ((x0.set (x2 : Int).toNat (⟨(⟨(rd_T35 x0 x3).f0.f0, (rd_T35 x0 x3).f0.f1, (rd_T35 x0 x3).f0.f2⟩ : S25), (rd_T35 x0 x3).f1, (rd_T35 x0 x3).f2, (rd_T35 x0 x3).f3⟩ : S35)).set (x3 : Int).toNat (⟨(⟨(rd_T35 x0 x2).f0.f0, (rd_T35 x0 x2).f0.f1, (rd_T35 x0 x2).f0.f2⟩ : S25), (rd_T35 x0 x2).f1, (rd_T35 x0 x2).f2, (rd_T35 x0 x2).f3⟩ : S35)) (wrap64 (x2 + 1)) (wrap64 (x3 - 1))) else (none)) else (none)) else (none)) else (none)) else (some x0)
def slices_Reverse.f (k : Nat) (l0 : List (S35)) : Option ((List (S35))) := slices_Reverse.l0 k l0 0 (wrap64 ((l0.length : Int) - 1))
theorem slices_Reverse.mono_l : ∀ k, (∀ y0 y1 y2, LeO (slices_Reverse.l0 k y0 y1 y2) (slices_Reverse.l0 (k + 1) y0 y1 y2))
  | 0 => fun _ _ _ r h => by simp [slices_Reverse.l0] at h
  | k + 1 => by
    have ih0 := slices_Reverse.mono_l k
    · intro y0 y1 y2
      unfold slices_Reverse.l0
      repeat' first
      | (with_reducible exact ih0 _ _ _)
      | (with_reducible exact LeO.refl _)
      | (with_reducible exact LeO.none _)
      | (with_reducible refine LeO.ite ?_ ?_)
      | (with_reducible refine LeO.bind ?_ (fun _ => ?_))
      | exact ih0 _ _ _
      | exact LeO.none _
      | refine LeO.ite ?_ ?_
      | refine LeO.bind ?_ (fun _ => ?_)
theorem slices_Reverse.mono : ∀ a0 k, LeO (slices_Reverse.f k a0) (slices_Reverse.f (k + 1) a0) := by
  intro a0 k
  have ih0 := slices_Reverse.mono_l k
  unfold slices_Reverse.f
  repeat' first
      | (with_reducible exact ih0 _ _ _)
      | (with_reducible exact LeO.refl _)
      | (with_reducible exact LeO.none _)
      | (with_reducible refine LeO.ite ?_ ?_)
      | (with_reducible refine LeO.bind ?_ (fun _ => ?_))
      | exact ih0 _ _ _
      | exact LeO.none _
      | refine LeO.ite ?_ ?_
      | refine LeO.bind ?_ (fun _ => ?_)
def slices_Insert.f (l0 : List (S35)) (a1 : Int) (l2 : List (S35)) : Option (List (S35)) :=
  if 0 ≤ a1 then (if a1 ≤ (l0.length : Int) then (if (l0.length + l2.length) * 48 ≤ 140737488355328 then some (l0.take a1.toNat ++ l2 ++ l0.drop a1.toNat) else none) else none) else none
def slices_IndexFunc_40.l0 : Nat → List (S35) → Int → Int → Bool → Int → Int → Int → Int → Int → Option (Int)
  | 0, _, _, _, _, _, _, _, _, _ => none
  | k + 1, x0, x7, x8, x700101000, x700101001, x700101002, x700101003, x700101004, x700101005 => if x8 < x7 then (if 0 ≤ x8 then (if x8 < (x0.length : Int) then ((upstream_store_1.f k ((rd_T35 x0 x8).f0.f0) ((rd_T35 x0 x8).f0.f1) ((rd_T35 x0 x8).f0.f2) ((rd_T35 x0 x8).f1) ((rd_T35 x0 x8).f2) ((rd_T35 x0 x8).f3) x700101000 x700101001 x700101002 x700101003 x700101004 x700101005).bind fun t128 => (if t128 = true then (some x8) else (slices_IndexFunc_40.l0 k x0 x7 (wrap64 (x8 + 1)) x700101000 x700101001 x700101002 x700101003 x700101004 x700101005))) else (none)) else (none)) else (some (-1))
def slices_IndexFunc_40.f (k : Nat) (l0 : List (S35)) (a1_0 : Bool) (a1_1 : Int) (a1_2 : Int) (a1_3 : Int) (a1_4 : Int) (a1_5 : Int) : Option (Int) := slices_IndexFunc_40.l0 k l0 (l0.length : Int) 0 a1_0 a1_1 a1_2 a1_3 a1_4 a1_5
theorem slices_IndexFunc_40.mono_l : ∀ k, (∀ y0 y1 y2 y3 y4 y5 y6 y7 y8, LeO (slices_IndexFunc_40.l0 k y0 y1 y2 y3 y4 y5 y6 y7 y8) (slices_IndexFunc_40.l0 (k + 1) y0 y1 y2 y3 y4 y5 y6 y7 y8))
  | 0 => fun _ _ _ _ _ _ _ _ _ r h => by simp [slices_IndexFunc_40.l0] at h
  | k + 1 => by
    have ih0 := slices_IndexFunc_40.mono_l k
    · intro y0 y1 y2 y3 y4 y5 y6 y7 y8
      unfold slices_IndexFunc_40.l0
      repeat' first
      | (with_reducible exact ih0 _ _ _ _ _ _ _ _ _)
      | (with_reducible exact upstream_store_1.mono _ _ _ _ _ _ _ _ _ _ _ _ _)
      | (with_reducible exact LeO.refl _)
      | (with_reducible exact LeO.none _)
      | (with_reducible refine LeO.ite ?_ ?_)
      | (with_reducible refine LeO.bind ?_ (fun _ => ?_))
      | exact ih0 _ _ _ _ _ _ _ _ _
      | exact upstream_store_1.mono _ _ _ _ _ _ _ _ _ _ _ _ _
      | exact LeO.none _
      | refine LeO.ite ?_ ?_
      | refine LeO.bind ?_ (fun _ => ?_)
theorem slices_IndexFunc_40.mono : ∀ a0 a1 a2 a3 a4 a5 a6 k, LeO (slices_IndexFunc_40.f k a0 a1 a2 a3 a4 a5 a6) (slices_IndexFunc_40.f (k + 1) a0 a1 a2 a3 a4 a5 a6) := by
  intro a0 a1 a2 a3 a4 a5 a6 k
  have ih0 := slices_IndexFunc_40.mono_l k
  unfold slices_IndexFunc_40.f
  repeat' first
      | (with_reducible exact ih0 _ _ _ _ _ _ _ _ _)
      | (with_reducible exact upstream_store_1.mono _ _ _ _ _ _ _ _ _ _ _ _ _)
      | (with_reducible exact LeO.refl _)
      | (with_reducible exact LeO.none _)
      | (with_reducible refine LeO.ite ?_ ?_)
      | (with_reducible refine LeO.bind ?_ (fun _ => ?_))
      | exact ih0 _ _ _ _ _ _ _ _ _
      | exact upstream_store_1.mono _ _ _ _ _ _ _ _ _ _ _ _ _
      | exact LeO.none _
      | refine LeO.ite ?_ ?_
      | refine LeO.bind ?_ (fun _ => ?_)
mutual
def upstream_store.j1 : Nat → List (S35) → Bool → Int → Int → Int → Int → Int → Option ((List (S35)))
  | 0, _, _, _, _, _, _, _ => none
  | k + 1, x5, x130000, x130001, x130002, x130003, x130004, x130005 => (slices_IndexFunc_40.f k x5 x130000 x130001 x130002 x130003 x130004 x130005).bind fun t140 => (if t140 < 0 then (upstream_store.j2 k x5 (x5.length : Int) x130000 x130001 x130002 x130003 x130004 x130005) else (upstream_store.j2 k x5 t140 x130000 x130001 x130002 x130003 x130004 x130005))
def upstream_store.j2 : Nat → List (S35) → Int → Bool → Int → Int → Int → Int → Int → Option ((List (S35)))
  | 0, _, _, _, _, _, _, _, _ => none
  | k + 1, x5, x9, x130000, x130001, x130002, x130003, x130004, x130005 => (slices_Insert.f x5 x9 (([(⟨(⟨x130000, x130001, x130002⟩ : S25), x130003, x130004, x130005⟩ : S35)] : List (S35)))).bind fun t144 => (some t144)
def upstream_store.l0 : Nat → List (S35) → Int → Int → Int → Bool → Int → Int → Int → Int → Int → Option ((List (S35)))
  | 0, _, _, _, _, _, _, _, _, _, _ => none
  | k + 1, x5, x7, x27, x28, x130000, x130001, x130002, x130003, x130004, x130005 => if x28 < x27 then (if 0 ≤ x28 then (if x28 < (x5.length : Int) then (if 0 ≤ x7 then (if x7 < (x5.length : Int) then (if ((rd_T35 x5 x28).f3) < ((rd_T35 x5 x7).f3) then (upstream_store.l0 k x5 x28 x27 (wrap64 (x28 + 1)) x130000 x130001 x130002 x130003 x130004 x130005) else (upstream_store.l0 k x5 x7 x27 (wrap64 (x28 + 1)) x130000 x130001 x130002 x130003 x130004 x130005)) else (none)) else (none)) else (none)) else (none)) else ((slices_Delete.f x5 x7 (wrap64 (x7 + 1))).bind fun t137 => (upstream_store.j1 k t137 x130000 x130001 x130002 x130003 x130004 x130005))
end
def upstream_store.f (k : Nat) (l0 : List (S35)) (a1_0 : Bool) (a1_1 : Int) (a1_2 : Int) (a1_3 : Int) (a1_4 : Int) (a1_5 : Int) : Option ((List (S35))) := (slices_Clone.f l0).bind fun t130 => ((upstream_index.f k t130 a1_0 a1_1 a1_2).bind fun t133 => (if t133 ≥ 0 then (if 0 ≤ t133 then (if t133 < (t130.length : Int) then (some (t130.set (t133 : Int).toNat (⟨(⟨a1_0, a1_1, a1_2⟩ : S25), a1_3, a1_4, a1_5⟩ : S35))) else (none)) else (none)) else (if (t130.length : Int) ≥ 256 then (upstream_store.l0 k t130 0 (t130.length : Int) 0 a1_0 a1_1 a1_2 a1_3 a1_4 a1_5) else (upstream_store.j1 k t130 a1_0 a1_1 a1_2 a1_3 a1_4 a1_5))))
theorem upstream_store.mono_l : ∀ k, (∀ y0 y1 y2 y3 y4 y5 y6, LeO (upstream_store.j1 k y0 y1 y2 y3 y4 y5 y6) (upstream_store.j1 (k + 1) y0 y1 y2 y3 y4 y5 y6)) ∧ (∀ y0 y1 y2 y3 y4 y5 y6 y7, LeO (upstream_store.j2 k y0 y1 y2 y3 y4 y5 y6 y7) (upstream_store.j2 (k + 1) y0 y1 y2 y3 y4 y5 y6 y7)) ∧ (∀ y0 y1 y2 y3 y4 y5 y6 y7 y8 y9, LeO (upstream_store.l0 k y0 y1 y2 y3 y4 y5 y6 y7 y8 y9) (upstream_store.l0 (k + 1) y0 y1 y2 y3 y4 y5 y6 y7 y8 y9))
  | 0 => ⟨fun _ _ _ _ _ _ _ r h => by simp [upstream_store.j1] at h, fun _ _ _ _ _ _ _ _ r h => by simp [upstream_store.j2] at h, fun _ _ _ _ _ _ _ _ _ _ r h => by simp [upstream_store.l0] at h⟩
  | k + 1 => by
    obtain ⟨ih0, ih1, ih2⟩ := upstream_store.mono_l k
    refine ⟨?_, ?_, ?_⟩
    · intro y0 y1 y2 y3 y4 y5 y6
      unfold upstream_store.j1
      repeat' first
      | (with_reducible exact ih0 _ _ _ _ _ _ _)
      | (with_reducible exact ih1 _ _ _ _ _ _ _ _)
      | (with_reducible exact ih2 _ _ _ _ _ _ _ _ _ _)
      | (with_reducible exact slices_IndexFunc_40.mono _ _ _ _ _ _ _ _)
      | (with_reducible exact upstream_index.mono _ _ _ _ _)
      | (with_reducible exact LeO.refl _)
      | (with_reducible exact LeO.none _)
      | (with_reducible refine LeO.ite ?_ ?_)
      | (with_reducible refine LeO.bind ?_ (fun _ => ?_))
      | exact ih0 _ _ _ _ _ _ _
      | exact ih1 _ _ _ _ _ _ _ _
      | exact ih2 _ _ _ _ _ _ _ _ _ _
      | exact slices_IndexFunc_40.mono _ _ _ _ _ _ _ _
      | exact upstream_index.mono _ _ _ _ _
      | exact LeO.none _
      | refine LeO.ite ?_ ?_
      | refine LeO.bind ?_ (fun _ => ?_)
    · intro y0 y1 y2 y3 y4 y5 y6 y7
      unfold upstream_store.j2
      repeat' first
      | (with_reducible exact ih0 _ _ _ _ _ _ _)
      | (with_reducible exact ih1 _ _ _ _ _ _ _ _)
      | (with_reducible exact ih2 _ _ _ _ _ _ _ _ _ _)
      | (with_reducible exact slices_IndexFunc_40.mono _ _ _ _ _ _ _ _)
      | (with_reducible exact upstream_index.mono _ _ _ _ _)
      | (with_reducible exact LeO.refl _)
      | (with_reducible exact LeO.none _)
      | (with_reducible refine LeO.ite ?_ ?_)
      | (with_reducible refine LeO.bind ?_ (fun _ => ?_))
      | exact ih0 _ _ _ _ _ _ _
      | exact ih1 _ _ _ _ _ _ _ _
      | exact ih2 _ _ _ _ _ _ _ _ _ _
      | exact slices_IndexFunc_40.mono _ _ _ _ _ _ _ _
      | exact upstream_index.mono _ _ _ _ _
      | exact LeO.none _
      | refine LeO.ite ?_ ?_
      | refine LeO.bind ?_ (fun _ => ?_)
    · intro y0 y1 y2 y3 y4 y5 y6 y7 y8 y9
      unfold upstream_store.l0
      repeat' first
      | (with_reducible exact ih0 _ _ _ _ _ _ _)
      | (with_reducible exact ih1 _ _ _ _ _ _ _ _)
      | (with_reducible exact ih2 _ _ _ _ _ _ _ _ _ _)
      | (with_reducible exact slices_IndexFunc_40.mono _ _ _ _ _ _ _ _)
      | (with_reducible exact upstream_index.mono _ _ _ _ _)
      | (with_reducible exact LeO.refl _)
      | (with_reducible exact LeO.none _)
      | (with_reducible refine LeO.ite ?_ ?_)
      | (with_reducible refine LeO.bind ?_ (fun _ => ?_))
      | exact ih0 _ _ _ _ _ _ _
      | exact ih1 _ _ _ _ _ _ _ _
      | exact ih2 _ _ _ _ _ _ _ _ _ _
      | exact slices_IndexFunc_40.mono _ _ _ _ _ _ _ _
      | exact upstream_index.mono _ _ _ _ _
      | exact LeO.none _
      | refine LeO.ite ?_ ?_
      | refine LeO.bind ?_ (fun _ => ?_)
theorem upstream_store.mono : ∀ a0 a1 a2 a3 a4 a5 a6 k, LeO (upstream_store.f k a0 a1 a2 a3 a4 a5 a6) (upstream_store.f (k + 1) a0 a1 a2 a3 a4 a5 a6) := by
  intro a0 a1 a2 a3 a4 a5 a6 k
  obtain ⟨ih0, ih1, ih2⟩ := upstream_store.mono_l k
  unfold upstream_store.f
  repeat' first
      | (with_reducible exact ih0 _ _ _ _ _ _ _)
      | (with_reducible exact ih1 _ _ _ _ _ _ _ _)
      | (with_reducible exact ih2 _ _ _ _ _ _ _ _ _ _)
      | (with_reducible exact slices_IndexFunc_40.mono _ _ _ _ _ _ _ _)
      | (with_reducible exact upstream_index.mono _ _ _ _ _)
      | (with_reducible exact LeO.refl _)
      | (with_reducible exact LeO.none _)
      | (with_reducible refine LeO.ite ?_ ?_)
      | (with_reducible refine LeO.bind ?_ (fun _ => ?_))
      | exact ih0 _ _ _ _ _ _ _
      | exact ih1 _ _ _ _ _ _ _ _
      | exact ih2 _ _ _ _ _ _ _ _ _ _
      | exact slices_IndexFunc_40.mono _ _ _ _ _ _ _ _
      | exact upstream_index.mono _ _ _ _ _
      | exact LeO.none _
      | refine LeO.ite ?_ ?_
      | refine LeO.bind ?_ (fun _ => ?_)
def upstream_Good.j0 : Nat → List (S35) → Int → Bool → Int → Int → Option ((List (S35)))
  | 0, _, _, _, _, _ => none
  | k + 1, x0, x7, x148000, x148001, x148002 => (upstream_store.f k x0 x148000 x148001 x148002 x7 0 0).bind fun t152 => (some t152)
def upstream_Good.f (k : Nat) (l0 : List (S35)) (a1_0 : Bool) (a1_1 : Int) (a1_2 : Int) (a2 : Int) : Option ((List (S35))) := (upstream_cut.f a2 1 30).bind fun t148 => ((upstream_index.f k l0 a1_0 a1_1 a1_2).bind fun t149 => (if t149 ≥ 0 then (if 0 ≤ t149 then (if t149 < (l0.length : Int) then ((upstream_cut.f ((rd_T35 l0 t149).f1) 1 30).bind fun t151 => (upstream_Good.j0 k l0 (mx (wrap64 (Int.tdiv (wrap64 ((wrap64 (3 * t151)) + t148)) 4)) 1) a1_0 a1_1 a1_2)) else (none)) else (none)) else (upstream_Good.j0 k l0 t148 a1_0 a1_1 a1_2)))
theorem upstream_Good.mono_l : ∀ k, (∀ y0 y1 y2 y3 y4, LeO (upstream_Good.j0 k y0 y1 y2 y3 y4) (upstream_Good.j0 (k + 1) y0 y1 y2 y3 y4))
  | 0 => fun _ _ _ _ _ r h => by simp [upstream_Good.j0] at h
  | k + 1 => by
    have ih0 := upstream_Good.mono_l k
    · intro y0 y1 y2 y3 y4
      unfold upstream_Good.j0
      repeat' first
      | (with_reducible exact ih0 _ _ _ _ _)
      | (with_reducible exact upstream_index.mono _ _ _ _ _)
      | (with_reducible exact upstream_store.mono _ _ _ _ _ _ _ _)
      | (with_reducible exact LeO.refl _)
      | (with_reducible exact LeO.none _)
      | (with_reducible refine LeO.ite ?_ ?_)
      | (with_reducible refine LeO.bind ?_ (fun _ => ?_))
      | exact ih0 _ _ _ _ _
      | exact upstream_index.mono _ _ _ _ _
      | exact upstream_store.mono _ _ _ _ _ _ _ _
      | exact LeO.none _
      | refine LeO.ite ?_ ?_
      | refine LeO.bind ?_ (fun _ => ?_)
theorem upstream_Good.mono : ∀ a0 a1 a2 a3 a4 k, LeO (upstream_Good.f k a0 a1 a2 a3 a4) (upstream_Good.f (k + 1) a0 a1 a2 a3 a4) := by
  intro a0 a1 a2 a3 a4 k
  have ih0 := upstream_Good.mono_l k
  unfold upstream_Good.f
  repeat' first
      | (with_reducible exact ih0 _ _ _ _ _)
      | (with_reducible exact upstream_index.mono _ _ _ _ _)
      | (with_reducible exact upstream_store.mono _ _ _ _ _ _ _ _)
      | (with_reducible exact LeO.refl _)
      | (with_reducible exact LeO.none _)
      | (with_reducible refine LeO.ite ?_ ?_)
      | (with_reducible refine LeO.bind ?_ (fun _ => ?_))
      | exact ih0 _ _ _ _ _
      | exact upstream_index.mono _ _ _ _ _
      | exact upstream_store.mono _ _ _ _ _ _ _ _
      | exact LeO.none _
      | refine LeO.ite ?_ ?_
      | refine LeO.bind ?_ (fun _ => ?_)
def ddiref32_Find.l0 : Nat → List (S34) → Int → Bool → Int → Int → Option (Bool × Int × Int × Int × Int × Int)
  | 0, _, _, _, _, _ => none
  | k + 1, x0, x5, x156000, x156001, x156002 => if x5 < (x0.length : Int) then (if 0 ≤ x5 then (if (((rd_T34 x0 x5).f0.f0) == x156000 && (((rd_T34 x0 x5).f0.f1) == x156001 && (((rd_T34 x0 x5).f0.f2) == x156002))) = true then (some ((rd_T34 x0 x5).f0.f0, (rd_T34 x0 x5).f0.f1, (rd_T34 x0 x5).f0.f2, (rd_T34 x0 x5).f1, (rd_T34 x0 x5).f2, (rd_T34 x0 x5).f3)) else (ddiref32_Find.l0 k x0 (wrap64 (x5 + 1)) x156000 x156001 x156002)) else (none)) else (some (x156000, x156001, x156002, 2, 0, 0))
def ddiref32_Find.f (k : Nat) (l0 : List (S34)) (a1_0 : Bool) (a1_1 : Int) (a1_2 : Int) : Option (Bool × Int × Int × Int × Int × Int) := ddiref32_Find.l0 k l0 0 a1_0 a1_1 a1_2
theorem ddiref32_Find.mono_l : ∀ k, (∀ y0 y1 y2 y3 y4, LeO (ddiref32_Find.l0 k y0 y1 y2 y3 y4) (ddiref32_Find.l0 (k + 1) y0 y1 y2 y3 y4))
  | 0 => fun _ _ _ _ _ r h => by simp [ddiref32_Find.l0] at h
  | k + 1 => by
    have ih0 := ddiref32_Find.mono_l k
    · intro y0 y1 y2 y3 y4
      unfold ddiref32_Find.l0
      repeat' first
      | (with_reducible exact ih0 _ _ _ _ _)
      | (with_reducible exact LeO.refl _)
      | (with_reducible exact LeO.none _)
      | (with_reducible refine LeO.ite ?_ ?_)
      | (with_reducible refine LeO.bind ?_ (fun _ => ?_))
      | exact ih0 _ _ _ _ _
      | exact LeO.none _
      | refine LeO.ite ?_ ?_
      | refine LeO.bind ?_ (fun _ => ?_)
theorem ddiref32_Find.mono : ∀ a0 a1 a2 a3 k, LeO (ddiref32_Find.f k a0 a1 a2 a3) (ddiref32_Find.f (k + 1) a0 a1 a2 a3) := by
  intro a0 a1 a2 a3 k
  have ih0 := ddiref32_Find.mono_l k
  unfold ddiref32_Find.f
  repeat' first
      | (with_reducible exact ih0 _ _ _ _ _)
      | (with_reducible exact LeO.refl _)
      | (with_reducible exact LeO.none _)
      | (with_reducible refine LeO.ite ?_ ?_)
      | (with_reducible refine LeO.bind ?_ (fun _ => ?_))
      | exact ih0 _ _ _ _ _
      | exact LeO.none _
      | refine LeO.ite ?_ ?_
      | refine LeO.bind ?_ (fun _ => ?_)
def ddiref32_cut.f (a0 : Int) (a1 : Int) (a2 : Int) : Option (Int) := some (mn (mx a0 a1) a2)
def ddiref32_known.l0 : Nat → List (S34) → Int → Bool → Int → Int → Option (Bool)
  | 0, _, _, _, _, _ => none
  | k + 1, x0, x5, x160000, x160001, x160002 => if x5 < (x0.length : Int) then (if 0 ≤ x5 then (if (((rd_T34 x0 x5).f0.f0) == x160000 && (((rd_T34 x0 x5).f0.f1) == x160001 && (((rd_T34 x0 x5).f0.f2) == x160002))) = true then (some true) else (ddiref32_known.l0 k x0 (wrap64 (x5 + 1)) x160000 x160001 x160002)) else (none)) else (some false)
def ddiref32_known.f (k : Nat) (l0 : List (S34)) (a1_0 : Bool) (a1_1 : Int) (a1_2 : Int) : Option (Bool) := ddiref32_known.l0 k l0 0 a1_0 a1_1 a1_2
theorem ddiref32_known.mono_l : ∀ k, (∀ y0 y1 y2 y3 y4, LeO (ddiref32_known.l0 k y0 y1 y2 y3 y4) (ddiref32_known.l0 (k + 1) y0 y1 y2 y3 y4))
  | 0 => fun _ _ _ _ _ r h => by simp [ddiref32_known.l0] at h
  | k + 1 => by
    have ih0 := ddiref32_known.mono_l k
    · intro y0 y1 y2 y3 y4
      unfold ddiref32_known.l0
      repeat' first
      | (with_reducible exact ih0 _ _ _ _ _)
      | (with_reducible exact LeO.refl _)
      | (with_reducible exact LeO.none _)
      | (with_reducible refine LeO.ite ?_ ?_)
      | (with_reducible refine LeO.bind ?_ (fun _ => ?_))
      | exact ih0 _ _ _ _ _
      | exact LeO.none _
      | refine LeO.ite ?_ ?_
      | refine LeO.bind ?_ (fun _ => ?_)
theorem ddiref32_known.mono : ∀ a0 a1 a2 a3 k, LeO (ddiref32_known.f k a0 a1 a2 a3) (ddiref32_known.f (k + 1) a0 a1 a2 a3) := by
  intro a0 a1 a2 a3 k
  have ih0 := ddiref32_known.mono_l k
  unfold ddiref32_known.f
  repeat' first
      | (with_reducible exact ih0 _ _ _ _ _)
      | (with_reducible exact LeO.refl _)
      | (with_reducible exact LeO.none _)
      | (with_reducible refine LeO.ite ?_ ?_)
      | (with_reducible refine LeO.bind ?_ (fun _ => ?_))
      | exact ih0 _ _ _ _ _
      | exact LeO.none _
      | refine LeO.ite ?_ ?_
      | refine LeO.bind ?_ (fun _ => ?_)
def ddiref02_Compare.f (a0_0 : Bool) (a0_1 : Int) (a0_2 : Int) (a1_0 : Bool) (a1_1 : Int) (a1_2 : Int) : Option (Int) := if (a0_0 != a1_0) = true then (if a1_0 = true then (some (-1)) else (some 1)) else (if a0_1 = a1_1 then (if a0_2 < a1_2 then (some (-1)) else (if a0_2 > a1_2 then (some 1) else (some 0))) else (if a0_1 < a1_1 then (some (-1)) else (some 1)))
mutual
def ddiref32_store.l0 : Nat → List (S34) → List (S34) → Bool → Int → Bool → Int → Int → Int → Int → Int → Option ((List (S34)))
  | 0, _, _, _, _, _, _, _, _, _, _ => none
  | k + 1, x0, x5, x6, x7, x164000, x164001, x164002, x164003, x164004, x164005 => if x7 < (x0.length : Int) then (if 0 ≤ x7 then (if (((rd_T34 x0 x7).f0.f0) == x164000 && (((rd_T34 x0 x7).f0.f1) == x164001 && (((rd_T34 x0 x7).f0.f2) == x164002))) = true then (ddiref32_store.j1 k x0 x5 x6 x7 (!x6) x164000 x164001 x164002 x164003 x164004 x164005) else (ddiref32_store.j1 k x0 x5 x6 x7 false x164000 x164001 x164002 x164003 x164004 x164005)) else (none)) else (some x5)
def ddiref32_store.j1 : Nat → List (S34) → List (S34) → Bool → Int → Bool → Bool → Int → Int → Int → Int → Int → Option ((List (S34)))
  | 0, _, _, _, _, _, _, _, _, _, _, _ => none
  | k + 1, x0, x5, x6, x7, x33, x164000, x164001, x164002, x164003, x164004, x164005 => if x33 = true then (if x5.length < 2932031007402 then (ddiref32_store.l0 k x0 (x5 ++ [(⟨(⟨x164000, x164001, x164002⟩ : S25), x164003, x164004, x164005⟩ : S34)]) true (wrap64 (x7 + 1)) x164000 x164001 x164002 x164003 x164004 x164005) else (none)) else (if 0 ≤ x7 then (if x7 < (x0.length : Int) then (if x5.length < 2932031007402 then (ddiref32_store.l0 k x0 (x5 ++ [(⟨(⟨(rd_T34 x0 x7).f0.f0, (rd_T34 x0 x7).f0.f1, (rd_T34 x0 x7).f0.f2⟩ : S25), (rd_T34 x0 x7).f1, (rd_T34 x0 x7).f2, (rd_T34 x0 x7).f3⟩ : S34)]) x6 (wrap64 (x7 + 1)) x164000 x164001 x164002 x164003 x164004 x164005) else (none)) else (none)) else (none))
def ddiref32_store.j3 : Nat → List (S34) → List (S34) → Int → Bool → Int → Int → Int → Int → Int → Option ((List (S34)))
  | 0, _, _, _, _, _, _, _, _, _ => none
  | k + 1, x0, x5, x8, x164000, x164001, x164002, x164003, x164004, x164005 => ddiref32_store.l2 k x0 x5 x8 false 0 x164000 x164001 x164002 x164003 x164004 x164005
def ddiref32_store.l2 : Nat → List (S34) → List (S34) → Int → Bool → Int → Bool → Int → Int → Int → Int → Int → Option ((List (S34)))
  | 0, _, _, _, _, _, _, _, _, _, _, _ => none
  | k + 1, x0, x5, x8, x10, x11, x164000, x164001, x164002, x164003, x164004, x164005 => if x11 < (x0.length : Int) then (if x11 = x8 then (ddiref32_store.l2 k x0 x5 x8 x10 (wrap64 (x11 + 1)) x164000 x164001 x164002 x164003 x164004 x164005) else (if x10 = true then (ddiref32_store.j5 k x0 x5 x8 x10 x11 false x164000 x164001 x164002 x164003 x164004 x164005) else (if 0 ≤ x11 then ((ddiref02_Compare.f ((rd_T34 x0 x11).f0.f0) ((rd_T34 x0 x11).f0.f1) ((rd_T34 x0 x11).f0.f2) x164000 x164001 x164002).bind fun t176 => (ddiref32_store.j5 k x0 x5 x8 x10 x11 (decide (t176 > 0)) x164000 x164001 x164002 x164003 x164004 x164005)) else (none)))) else (if x10 = true then (some x5) else (if x5.length < 2932031007402 then (some (x5 ++ [(⟨(⟨x164000, x164001, x164002⟩ : S25), x164003, x164004, x164005⟩ : S34)])) else (none)))
def ddiref32_store.j5 : Nat → List (S34) → List (S34) → Int → Bool → Int → Bool → Bool → Int → Int → Int → Int → Int → Option ((List (S34)))
  | 0, _, _, _, _, _, _, _, _, _, _, _, _ => none
  | k + 1, x0, x5, x8, x10, x11, x88, x164000, x164001, x164002, x164003, x164004, x164005 => if x88 = true then (if x5.length < 2932031007402 then ((some (x5 ++ [(⟨(⟨x164000, x164001, x164002⟩ : S25), x164003, x164004, x164005⟩ : S34)] : List (S34))).bind fun y177 => (if 0 ≤ x11 then (if x11 < (x0.length : Int) then (if y177.length < 2932031007402 then (ddiref32_store.l2 k x0 (y177 ++ [(⟨(⟨(rd_T34 x0 x11).f0.f0, (rd_T34 x0 x11).f0.f1, (rd_T34 x0 x11).f0.f2⟩ : S25), (rd_T34 x0 x11).f1, (rd_T34 x0 x11).f2, (rd_T34 x0 x11).f3⟩ : S34)]) x8 true (wrap64 (x11 + 1)) x164000 x164001 x164002 x164003 x164004 x164005) else (none)) else (none)) else (none))) else (none)) else (if 0 ≤ x11 then (if x11 < (x0.length : Int) then (if x5.length < 2932031007402 then (ddiref32_store.l2 k x0 (x5 ++ [(⟨(⟨(rd_T34 x0 x11).f0.f0, (rd_T34 x0 x11).f0.f1, (rd_T34 x0 x11).f0.f2⟩ : S25), (rd_T34 x0 x11).f1, (rd_T34 x0 x11).f2, (rd_T34 x0 x11).f3⟩ : S34)]) x8 x10 (wrap64 (x11 + 1)) x164000 x164001 x164002 x164003 x164004 x164005) else (none)) else (none)) else (none))
def ddiref32_store.l1 : Nat → List (S34) → Int → Int → Bool → Int → Int → Int → Int → Int → Option ((List (S34)))
  | 0, _, _, _, _, _, _, _, _, _ => none
  | k + 1, x0, x8, x9, x164000, x164001, x164002, x164003, x164004, x164005 => if x9 < (x0.length : Int) then (if 0 ≤ x9 then (if 0 ≤ x8 then (if x8 < (x0.length : Int) then (if ((rd_T34 x0 x9).f3) < ((rd_T34 x0 x8).f3) then (ddiref32_store.l1 k x0 x9 (wrap64 (x9 + 1)) x164000 x164001 x164002 x164003 x164004 x164005) else (ddiref32_store.l1 k x0 x8 (wrap64 (x9 + 1)) x164000 x164001 x164002 x164003 x164004 x164005)) else (none)) else (none)) else (none)) else (ddiref32_store.j3 k x0 ([] : List (S34)) x8 x164000 x164001 x164002 x164003 x164004 x164005)
end
def ddiref32_store.f (k : Nat) (l0 : List (S34)) (a1_0 : Bool) (a1_1 : Int) (a1_2 : Int) (a1_3 : Int) (a1_4 : Int) (a1_5 : Int) : Option ((List (S34))) := (ddiref32_known.f k l0 a1_0 a1_1 a1_2).bind fun t164 => (if t164 = true then (ddiref32_store.l0 k l0 ([] : List (S34)) false 0 a1_0 a1_1 a1_2 a1_3 a1_4 a1_5) else (if (l0.length : Int) ≥ 256 then (ddiref32_store.l1 k l0 0 1 a1_0 a1_1 a1_2 a1_3 a1_4 a1_5) else (ddiref32_store.j3 k l0 ([] : List (S34)) (-1) a1_0 a1_1 a1_2 a1_3 a1_4 a1_5)))
theorem ddiref32_store.mono_l : ∀ k, (∀ y0 y1 y2 y3 y4 y5 y6 y7 y8 y9, LeO (ddiref32_store.l0 k y0 y1 y2 y3 y4 y5 y6 y7 y8 y9) (ddiref32_store.l0 (k + 1) y0 y1 y2 y3 y4 y5 y6 y7 y8 y9)) ∧ (∀ y0 y1 y2 y3 y4 y5 y6 y7 y8 y9 y10, LeO (ddiref32_store.j1 k y0 y1 y2 y3 y4 y5 y6 y7 y8 y9 y10) (ddiref32_store.j1 (k + 1) y0 y1 y2 y3 y4 y5 y6 y7 y8 y9 y10)) ∧ (∀ y0 y1 y2 y3 y4 y5 y6 y7 y8, LeO (ddiref32_store.j3 k y0 y1 y2 y3 y4 y5 y6 y7 y8) (ddiref32_store.j3 (k + 1) y0 y1 y2 y3 y4 y5 y6 y7 y8)) ∧ (∀ y0 y1 y2 y3 y4 y5 y6 y7 y8 y9 y10, LeO (ddiref32_store.l2 k y0 y1 y2 y3 y4 y5 y6 y7 y8 y9 y10) (ddiref32_store.l2 (k + 1) y0 y1 y2 y3 y4 y5 y6 y7 y8 y9 y10)) ∧ (∀ y0 y1 y2 y3 y4 y5 y6 y7 y8 y9 y10 y11, LeO (ddiref32_store.j5 k y0 y1 y2 y3 y4 y5 y6 y7 y8 y9 y10 y11) (ddiref32_store.j5 (k + 1) y0 y1 y2 y3 y4 y5 y6 y7 y8 y9 y10 y11)) ∧ (∀ y0 y1 y2 y3 y4 y5 y6 y7 y8, LeO (ddiref32_store.l1 k y0 y1 y2 y3 y4 y5 y6 y7 y8) (ddiref32_store.l1 (k + 1) y0 y1 y2 y3 y4 y5 y6 y7 y8))
  | 0 => ⟨fun _ _ _ _ _ _ _ _ _ _ r h => by simp [ddiref32_store.l0] at h, fun _ _ _ _ _ _ _ _ _ _ _ r h => by simp [ddiref32_store.j1] at h, fun _ _ _ _ _ _ _ _ _ r h => by simp [ddiref32_store.j3] at h, fun _ _ _ _ _ _ _ _ _ _ _ r h => by simp [ddiref32_store.l2] at h, fun _ _ _ _ _ _ _ _ _ _ _ _ r h => by simp [ddiref32_store.j5] at h, fun _ _ _ _ _ _ _ _ _ r h => by simp [ddiref32_store.l1] at h⟩
  | k + 1 => by
    obtain ⟨ih0, ih1, ih2, ih3, ih4, ih5⟩ := ddiref32_store.mono_l k
    refine ⟨?_, ?_, ?_, ?_, ?_, ?_⟩
    · intro y0 y1 y2 y3 y4 y5 y6 y7 y8 y9
      unfold ddiref32_store.l0
      repeat' first
      | (with_reducible exact ih0 _ _ _ _ _ _ _ _ _ _)
      | (with_reducible exact ih1 _ _ _ _ _ _ _ _ _ _ _)
      | (with_reducible exact ih2 _ _ _ _ _ _ _ _ _)
      | (with_reducible exact ih3 _ _ _ _ _ _ _ _ _ _ _)
      | (with_reducible exact ih4 _ _ _ _ _ _ _ _ _ _ _ _)
      | (with_reducible exact ih5 _ _ _ _ _ _ _ _ _)
      | (with_reducible exact ddiref32_known.mono _ _ _ _ _)
      | (with_reducible exact LeO.refl _)
      | (with_reducible exact LeO.none _)
      | (with_reducible refine LeO.ite ?_ ?_)
      | (with_reducible refine LeO.bind ?_ (fun _ => ?_))
      | exact ih0 _ _ _ _ _ _ _ _ _ _
      | exact ih1 _ _ _ _ _ _ _ _ _ _ _
      | exact ih2 _ _ _ _ _ _ _ _ _
      | exact ih3 _ _ _ _ _ _ _ _ _ _ _
      | exact ih4 _ _ _ _ _ _ _ _ _ _ _ _
      | exact ih5 _ _ _ _ _ _ _ _ _
      | exact ddiref32_known.mono _ _ _ _ _
      | exact LeO.none _
      | refine LeO.ite ?_ ?_
      | refine LeO.bind ?_ (fun _ => ?_)
    · intro y0 y1 y2 y3 y4 y5 y6 y7 y8 y9 y10
      unfold ddiref32_store.j1
      repeat' first
      | (with_reducible exact ih0 _ _ _ _ _ _ _ _ _ _)
      | (with_reducible exact ih1 _ _ _ _ _ _ _ _ _ _ _)
      | (with_reducible exact ih2 _ _ _ _ _ _ _ _ _)
      | (with_reducible exact ih3 _ _ _ _ _ _ _ _ _ _ _)
      | (with_reducible exact ih4 _ _ _ _ _ _ _ _ _ _ _ _)
      | (with_reducible exact ih5 _ _ _ _ _ _ _ _ _)
      | (with_reducible exact ddiref32_known.mono _ _ _ _ _)
      | (with_reducible exact LeO.refl _)
      | (with_reducible exact LeO.none _)
      | (with_reducible refine LeO.ite ?_ ?_)
      | (with_reducible refine LeO.bind ?_ (fun _ => ?_))
      | exact ih0 _ _ _ _ _ _ _ _ _ _
      | exact ih1 _ _ _ _ _ _ _ _ _ _ _
      | exact ih2 _ _ _ _ _ _ _ _ _
      | exact ih3 _ _ _ _ _ _ _ _ _ _ _
      | exact ih4 _ _ _ _ _ _ _ _ _ _ _ _
      | exact ih5 _ _ _ _ _ _ _ _ _
      | exact ddiref32_known.mono _ _ _ _ _
      | exact LeO.none _
      | refine LeO.ite ?_ ?_
      | refine LeO.bind ?_ (fun _ => ?_)
    · intro y0 y1 y2 y3 y4 y5 y6 y7 y8
      unfold ddiref32_store.j3
      repeat' first
      | (with_reducible exact ih0 _ _ _ _ _ _ _ _ _ _)
      | (with_reducible exact ih1 _ _ _ _ _ _ _ _ _ _ _)
      | (with_reducible exact ih2 _ _ _ _ _ _ _ _ _)
      | (with_reducible exact ih3 _ _ _ _ _ _ _ _ _ _ _)
      | (with_reducible exact ih4 _ _ _ _ _ _ _ _ _ _ _ _)
      | (with_reducible exact ih5 _ _ _ _ _ _ _ _ _)
      | (with_reducible exact ddiref32_known.mono _ _ _ _ _)
      | (with_reducible exact LeO.refl _)
      | (with_reducible exact LeO.none _)
      | (with_reducible refine LeO.ite ?_ ?_)
      | (with_reducible refine LeO.bind ?_ (fun _ => ?_))
      | exact ih0 _ _ _ _ _ _ _ _ _ _
      | exact ih1 _ _ _ _ _ _ _ _ _ _ _
      | exact ih2 _ _ _ _ _ _ _ _ _
      | exact ih3 _ _ _ _ _ _ _ _ _ _ _
      | exact ih4 _ _ _ _ _ _ _ _ _ _ _ _
      | exact ih5 _ _ _ _ _ _ _ _ _
      | exact ddiref32_known.mono _ _ _ _ _
      | exact LeO.none _
      | refine LeO.ite ?_ ?_
      | refine LeO.bind ?_ (fun _ => ?_)
    · intro y0 y1 y2 y3 y4 y5 y6 y7 y8 y9 y10
      unfold ddiref32_store.l2
      repeat' first
      | (with_reducible exact ih0 _ _ _ _ _ _ _ _ _ _)
      | (with_reducible exact ih1 _ _ _ _ _ _ _ _ _ _ _)
      | (with_reducible exact ih2 _ _ _ _ _ _ _ _ _)
      | (with_reducible exact ih3 _ _ _ _ _ _ _ _ _ _ _)
      | (with_reducible exact ih4 _ _ _ _ _ _ _ _ _ _ _ _)
      | (with_reducible exact ih5 _ _ _ _ _ _ _ _ _)
      | (with_reducible exact ddiref32_known.mono _ _ _ _ _)
      | (with_reducible exact LeO.refl _)
      | (with_reducible exact LeO.none _)
      | (with_reducible refine LeO.ite ?_ ?_)
      | (with_reducible refine LeO.bind ?_ (fun _ => ?_))
      | exact ih0 _ _ _ _ _ _ _ _ _ _
      | exact ih1 _ _ _ _ _ _ _ _ _ _ _
      | exact ih2 _ _ _ _ _ _ _ _ _
      | exact ih3 _ _ _ _ _ _ _ _ _ _ _
      | exact ih4 _ _ _ _ _ _ _ _ _ _ _ _
      | exact ih5 _ _ _ _ _ _ _ _ _
      | exact ddiref32_known.mono _ _ _ _ _
      | exact LeO.none _
      | refine LeO.ite ?_ ?_
      | refine LeO.bind ?_ (fun _ => ?_)
    · intro y0 y1 y2 y3 y4 y5 y6 y7 y8 y9 y10 y11
      unfold ddiref32_store.j5
      repeat' first
      | (with_reducible exact ih0 _ _ _ _ _ _ _ _ _ _)
      | (with_reducible exact ih1 _ _ _ _ _ _ _ _ _ _ _)
      | (with_reducible exact ih2 _ _ _ _ _ _ _ _ _)
      | (with_reducible exact ih3 _ _ _ _ _ _ _ _ _ _ _)
      | (with_reducible exact ih4 _ _ _ _ _ _ _ _ _ _ _ _)
      | (with_reducible exact ih5 _ _ _ _ _ _ _ _ _)
      | (with_reducible exact ddiref32_known.mono _ _ _ _ _)
      | (with_reducible exact LeO.refl _)
      | (with_reducible exact LeO.none _)
      | (with_reducible refine LeO.ite ?_ ?_)
      | (with_reducible refine LeO.bind ?_ (fun _ => ?_))
      | exact ih0 _ _ _ _ _ _ _ _ _ _
      | exact ih1 _ _ _ _ _ _ _ _ _ _ _
      | exact ih2 _ _ _ _ _ _ _ _ _
      | exact ih3 _ _ _ _ _ _ _ _ _ _ _
      | exact ih4 _ _ _ _ _ _ _ _ _ _ _ _
      | exact ih5 _ _ _ _ _ _ _ _ _
      | exact ddiref32_known.mono _ _ _ _ _
      | exact LeO.none _
      | refine LeO.ite ?_ ?_
      | refine LeO.bind ?_ (fun _ => ?_)
    · intro y0 y1 y2 y3 y4 y5 y6 y7 y8
      unfold ddiref32_store.l1
      repeat' first
      | (with_reducible exact ih0 _ _ _ _ _ _ _ _ _ _)
      | (with_reducible exact ih1 _ _ _ _ _ _ _ _ _ _ _)
      | (with_reducible exact ih2 _ _ _ _ _ _ _ _ _)
      | (with_reducible exact ih3 _ _ _ _ _ _ _ _ _ _ _)
      | (with_reducible exact ih4 _ _ _ _ _ _ _ _ _ _ _ _)
      | (with_reducible exact ih5 _ _ _ _ _ _ _ _ _)
      | (with_reducible exact ddiref32_known.mono _ _ _ _ _)
      | (with_reducible exact LeO.refl _)
      | (with_reducible exact LeO.none _)
      | (with_reducible refine LeO.ite ?_ ?_)
      | (with_reducible refine LeO.bind ?_ (fun _ => ?_))
      | exact ih0 _ _ _ _ _ _ _ _ _ _
      | exact ih1 _ _ _ _ _ _ _ _ _ _ _
      | exact ih2 _ _ _ _ _ _ _ _ _
      | exact ih3 _ _ _ _ _ _ _ _ _ _ _
      | exact ih4 _ _ _ _ _ _ _ _ _ _ _ _
      | exact ih5 _ _ _ _ _ _ _ _ _
      | exact ddiref32_known.mono _ _ _ _ _
      | exact LeO.none _
      | refine LeO.ite ?_ ?_
      | refine LeO.bind ?_ (fun _ => ?_)
theorem ddiref32_store.mono : ∀ a0 a1 a2 a3 a4 a5 a6 k, LeO (ddiref32_store.f k a0 a1 a2 a3 a4 a5 a6) (ddiref32_store.f (k + 1) a0 a1 a2 a3 a4 a5 a6) := by
  intro a0 a1 a2 a3 a4 a5 a6 k
  obtain ⟨ih0, ih1, ih2, ih3, ih4, ih5⟩ := ddiref32_store.mono_l k
  unfold ddiref32_store.f
  repeat' first
      | (with_reducible exact ih0 _ _ _ _ _ _ _ _ _ _)
      | (with_reducible exact ih1 _ _ _ _ _ _ _ _ _ _ _)
      | (with_reducible exact ih2 _ _ _ _ _ _ _ _ _)
      | (with_reducible exact ih3 _ _ _ _ _ _ _ _ _ _ _)
      | (with_reducible exact ih4 _ _ _ _ _ _ _ _ _ _ _ _)
      | (with_reducible exact ih5 _ _ _ _ _ _ _ _ _)
      | (with_reducible exact ddiref32_known.mono _ _ _ _ _)
      | (with_reducible exact LeO.refl _)
      | (with_reducible exact LeO.none _)
      | (with_reducible refine LeO.ite ?_ ?_)
      | (with_reducible refine LeO.bind ?_ (fun _ => ?_))
      | exact ih0 _ _ _ _ _ _ _ _ _ _
      | exact ih1 _ _ _ _ _ _ _ _ _ _ _
      | exact ih2 _ _ _ _ _ _ _ _ _
      | exact ih3 _ _ _ _ _ _ _ _ _ _ _
      | exact ih4 _ _ _ _ _ _ _ _ _ _ _ _
      | exact ih5 _ _ _ _ _ _ _ _ _
      | exact ddiref32_known.mono _ _ _ _ _
      | exact LeO.none _
      | refine LeO.ite ?_ ?_
      | refine LeO.bind ?_ (fun _ => ?_)
def ddiref32_Good.j0 : Nat → List (S34) → Int → Bool → Int → Int → Option ((List (S34)))
  | 0, _, _, _, _, _ => none
  | k + 1, x0, x7, x192000, x192001, x192002 => (ddiref32_store.f k x0 x192000 x192001 x192002 x7 0 0).bind fun t201 => (some t201)
def ddiref32_Good.f (k : Nat) (l0 : List (S34)) (a1_0 : Bool) (a1_1 : Int) (a1_2 : Int) (a2 : Int) : Option ((List (S34))) := (ddiref32_cut.f a2 1 30).bind fun t192 => ((ddiref32_known.f k l0 a1_0 a1_1 a1_2).bind fun t193 => (if t193 = true then ((ddiref32_Find.f k l0 a1_0 a1_1 a1_2).bind fun bt194 => ((ddiref32_cut.f bt194.2.2.2.1 1 30).bind fun t200 => (ddiref32_Good.j0 k l0 (mx (wrap64 (Int.tdiv (wrap64 ((wrap64 (3 * t200)) + t192)) 4)) 1) a1_0 a1_1 a1_2))) else (ddiref32_Good.j0 k l0 t192 a1_0 a1_1 a1_2)))
theorem ddiref32_Good.mono_l : ∀ k, (∀ y0 y1 y2 y3 y4, LeO (ddiref32_Good.j0 k y0 y1 y2 y3 y4) (ddiref32_Good.j0 (k + 1) y0 y1 y2 y3 y4))
  | 0 => fun _ _ _ _ _ r h => by simp [ddiref32_Good.j0] at h
  | k + 1 => by
    have ih0 := ddiref32_Good.mono_l k
    · intro y0 y1 y2 y3 y4
      unfold ddiref32_Good.j0
      repeat' first
      | (with_reducible exact ih0 _ _ _ _ _)
      | (with_reducible exact ddiref32_Find.mono _ _ _ _ _)
      | (with_reducible exact ddiref32_known.mono _ _ _ _ _)
      | (with_reducible exact ddiref32_store.mono _ _ _ _ _ _ _ _)
      | (with_reducible exact LeO.refl _)
      | (with_reducible exact LeO.none _)
      | (with_reducible refine LeO.ite ?_ ?_)
      | (with_reducible refine LeO.bind ?_ (fun _ => ?_))
      | exact ih0 _ _ _ _ _
      | exact ddiref32_Find.mono _ _ _ _ _
      | exact ddiref32_known.mono _ _ _ _ _
      | exact ddiref32_store.mono _ _ _ _ _ _ _ _
      | exact LeO.none _
      | refine LeO.ite ?_ ?_
      | refine LeO.bind ?_ (fun _ => ?_)
theorem ddiref32_Good.mono : ∀ a0 a1 a2 a3 a4 k, LeO (ddiref32_Good.f k a0 a1 a2 a3 a4) (ddiref32_Good.f (k + 1) a0 a1 a2 a3 a4) := by
  intro a0 a1 a2 a3 a4 k
  have ih0 := ddiref32_Good.mono_l k
  unfold ddiref32_Good.f
  repeat' first
      | (with_reducible exact ih0 _ _ _ _ _)
      | (with_reducible exact ddiref32_Find.mono _ _ _ _ _)
      | (with_reducible exact ddiref32_known.mono _ _ _ _ _)
      | (with_reducible exact ddiref32_store.mono _ _ _ _ _ _ _ _)
      | (with_reducible exact LeO.refl _)
      | (with_reducible exact LeO.none _)
      | (with_reducible refine LeO.ite ?_ ?_)
      | (with_reducible refine LeO.bind ?_ (fun _ => ?_))
      | exact ih0 _ _ _ _ _
      | exact ddiref32_Find.mono _ _ _ _ _
      | exact ddiref32_known.mono _ _ _ _ _
      | exact ddiref32_store.mono _ _ _ _ _ _ _ _
      | exact LeO.none _
      | refine LeO.ite ?_ ?_
      | refine LeO.bind ?_ (fun _ => ?_)
def upstream_Find.f (k : Nat) (l0 : List (S35)) (a1_0 : Bool) (a1_1 : Int) (a1_2 : Int) : Option (Bool × Int × Int × Int × Int × Int) := (upstream_index.f k l0 a1_0 a1_1 a1_2).bind fun t206 => (if t206 ≥ 0 then (if 0 ≤ t206 then (if t206 < (l0.length : Int) then (some ((rd_T35 l0 t206).f0.f0, (rd_T35 l0 t206).f0.f1, (rd_T35 l0 t206).f0.f2, (rd_T35 l0 t206).f1, (rd_T35 l0 t206).f2, (rd_T35 l0 t206).f3)) else (none)) else (none)) else (some (a1_0, a1_1, a1_2, 2, 0, 0)))
theorem upstream_Find.mono : ∀ a0 a1 a2 a3 k, LeO (upstream_Find.f k a0 a1 a2 a3) (upstream_Find.f (k + 1) a0 a1 a2 a3) := by
  intro a0 a1 a2 a3 k
  unfold upstream_Find.f
  repeat' first
      | (with_reducible exact upstream_index.mono _ _ _ _ _)
      | (with_reducible exact LeO.refl _)
      | (with_reducible exact LeO.none _)
      | (with_reducible refine LeO.ite ?_ ?_)
      | (with_reducible refine LeO.bind ?_ (fun _ => ?_))
      | exact upstream_index.mono _ _ _ _ _
      | exact LeO.none _
      | refine LeO.ite ?_ ?_
      | refine LeO.bind ?_ (fun _ => ?_)
def upstream_Bad.f (k : Nat) (l0 : List (S35)) (a1_0 : Bool) (a1_1 : Int) (a1_2 : Int) (a2 : Int) : Option ((List (S35))) := (upstream_Find.f k l0 a1_0 a1_1 a1_2).bind fun bt209 => ((upstream_cut.f bt209.2.2.2.2.1 0 5).bind fun t216 => ((upstream_cut.f a2 0 4294967295).bind fun t217 => (if 0 ≤ (wrap64 ((wrap64 (t216 + 1)) - 1)) then ((upstream_store.f k l0 bt209.1 bt209.2.1 bt209.2.2.1 bt209.2.2.2.1 (wrap64 (t216 + 1)) (mn (wrap64 (t217 + (shl .i64 10 (wrap64 ((wrap64 (t216 + 1)) - 1))))) 4294967295)).bind fun t218 => (some t218)) else (none))))
theorem upstream_Bad.mono : ∀ a0 a1 a2 a3 a4 k, LeO (upstream_Bad.f k a0 a1 a2 a3 a4) (upstream_Bad.f (k + 1) a0 a1 a2 a3 a4) := by
  intro a0 a1 a2 a3 a4 k
  unfold upstream_Bad.f
  repeat' first
      | (with_reducible exact upstream_Find.mono _ _ _ _ _)
      | (with_reducible exact upstream_store.mono _ _ _ _ _ _ _ _)
      | (with_reducible exact LeO.refl _)
      | (with_reducible exact LeO.none _)
      | (with_reducible refine LeO.ite ?_ ?_)
      | (with_reducible refine LeO.bind ?_ (fun _ => ?_))
      | exact upstream_Find.mono _ _ _ _ _
      | exact upstream_store.mono _ _ _ _ _ _ _ _
      | exact LeO.none _
      | refine LeO.ite ?_ ?_
      | refine LeO.bind ?_ (fun _ => ?_)
def ddiref32_Bad.l0 : Nat → List (S34) → Int → Int → Int → Bool → Int → Int → Int → Int → Int → Option ((List (S34)))
  | 0, _, _, _, _, _, _, _, _, _, _ => none
  | k + 1, x0, x2, x8, x9, x229000, x229001, x229002, x229003, x229004, x229005 => if x9 < x229004 then (ddiref32_Bad.l0 k x0 x2 (wrap64 (2 * x8)) (wrap64 (x9 + 1)) x229000 x229001 x229002 x229003 x229004 x229005) else ((ddiref32_cut.f x2 0 4294967295).bind fun t231 => ((ddiref32_store.f k x0 x229000 x229001 x229002 x229003 x229004 (mn (wrap64 (t231 + x8)) 4294967295)).bind fun t232 => (some t232)))
def ddiref32_Bad.f (k : Nat) (l0 : List (S34)) (a1_0 : Bool) (a1_1 : Int) (a1_2 : Int) (a2 : Int) : Option ((List (S34))) := (ddiref32_Find.f k l0 a1_0 a1_1 a1_2).bind fun bt222 => ((ddiref32_cut.f bt222.2.2.2.2.1 0 6).bind fun t229 => ((ddiref32_cut.f (wrap64 (t229 + 1)) 1 6).bind fun t230 => (ddiref32_Bad.l0 k l0 a2 10 1 bt222.1 bt222.2.1 bt222.2.2.1 bt222.2.2.2.1 t230 bt222.2.2.2.2.2)))
theorem ddiref32_Bad.mono_l : ∀ k, (∀ y0 y1 y2 y3 y4 y5 y6 y7 y8 y9, LeO (ddiref32_Bad.l0 k y0 y1 y2 y3 y4 y5 y6 y7 y8 y9) (ddiref32_Bad.l0 (k + 1) y0 y1 y2 y3 y4 y5 y6 y7 y8 y9))
  | 0 => fun _ _ _ _ _ _ _ _ _ _ r h => by simp [ddiref32_Bad.l0] at h
  | k + 1 => by
    have ih0 := ddiref32_Bad.mono_l k
    · intro y0 y1 y2 y3 y4 y5 y6 y7 y8 y9
      unfold ddiref32_Bad.l0
      repeat' first
      | (with_reducible exact ih0 _ _ _ _ _ _ _ _ _ _)
      | (with_reducible exact ddiref32_Find.mono _ _ _ _ _)
      | (with_reducible exact ddiref32_store.mono _ _ _ _ _ _ _ _)
      | (with_reducible exact LeO.refl _)
      | (with_reducible exact LeO.none _)
      | (with_reducible refine LeO.ite ?_ ?_)
      | (with_reducible refine LeO.bind ?_ (fun _ => ?_))
      | exact ih0 _ _ _ _ _ _ _ _ _ _
      | exact ddiref32_Find.mono _ _ _ _ _
      | exact ddiref32_store.mono _ _ _ _ _ _ _ _
      | exact LeO.none _
      | refine LeO.ite ?_ ?_
      | refine LeO.bind ?_ (fun _ => ?_)
theorem ddiref32_Bad.mono : ∀ a0 a1 a2 a3 a4 k, LeO (ddiref32_Bad.f k a0 a1 a2 a3 a4) (ddiref32_Bad.f (k + 1) a0 a1 a2 a3 a4) := by
  intro a0 a1 a2 a3 a4 k
  have ih0 := ddiref32_Bad.mono_l k
  unfold ddiref32_Bad.f
  repeat' first
      | (with_reducible exact ih0 _ _ _ _ _ _ _ _ _ _)
      | (with_reducible exact ddiref32_Find.mono _ _ _ _ _)
      | (with_reducible exact ddiref32_store.mono _ _ _ _ _ _ _ _)
      | (with_reducible exact LeO.refl _)
      | (with_reducible exact LeO.none _)
      | (with_reducible refine LeO.ite ?_ ?_)
      | (with_reducible refine LeO.bind ?_ (fun _ => ?_))
      | exact ih0 _ _ _ _ _ _ _ _ _ _
      | exact ddiref32_Find.mono _ _ _ _ _
      | exact ddiref32_store.mono _ _ _ _ _ _ _ _
      | exact LeO.none _
      | refine LeO.ite ?_ ?_
      | refine LeO.bind ?_ (fun _ => ?_)
def slices_Index.l0 : Nat → List (S25) → Int → Int → Bool → Int → Int → Option (Int)
  | 0, _, _, _, _, _, _ => none
  | k + 1, x0, x7, x8, x236000, x236001, x236002 => if x8 < x7 then (if 0 ≤ x8 then (if x8 < (x0.length : Int) then (if (x236000 == ((rd_T25 x0 x8).f0) && (x236001 == ((rd_T25 x0 x8).f1) && (x236002 == ((rd_T25 x0 x8).f2)))) = true then (some x8) else (slices_Index.l0 k x0 x7 (wrap64 (x8 + 1)) x236000 x236001 x236002)) else (none)) else (none)) else (some (-1))
def slices_Index.f (k : Nat) (l0 : List (S25)) (a1_0 : Bool) (a1_1 : Int) (a1_2 : Int) : Option (Int) := slices_Index.l0 k l0 (l0.length : Int) 0 a1_0 a1_1 a1_2
theorem slices_Index.mono_l : ∀ k, (∀ y0 y1 y2 y3 y4 y5, LeO (slices_Index.l0 k y0 y1 y2 y3 y4 y5) (slices_Index.l0 (k + 1) y0 y1 y2 y3 y4 y5))
  | 0 => fun _ _ _ _ _ _ r h => by simp [slices_Index.l0] at h
  | k + 1 => by
    have ih0 := slices_Index.mono_l k
    · intro y0 y1 y2 y3 y4 y5
      unfold slices_Index.l0
      repeat' first
      | (with_reducible exact ih0 _ _ _ _ _ _)
      | (with_reducible exact LeO.refl _)
      | (with_reducible exact LeO.none _)
      | (with_reducible refine LeO.ite ?_ ?_)
      | (with_reducible refine LeO.bind ?_ (fun _ => ?_))
      | exact ih0 _ _ _ _ _ _
      | exact LeO.none _
      | refine LeO.ite ?_ ?_
      | refine LeO.bind ?_ (fun _ => ?_)
theorem slices_Index.mono : ∀ a0 a1 a2 a3 k, LeO (slices_Index.f k a0 a1 a2 a3) (slices_Index.f (k + 1) a0 a1 a2 a3) := by
  intro a0 a1 a2 a3 k
  have ih0 := slices_Index.mono_l k
  unfold slices_Index.f
  repeat' first
      | (with_reducible exact ih0 _ _ _ _ _ _)
      | (with_reducible exact LeO.refl _)
      | (with_reducible exact LeO.none _)
      | (with_reducible refine LeO.ite ?_ ?_)
      | (with_reducible refine LeO.bind ?_ (fun _ => ?_))
      | exact ih0 _ _ _ _ _ _
      | exact LeO.none _
      | refine LeO.ite ?_ ?_
      | refine LeO.bind ?_ (fun _ => ?_)
def slices_Contains.f (k : Nat) (l0 : List (S25)) (a1_0 : Bool) (a1_1 : Int) (a1_2 : Int) : Option (Bool) := (slices_Index.f k l0 a1_0 a1_1 a1_2).bind fun t238 => (some (decide (t238 ≥ 0)))
theorem slices_Contains.mono : ∀ a0 a1 a2 a3 k, LeO (slices_Contains.f k a0 a1 a2 a3) (slices_Contains.f (k + 1) a0 a1 a2 a3) := by
  intro a0 a1 a2 a3 k
  unfold slices_Contains.f
  repeat' first
      | (with_reducible exact slices_Index.mono _ _ _ _ _)
      | (with_reducible exact LeO.refl _)
      | (with_reducible exact LeO.none _)
      | (with_reducible refine LeO.ite ?_ ?_)
      | (with_reducible refine LeO.bind ?_ (fun _ => ?_))
      | exact slices_Index.mono _ _ _ _ _
      | exact LeO.none _
      | refine LeO.ite ?_ ?_
      | refine LeO.bind ?_ (fun _ => ?_)
def upstream_better.f (a0_0 : Bool) (a0_1 : Int) (a0_2 : Int) (a0_3 : Int) (a0_4 : Int) (a0_5 : Int) (a1_0 : Bool) (a1_1 : Int) (a1_2 : Int) (a1_3 : Int) (a1_4 : Int) (a1_5 : Int) (a2 : Int) : Option (Bool) := if ((decide (a0_5 ≤ a2)) != (decide (a1_5 ≤ a2))) = true then (some (decide (a0_5 ≤ a2))) else (if a0_5 ≤ a2 then (if a0_4 < a1_4 then (some true) else (if a0_4 = a1_4 then (some (decide (a0_3 < a1_3))) else (some false))) else (some (decide (a0_5 < a1_5))))
mutual
def upstream_Pick.l0 : Nat → List (S35) → List (S25) → Int → Bool → Int → List (S25) → Int → Int → Bool → Int → Int → Int → Int → Int → Option (Bool × Int × Int × Bool)
  | 0, _, _, _, _, _, _, _, _, _, _, _, _, _, _ => none
  | k + 1, x0, x2, x3, x11, x12, x16, x17, x18, x243000, x243001, x243002, x243003, x243004, x243005 => if x18 < x17 then (if 0 ≤ x18 then (if x18 < (x16.length : Int) then ((slices_Contains.f k x2 ((rd_T25 x16 x18).f0) ((rd_T25 x16 x18).f1) ((rd_T25 x16 x18).f2)).bind fun t245 => (if t245 = true then (upstream_Pick.l0 k x0 x2 x3 x11 x12 x16 x17 (wrap64 (x18 + 1)) x243000 x243001 x243002 x243003 x243004 x243005) else (if (wrap64 (x12 + 1)) > 16 then (some (x243000, x243001, x243002, x11)) else ((upstream_Find.f k x0 ((rd_T25 x16 x18).f0) ((rd_T25 x16 x18).f1) ((rd_T25 x16 x18).f2)).bind fun bt246 => (if x11 = true then ((upstream_better.f bt246.1 bt246.2.1 bt246.2.2.1 bt246.2.2.2.1 bt246.2.2.2.2.1 bt246.2.2.2.2.2 x243000 x243001 x243002 x243003 x243004 x243005 x3).bind fun t253 => (upstream_Pick.j1 k x0 x2 x3 x11 (wrap64 (x12 + 1)) x16 x17 x18 t253 x243000 x243001 x243002 x243003 x243004 x243005 bt246.1 bt246.2.1 bt246.2.2.1 bt246.2.2.2.1 bt246.2.2.2.2.1 bt246.2.2.2.2.2)) else (upstream_Pick.j1 k x0 x2 x3 x11 (wrap64 (x12 + 1)) x16 x17 x18 true x243000 x243001 x243002 x243003 x243004 x243005 bt246.1 bt246.2.1 bt246.2.2.1 bt246.2.2.2.1 bt246.2.2.2.2.1 bt246.2.2.2.2.2)))))) else (none)) else (none)) else (some (x243000, x243001, x243002, x11))
def upstream_Pick.j1 : Nat → List (S35) → List (S25) → Int → Bool → Int → List (S25) → Int → Int → Bool → Bool → Int → Int → Int → Int → Int → Bool → Int → Int → Int → Int → Int → Option (Bool × Int × Int × Bool)
  | 0, _, _, _, _, _, _, _, _, _, _, _, _, _, _, _, _, _, _, _, _, _ => none
  | k + 1, x0, x2, x3, x11, x12, x16, x17, x18, x39, x243000, x243001, x243002, x243003, x243004, x243005, x253000, x253001, x253002, x253003, x253004, x253005 => if x39 = true then (upstream_Pick.l0 k x0 x2 x3 true x12 x16 x17 (wrap64 (x18 + 1)) x253000 x253001 x253002 x253003 x253004 x253005) else (upstream_Pick.l0 k x0 x2 x3 x11 x12 x16 x17 (wrap64 (x18 + 1)) x243000 x243001 x243002 x243003 x243004 x243005)
end
def upstream_Pick.f (k : Nat) (l0 : List (S35)) (l1 : List (S25)) (l2 : List (S25)) (a3 : Int) : Option (Bool × Int × Int × Bool) := upstream_Pick.l0 k l0 l2 a3 false 0 l1 (l1.length : Int) 0 false 0 0 0 0 0
theorem upstream_Pick.mono_l : ∀ k, (∀ y0 y1 y2 y3 y4 y5 y6 y7 y8 y9 y10 y11 y12 y13, LeO (upstream_Pick.l0 k y0 y1 y2 y3 y4 y5 y6 y7 y8 y9 y10 y11 y12 y13) (upstream_Pick.l0 (k + 1) y0 y1 y2 y3 y4 y5 y6 y7 y8 y9 y10 y11 y12 y13)) ∧ (∀ y0 y1 y2 y3 y4 y5 y6 y7 y8 y9 y10 y11 y12 y13 y14 y15 y16 y17 y18 y19 y20, LeO (upstream_Pick.j1 k y0 y1 y2 y3 y4 y5 y6 y7 y8 y9 y10 y11 y12 y13 y14 y15 y16 y17 y18 y19 y20) (upstream_Pick.j1 (k + 1) y0 y1 y2 y3 y4 y5 y6 y7 y8 y9 y10 y11 y12 y13 y14 y15 y16 y17 y18 y19 y20))
  | 0 => ⟨fun _ _ _ _ _ _ _ _ _ _ _ _ _ _ r h => by simp [upstream_Pick.l0] at h, fun _ _ _ _ _ _ _ _ _ _ _ _ _ _ _ _ _ _ _ _ _ r h => by simp [upstream_Pick.j1] at h⟩
  | k + 1 => by
    obtain ⟨ih0, ih1⟩ := upstream_Pick.mono_l k
    refine ⟨?_, ?_⟩
    · intro y0 y1 y2 y3 y4 y5 y6 y7 y8 y9 y10 y11 y12 y13
      unfold upstream_Pick.l0
      repeat' first
      | (with_reducible exact ih0 _ _ _ _ _ _ _ _ _ _ _ _ _ _)
      | (with_reducible exact ih1 _ _ _ _ _ _ _ _ _ _ _ _ _ _ _ _ _ _ _ _ _)
      | (with_reducible exact slices_Contains.mono _ _ _ _ _)
      | (with_reducible exact upstream_Find.mono _ _ _ _ _)
      | (with_reducible exact LeO.refl _)
      | (with_reducible exact LeO.none _)
      | (with_reducible refine LeO.ite ?_ ?_)
      | (with_reducible refine LeO.bind ?_ (fun _ => ?_))
      | exact ih0 _ _ _ _ _ _ _ _ _ _ _ _ _ _
      | exact ih1 _ _ _ _ _ _ _ _ _ _ _ _ _ _ _ _ _ _ _ _ _
      | exact slices_Contains.mono _ _ _ _ _
      | exact upstream_Find.mono _ _ _ _ _
      | exact LeO.none _
      | refine LeO.ite ?_ ?_
      | refine LeO.bind ?_ (fun _ => ?_)
    · intro y0 y1 y2 y3 y4 y5 y6 y7 y8 y9 y10 y11 y12 y13 y14 y15 y16 y17 y18 y19 y20
      unfold upstream_Pick.j1
      repeat' first
      | (with_reducible exact ih0 _ _ _ _ _ _ _ _ _ _ _ _ _ _)
      | (with_reducible exact ih1 _ _ _ _ _ _ _ _ _ _ _ _ _ _ _ _ _ _ _ _ _)
      | (with_reducible exact slices_Contains.mono _ _ _ _ _)
      | (with_reducible exact upstream_Find.mono _ _ _ _ _)
      | (with_reducible exact LeO.refl _)
      | (with_reducible exact LeO.none _)
      | (with_reducible refine LeO.ite ?_ ?_)
      | (with_reducible refine LeO.bind ?_ (fun _ => ?_))
      | exact ih0 _ _ _ _ _ _ _ _ _ _ _ _ _ _
      | exact ih1 _ _ _ _ _ _ _ _ _ _ _ _ _ _ _ _ _ _ _ _ _
      | exact slices_Contains.mono _ _ _ _ _
      | exact upstream_Find.mono _ _ _ _ _
      | exact LeO.none _
      | refine LeO.ite ?_ ?_
      | refine LeO.bind ?_ (fun _ => ?_)
theorem upstream_Pick.mono : ∀ a0 a1 a2 a3 k, LeO (upstream_Pick.f k a0 a1 a2 a3) (upstream_Pick.f (k + 1) a0 a1 a2 a3) := by
  intro a0 a1 a2 a3 k
  obtain ⟨ih0, ih1⟩ := upstream_Pick.mono_l k
  unfold upstream_Pick.f
  repeat' first
      | (with_reducible exact ih0 _ _ _ _ _ _ _ _ _ _ _ _ _ _)
      | (with_reducible exact ih1 _ _ _ _ _ _ _ _ _ _ _ _ _ _ _ _ _ _ _ _ _)
      | (with_reducible exact slices_Contains.mono _ _ _ _ _)
      | (with_reducible exact upstream_Find.mono _ _ _ _ _)
      | (with_reducible exact LeO.refl _)
      | (with_reducible exact LeO.none _)
      | (with_reducible refine LeO.ite ?_ ?_)
      | (with_reducible refine LeO.bind ?_ (fun _ => ?_))
      | exact ih0 _ _ _ _ _ _ _ _ _ _ _ _ _ _
      | exact ih1 _ _ _ _ _ _ _ _ _ _ _ _ _ _ _ _ _ _ _ _ _
      | exact slices_Contains.mono _ _ _ _ _
      | exact upstream_Find.mono _ _ _ _ _
      | exact LeO.none _
      | refine LeO.ite ?_ ?_
      | refine LeO.bind ?_ (fun _ => ?_)
def upstream_Timeout.f (a0_0 : Bool) (a0_1 : Int) (a0_2 : Int) (a0_3 : Int) (a0_4 : Int) (a0_5 : Int) : Option (Int) := (upstream_cut.f a0_3 1 30).bind fun t255 => ((upstream_cut.f a0_4 0 6).bind fun t256 => (if 0 ≤ t256 then (some (mn (shl .i64 (wrap64 (2 * t255)) t256) 60)) else (none)))
def ddilaw32_v4.f (a0 : Int) : Option (Bool × Int × Int) := some (false, 0, a0)
def ddilaw32_awake.f (k : Nat)  : Option (Bool) := (ddilaw32_v4.f 1).bind fun bt258 => ((upstream_Good.f k ([] : List (S35)) bt258.1 bt258.2.1 bt258.2.2 10).bind fun t261 => ((ddilaw32_v4.f 1).bind fun bt264 => ((upstream_Good.f k t261 bt264.1 bt264.2.1 bt264.2.2 2).bind fun t267 => ((ddilaw32_v4.f 1).bind fun bt270 => ((upstream_Find.f k t267 bt270.1 bt270.2.1 bt270.2.2).bind fun bt273 => ((ddilaw32_v4.f 7).bind fun bt280 => ((upstream_Bad.f k ([] : List (S35)) bt280.1 bt280.2.1 bt280.2.2 100).bind fun t283 => ((ddilaw32_v4.f 7).bind fun bt286 => ((upstream_Find.f k t283 bt286.1 bt286.2.1 bt286.2.2).bind fun bt289 => ((ddilaw32_v4.f 7).bind fun bt295 => ((upstream_Bad.f k t283 bt295.1 bt295.2.1 bt295.2.2 100).bind fun t298 => ((ddilaw32_v4.f 7).bind fun bt301 => ((upstream_Bad.f k t298 bt301.1 bt301.2.1 bt301.2.2 100).bind fun t304 => ((ddilaw32_v4.f 5).bind fun bt307 => ((ddilaw32_v4.f 6).bind fun bt310 => ((upstream_Pick.f k ([] : List (S35)) (([(⟨bt307.1, bt307.2.1, bt307.2.2⟩ : S25), (⟨bt310.1, bt310.2.1, bt310.2.2⟩ : S25)] : List (S25))) ([] : List (S25)) 100).bind fun bt316 => ((ddilaw32_v4.f 5).bind fun bt321 => ((upstream_Bad.f k ([] : List (S35)) bt321.1 bt321.2.1 bt321.2.2 100).bind fun t324 => ((ddilaw32_v4.f 5).bind fun bt327 => ((ddilaw32_v4.f 6).bind fun bt330 => ((upstream_Pick.f k t324 (([(⟨bt327.1, bt327.2.1, bt327.2.2⟩ : S25), (⟨bt330.1, bt330.2.1, bt330.2.2⟩ : S25)] : List (S25))) ([] : List (S25)) 100).bind fun bt336 => (if bt273.2.2.2.1 = 8 then ((ddilaw32_v4.f 3).bind fun bt341 => ((upstream_Find.f k ([] : List (S35)) bt341.1 bt341.2.1 bt341.2.2).bind fun bt344 => (if bt344.2.2.2.1 = 2 then (if bt289.2.2.2.2.2 = 110 then ((ddilaw32_v4.f 7).bind fun bt350 => ((upstream_Find.f k t304 bt350.1 bt350.2.1 bt350.2.2).bind fun bt353 => (if bt353.2.2.2.2.2 = 140 then ((ddilaw32_v4.f 5).bind fun bt359 => (if (bt316.1 == bt359.1 && (bt316.2.1 == bt359.2.1 && (bt316.2.2.1 == bt359.2.2))) = true then (if bt316.2.2.2 = true then ((ddilaw32_v4.f 6).bind fun bt362 => (if (bt336.1 == bt362.1 && (bt336.2.1 == bt362.2.1 && (bt336.2.2.1 == bt362.2.2))) = true then (if bt336.2.2.2 = true then ((upstream_Timeout.f false 0 0 2 0 0).bind fun t365 => (if t365 = 4 then ((upstream_Timeout.f false 0 0 30 0 0).bind fun t366 => (some (t366 == 60))) else (some false))) else (some false)) else (some false))) else (some false)) else (some false))) else (some false)))) else (some false)) else (some false)))) else (some false)))))))))))))))))))))))
theorem ddilaw32_awake.mono : ∀ k, LeO (ddilaw32_awake.f k ) (ddilaw32_awake.f (k + 1) ) := by
  intro  k
  unfold ddilaw32_awake.f
  repeat' first
      | (with_reducible exact upstream_Bad.mono _ _ _ _ _ _)
      | (with_reducible exact upstream_Find.mono _ _ _ _ _)
      | (with_reducible exact upstream_Good.mono _ _ _ _ _ _)
      | (with_reducible exact upstream_Pick.mono _ _ _ _ _)
      | (with_reducible exact LeO.refl _)
      | (with_reducible exact LeO.none _)
      | (with_reducible refine LeO.ite ?_ ?_)
      | (with_reducible refine LeO.bind ?_ (fun _ => ?_))
      | exact upstream_Bad.mono _ _ _ _ _ _
      | exact upstream_Find.mono _ _ _ _ _
      | exact upstream_Good.mono _ _ _ _ _ _
      | exact upstream_Pick.mono _ _ _ _ _
      | exact LeO.none _
      | refine LeO.ite ?_ ?_
      | refine LeO.bind ?_ (fun _ => ?_)
def ddilaw32_UpstreamStores.j0 : Nat → List (S34) → List (S35) → Bool → Bool → Int → Int → Bool → Int → Int → Option (Bool)
  | 0, _, _, _, _, _, _, _, _, _ => none
  | k + 1, x0, x5, x42, x368000, x368001, x368002, x368003, x368004, x368005 => if x42 = true then (some false) else ((upstream_Find.f k x5 x368000 x368001 x368002).bind fun bt389 => ((ddiref32_Find.f k x0 x368000 x368001 x368002).bind fun bt395 => (if ((bt389.1 == bt395.1 && (bt389.2.1 == bt395.2.1 && (bt389.2.2.1 == bt395.2.2.1))) && (bt389.2.2.2.1 == bt395.2.2.2.1 && (bt389.2.2.2.2.1 == bt395.2.2.2.2.1 && (bt389.2.2.2.2.2 == bt395.2.2.2.2.2)))) = true then ((ddilaw32_awake.f k).bind fun t401 => (some t401)) else (some false))))
def ddilaw32_UpstreamStores.f (k : Nat) (l0 : List (S34)) (a1_0 : Bool) (a1_1 : Int) (a1_2 : Int) (a1_3 : Bool) (a1_4 : Int) (a1_5 : Int) : Option (Bool) := if 0 ≤ (mn (l0.length : Int) 300) then (if (mn (l0.length : Int) 300) ≤ (l0.length : Int) then ((some (l0.take ((mn (l0.length : Int) 300) : Int).toNat : List (S34))).bind fun y368 => ((ddilaw32_back.f k y368).bind fun t372 => ((upstream_Good.f k t372 a1_0 a1_1 a1_2 a1_4).bind fun t375 => ((ddiref32_Good.f k y368 a1_0 a1_1 a1_2 a1_4).bind fun t378 => ((ddilaw32_same.f k t375 t378).bind fun t381 => (if t381 = true then ((upstream_Bad.f k t372 a1_0 a1_1 a1_2 a1_5).bind fun t382 => ((ddiref32_Bad.f k y368 a1_0 a1_1 a1_2 a1_5).bind fun t385 => ((ddilaw32_same.f k t382 t385).bind fun t388 => (ddilaw32_UpstreamStores.j0 k y368 t372 (!t388) a1_0 a1_1 a1_2 a1_3 a1_4 a1_5)))) else (ddilaw32_UpstreamStores.j0 k y368 t372 true a1_0 a1_1 a1_2 a1_3 a1_4 a1_5))))))) else (none)) else (none)
theorem ddilaw32_UpstreamStores.mono_l : ∀ k, (∀ y0 y1 y2 y3 y4 y5 y6 y7 y8, LeO (ddilaw32_UpstreamStores.j0 k y0 y1 y2 y3 y4 y5 y6 y7 y8) (ddilaw32_UpstreamStores.j0 (k + 1) y0 y1 y2 y3 y4 y5 y6 y7 y8))
  | 0 => fun _ _ _ _ _ _ _ _ _ r h => by simp [ddilaw32_UpstreamStores.j0] at h
  | k + 1 => by
    have ih0 := ddilaw32_UpstreamStores.mono_l k
    · intro y0 y1 y2 y3 y4 y5 y6 y7 y8
      unfold ddilaw32_UpstreamStores.j0
      repeat' first
      | (with_reducible exact ih0 _ _ _ _ _ _ _ _ _)
      | (with_reducible exact ddilaw32_awake.mono _)
      | (with_reducible exact ddilaw32_back.mono _ _)
      | (with_reducible exact ddilaw32_same.mono _ _ _)
      | (with_reducible exact ddiref32_Bad.mono _ _ _ _ _ _)
      | (with_reducible exact ddiref32_Find.mono _ _ _ _ _)
      | (with_reducible exact ddiref32_Good.mono _ _ _ _ _ _)
      | (with_reducible exact upstream_Bad.mono _ _ _ _ _ _)
      | (with_reducible exact upstream_Find.mono _ _ _ _ _)
      | (with_reducible exact upstream_Good.mono _ _ _ _ _ _)
      | (with_reducible exact LeO.refl _)
      | (with_reducible exact LeO.none _)
      | (with_reducible refine LeO.ite ?_ ?_)
      | (with_reducible refine LeO.bind ?_ (fun _ => ?_))
      | exact ih0 _ _ _ _ _ _ _ _ _
      | exact ddilaw32_awake.mono _
      | exact ddilaw32_back.mono _ _
      | exact ddilaw32_same.mono _ _ _
      | exact ddiref32_Bad.mono _ _ _ _ _ _
      | exact ddiref32_Find.mono _ _ _ _ _
      | exact ddiref32_Good.mono _ _ _ _ _ _
      | exact upstream_Bad.mono _ _ _ _ _ _
      | exact upstream_Find.mono _ _ _ _ _
      | exact upstream_Good.mono _ _ _ _ _ _
      | exact LeO.none _
      | refine LeO.ite ?_ ?_
      | refine LeO.bind ?_ (fun _ => ?_)
theorem ddilaw32_UpstreamStores.mono : ∀ a0 a1 a2 a3 a4 a5 a6 k, LeO (ddilaw32_UpstreamStores.f k a0 a1 a2 a3 a4 a5 a6) (ddilaw32_UpstreamStores.f (k + 1) a0 a1 a2 a3 a4 a5 a6) := by
  intro a0 a1 a2 a3 a4 a5 a6 k
  have ih0 := ddilaw32_UpstreamStores.mono_l k
  unfold ddilaw32_UpstreamStores.f
  repeat' first
      | (with_reducible exact ih0 _ _ _ _ _ _ _ _ _)
      | (with_reducible exact ddilaw32_awake.mono _)
      | (with_reducible exact ddilaw32_back.mono _ _)
      | (with_reducible exact ddilaw32_same.mono _ _ _)
      | (with_reducible exact ddiref32_Bad.mono _ _ _ _ _ _)
      | (with_reducible exact ddiref32_Find.mono _ _ _ _ _)
      | (with_reducible exact ddiref32_Good.mono _ _ _ _ _ _)
      | (with_reducible exact upstream_Bad.mono _ _ _ _ _ _)
      | (with_reducible exact upstream_Find.mono _ _ _ _ _)
      | (with_reducible exact upstream_Good.mono _ _ _ _ _ _)
      | (with_reducible exact LeO.refl _)
      | (with_reducible exact LeO.none _)
      | (with_reducible refine LeO.ite ?_ ?_)
      | (with_reducible refine LeO.bind ?_ (fun _ => ?_))
      | exact ih0 _ _ _ _ _ _ _ _ _
      | exact ddilaw32_awake.mono _
      | exact ddilaw32_back.mono _ _
      | exact ddilaw32_same.mono _ _ _
      | exact ddiref32_Bad.mono _ _ _ _ _ _
      | exact ddiref32_Find.mono _ _ _ _ _
      | exact ddiref32_Good.mono _ _ _ _ _ _
      | exact upstream_Bad.mono _ _ _ _ _ _
      | exact upstream_Find.mono _ _ _ _ _
      | exact upstream_Good.mono _ _ _ _ _ _
      | exact LeO.none _
      | refine LeO.ite ?_ ?_
      | refine LeO.bind ?_ (fun _ => ?_)
def okS25 (x : S25) : Prop := True ∧ ((Lit.int .u64 x.f1).wf = true ∧ (Lit.int .u64 x.f2).wf = true)
def okS34 (x : S34) : Prop := okS25 x.f0 ∧ ((Lit.int .i64 x.f1).wf = true ∧ ((Lit.int .i64 x.f2).wf = true ∧ (Lit.int .i64 x.f3).wf = true))
def okS27 (x : S27) : Prop := okS25 x.f0 ∧ (True ∧ ((Lit.int .i64 x.f2).wf = true ∧ (Lit.int .i64 x.f3).wf = true))
/-- THE ONE PURE STATEMENT of ddilaw32_UpstreamStores: ours. -/
def ddilaw32_UpstreamStores.Pure : Prop := ∀ (l0 : List (S34)) (a1_0 : Bool) (a1_1 : Int) (a1_2 : Int) (a1_3 : Bool) (a1_4 : Int) (a1_5 : Int), (l0.length * 48 ≤ 140737488351232 ∧ l0.length ≤ maxLen ∧ ∀ y0_ ∈ l0, okS34 y0_) → okS27 (⟨(⟨a1_0, a1_1, a1_2⟩ : S25), a1_3, a1_4, a1_5⟩ : S27) → ∃ k, ddilaw32_UpstreamStores.f k l0 a1_0 a1_1 a1_2 a1_3 a1_4 a1_5 = some true
end Go.Proofs.Ytgkpinecggoilaa.QA
