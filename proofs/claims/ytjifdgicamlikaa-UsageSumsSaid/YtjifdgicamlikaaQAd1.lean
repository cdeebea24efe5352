import Derived.Test.YtjifdgicamlikaaXM
import Derived.Test.YtjifdgicamlikaaXR
import Derived.Test.YtjifdgicamlikaaWMore
import Derived.Below
import Derived.Deep.Draws
import Derived.Deep.AppendLies
import Derived.Maps.AppendAt
import Derived.OwnWalk
import Derived.Laws.BytesArg
import Derived.Laws.MakeOwn
import Derived.Laws.OwnMore
import Derived.Deep.OwnRows
import Derived.Tactics
import Derived.Lib.ConvBytes
import Derived.Laws.Slices
import Derived.WalkKit
import Derived.KernelRfl
import Derived.RowKit3
import Derived.Deep.LoopGhost
import Derived.Deep.QuietTactic
import Derived.BigQuiet
import Derived.WideLaws
import Derived.Deep.DeepCutAuto
import Derived.Deep.CutBlock
import Derived.Deep.RegionHeld3
import Derived.Laws.Rows
import Derived.Lib.AppendStr
import Derived.ArgAppend
import Derived.Laws.IdiomCopy
import Derived.OrdersHeld
import Derived.Laws.BitsLemmas
import Derived.RowKit
namespace Go.Proofs.Ytjifdgicamlikaa.QA
open Go.RowKit Go.Proofs.YtjifdgicamlikaaW.PrintWords Go.Proofs.YtjifdgicamlikaaW.PrintLast Go.Proofs.YtjifdgicamlikaaW.PrintMore
set_option linter.unusedVariables false
structure S29 where
 f0 : Bool
 f1 : Int
 f2 : Int
def z29 : S29 := ⟨false,(0 : Int),(0 : Int)⟩
def rd_T29 (xs : List S29) (i : Int) : S29 := xs.getD i.toNat z29
structure S31 where
 f0 : S29
 f1 : Int
def z31 : S31 := ⟨z29,(0 : Int)⟩
def rd_T31 (xs : List S31) (i : Int) : S31 := xs.getD i.toNat z31
structure S60 where
 f0 : S31
 f1 : Int
 f2 : ByteArray
 f3 : ByteArray
 f4 : Int
def z60 : S60 := ⟨z31,(0 : Int),(⟨#[]⟩ : ByteArray),(⟨#[]⟩ : ByteArray),(0 : Int)⟩
def rd_T60 (xs : List S60) (i : Int) : S60 := xs.getD i.toNat z60
structure S73 where
 f0 : ByteArray
 f1 : S29
 f2 : Int
def z73 : S73 := ⟨(⟨#[]⟩ : ByteArray),z29,(0 : Int)⟩
def rd_T73 (xs : List S73) (i : Int) : S73 := xs.getD i.toNat z73
structure S36 where
 f0 : S31
 f1 : Int
 f2 : Int
 f3 : Int
def z36 : S36 := ⟨z31,(0 : Int),(0 : Int),(0 : Int)⟩
def rd_T36 (xs : List S36) (i : Int) : S36 := xs.getD i.toNat z36
def okS29 (x : S29) : Prop := True ∧ ((Lit.int .u64 x.f1).wf = true ∧ (Lit.int .u64 x.f2).wf = true)
def okS31 (x : S31) : Prop := okS29 x.f0 ∧ (Lit.int .i64 x.f1).wf = true
def blocks_index_1.f (a0_0 : Bool) (a0_1 : Int) (a0_2 : Int) (a0_3 : Int) (a0_4 : Int) (a0_5 : ByteArray) (a0_6 : ByteArray) (a0_7 : Int) (a1_0 : Bool) (a1_1 : Int) (a1_2 : Int) (a1_3 : Int) : Option (Bool) := some ((a0_0 == a1_0 && (a0_1 == a1_1 && (a0_2 == a1_2))) && (a0_3 == a1_3))
def slices_IndexFunc_77.l0 : Nat → List (S60) → Int → Int → Bool → Int → Int → Int → Option (Int)
 | 0,_,_,_,_,_,_,_ => none
 | k + 1,x0,x7,x8,x700101000,x700101001,x700101002,x700101003 => if x8 < x7 then (if 0 ≤ x8 then (if x8 < (x0.length : Int) then ((blocks_index_1.f ((rd_T60 x0 x8).f0.f0.f0) ((rd_T60 x0 x8).f0.f0.f1) ((rd_T60 x0 x8).f0.f0.f2) ((rd_T60 x0 x8).f0.f1) ((rd_T60 x0 x8).f1) ((rd_T60 x0 x8).f2) ((rd_T60 x0 x8).f3) ((rd_T60 x0 x8).f4) x700101000 x700101001 x700101002 x700101003).bind fun t162 => (if t162 = true then (some x8) else (slices_IndexFunc_77.l0 k x0 x7 (wrap64 (x8 + 1)) x700101000 x700101001 x700101002 x700101003))) else (none)) else (none)) else (some (-1))
def slices_IndexFunc_77.f (k : Nat) (l0 : List (S60)) (a1_0 : Bool) (a1_1 : Int) (a1_2 : Int) (a1_3 : Int) : Option (Int) := slices_IndexFunc_77.l0 k l0 (l0.length : Int) 0 a1_0 a1_1 a1_2 a1_3
theorem slices_IndexFunc_77.mono_l : ∀ k,(∀ y0 y1 y2 y3 y4 y5 y6,LeO (slices_IndexFunc_77.l0 k y0 y1 y2 y3 y4 y5 y6) (slices_IndexFunc_77.l0 (k + 1) y0 y1 y2 y3 y4 y5 y6))
 | 0 => fun _ _ _ _ _ _ _ r h => by simp [slices_IndexFunc_77.l0] at h
 | k + 1 => by
  have ih0 := slices_IndexFunc_77.mono_l k
  ·intro y0 y1 y2 y3 y4 y5 y6
   unfold slices_IndexFunc_77.l0
   repeat' first
   | (with_reducible exact ih0 _ _ _ _ _ _ _)
   | (with_reducible exact LeO.refl _)
   | (with_reducible exact LeO.none _)
   | (with_reducible refine LeO.ite ?_ ?_)
   | (with_reducible refine LeO.bind ?_ (fun _ => ?_))
theorem slices_IndexFunc_77.mono : ∀ a0 a1 a2 a3 a4 k,LeO (slices_IndexFunc_77.f k a0 a1 a2 a3 a4) (slices_IndexFunc_77.f (k + 1) a0 a1 a2 a3 a4) := by
 intro a0 a1 a2 a3 a4 k
 have ih0 := slices_IndexFunc_77.mono_l k
 unfold slices_IndexFunc_77.f
 repeat' first
   | (with_reducible exact ih0 _ _ _ _ _ _ _)
   | (with_reducible exact LeO.refl _)
   | (with_reducible exact LeO.none _)
   | (with_reducible refine LeO.ite ?_ ?_)
   | (with_reducible refine LeO.bind ?_ (fun _ => ?_))
def blocks_index.f (k : Nat) (l0 : List (S60)) (a1_0 : Bool) (a1_1 : Int) (a1_2 : Int) (a1_3 : Int) : Option (Int) := (slices_IndexFunc_77.f k l0 a1_0 a1_1 a1_2 a1_3).bind fun t164 => (some t164)
theorem blocks_index.mono : ∀ a0 a1 a2 a3 a4 k,LeO (blocks_index.f k a0 a1 a2 a3 a4) (blocks_index.f (k + 1) a0 a1 a2 a3 a4) := by
 intro a0 a1 a2 a3 a4 k
 unfold blocks_index.f
 repeat' first
   | (with_reducible exact slices_IndexFunc_77.mono _ _ _ _ _ _)
   | (with_reducible exact LeO.refl _)
   | (with_reducible exact LeO.none _)
   | (with_reducible refine LeO.ite ?_ ?_)
   | (with_reducible refine LeO.bind ?_ (fun _ => ?_))
def blocks_Find.f (k : Nat) (l0 : List (S60)) (a1_0 : Bool) (a1_1 : Int) (a1_2 : Int) (a1_3 : Int) : Option (Bool × Int × Int × Int × Int × ByteArray × ByteArray × Int × Bool) := (blocks_index.f k l0 a1_0 a1_1 a1_2 a1_3).bind fun t167 => (if t167 ≥ 0 then (if 0 ≤ t167 then (if t167 < (l0.length : Int) then (some ((rd_T60 l0 t167).f0.f0.f0,(rd_T60 l0 t167).f0.f0.f1,(rd_T60 l0 t167).f0.f0.f2,(rd_T60 l0 t167).f0.f1,(rd_T60 l0 t167).f1,(rd_T60 l0 t167).f2,(rd_T60 l0 t167).f3,(rd_T60 l0 t167).f4,true)) else (none)) else (none)) else (some (false,0,0,0,0,(⟨#[]⟩ : ByteArray),(⟨#[]⟩ : ByteArray),0,false)))
theorem blocks_Find.mono : ∀ a0 a1 a2 a3 a4 k,LeO (blocks_Find.f k a0 a1 a2 a3 a4) (blocks_Find.f (k + 1) a0 a1 a2 a3 a4) := by
 intro a0 a1 a2 a3 a4 k
 unfold blocks_Find.f
 repeat' first
   | (with_reducible exact blocks_index.mono _ _ _ _ _ _)
   | (with_reducible exact LeO.refl _)
   | (with_reducible exact LeO.none _)
   | (with_reducible refine LeO.ite ?_ ?_)
   | (with_reducible refine LeO.bind ?_ (fun _ => ?_))
def prefix_length.f (a0_0 : Bool) (a0_1 : Int) (a0_2 : Int) : Option (Int) := if a0_0 = true then (some 128) else (some 32)
def addr_Valid.f (a0_0 : Bool) (a0_1 : Int) (a0_2 : Int) : Option (Bool) := if a0_0 = true then (some true) else (if a0_1 = 0 then (some (decide (a0_2 ≤ 4294967295))) else (some false))
def prefix_later.f (a0 : Bool) (a1 : Int) : Option (Int × Int) := if a0 = true then (if a1 ≥ 64 then (if 0 ≤ (IntKind.u64.wrap (wrap64 (128 - a1))) then (some (0,IntKind.u64.wrap ((shl .u64 1 (IntKind.u64.wrap (wrap64 (128 - a1)))) - 1))) else (none)) else (if 0 ≤ (IntKind.u64.wrap (wrap64 (64 - a1))) then (some (IntKind.u64.wrap ((shl .u64 1 (IntKind.u64.wrap (wrap64 (64 - a1)))) - 1),18446744073709551615)) else (none))) else (if 0 ≤ (IntKind.u64.wrap (wrap64 (32 - a1))) then (some (0,IntKind.u64.wrap ((shl .u64 1 (IntKind.u64.wrap (wrap64 (32 - a1)))) - 1))) else (none))
def prefix_Valid.j0 : Nat → Bool → Bool → Int → Int → Int → Option (Bool)
 | 0,_,_,_,_,_ => none
 | k + 1,x21,x172000,x172001,x172002,x172003 => if x21 = true then (some false) else ((prefix_later.f x172000 x172003).bind fun bt174 => (if (Go.bits .and .u64 x172001 bt174.1) = 0 then (some ((Go.bits .and .u64 x172002 bt174.2) == 0)) else (some false)))
def prefix_Valid.f (k : Nat) (a0_0 : Bool) (a0_1 : Int) (a0_2 : Int) (a0_3 : Int) : Option (Bool) := (addr_Valid.f a0_0 a0_1 a0_2).bind fun t172 => (if t172 = true then (if a0_3 < 0 then (prefix_Valid.j0 k true a0_0 a0_1 a0_2 a0_3) else ((prefix_length.f a0_0 a0_1 a0_2).bind fun t173 => (prefix_Valid.j0 k (decide (a0_3 > t173)) a0_0 a0_1 a0_2 a0_3))) else (prefix_Valid.j0 k true a0_0 a0_1 a0_2 a0_3))
theorem prefix_Valid.mono_l : ∀ k,(∀ y0 y1 y2 y3 y4,LeO (prefix_Valid.j0 k y0 y1 y2 y3 y4) (prefix_Valid.j0 (k + 1) y0 y1 y2 y3 y4))
 | 0 => fun _ _ _ _ _ r h => by simp [prefix_Valid.j0] at h
 | k + 1 => by
  have ih0 := prefix_Valid.mono_l k
  ·intro y0 y1 y2 y3 y4
   unfold prefix_Valid.j0
   repeat' first
   | (with_reducible exact ih0 _ _ _ _ _)
   | (with_reducible exact LeO.refl _)
   | (with_reducible exact LeO.none _)
   | (with_reducible refine LeO.ite ?_ ?_)
   | (with_reducible refine LeO.bind ?_ (fun _ => ?_))
theorem prefix_Valid.mono : ∀ a0 a1 a2 a3 k,LeO (prefix_Valid.f k a0 a1 a2 a3) (prefix_Valid.f (k + 1) a0 a1 a2 a3) := by
 intro a0 a1 a2 a3 k
 have ih0 := prefix_Valid.mono_l k
 unfold prefix_Valid.f
 repeat' first
   | (with_reducible exact ih0 _ _ _ _ _)
   | (with_reducible exact LeO.refl _)
   | (with_reducible exact LeO.none _)
   | (with_reducible refine LeO.ite ?_ ?_)
   | (with_reducible refine LeO.bind ?_ (fun _ => ?_))
def prefix_Of.j0 : Nat → Int → Bool → Bool → Int → Int → Option (Bool × Int × Int × Int × Bool)
 | 0,_,_,_,_,_ => none
 | k + 1,x1,x20,x177000,x177001,x177002 => if x20 = true then (some (false,0,0,0,false)) else ((prefix_later.f x177000 x1).bind fun bt180 => (some (x177000,Go.bits .andNot .u64 x177001 bt180.1,Go.bits .andNot .u64 x177002 bt180.2,x1,true)))
def prefix_Of.f (k : Nat) (a0_0 : Bool) (a0_1 : Int) (a0_2 : Int) (a1 : Int) : Option (Bool × Int × Int × Int × Bool) := (addr_Valid.f a0_0 a0_1 a0_2).bind fun t178 => (if t178 = true then (if a1 < 0 then (prefix_Of.j0 k a1 true a0_0 a0_1 a0_2) else ((prefix_length.f a0_0 a0_1 a0_2).bind fun t179 => (prefix_Of.j0 k a1 (decide (a1 > t179)) a0_0 a0_1 a0_2))) else (prefix_Of.j0 k a1 true a0_0 a0_1 a0_2))
theorem prefix_Of.mono_l : ∀ k,(∀ y0 y1 y2 y3 y4,LeO (prefix_Of.j0 k y0 y1 y2 y3 y4) (prefix_Of.j0 (k + 1) y0 y1 y2 y3 y4))
 | 0 => fun _ _ _ _ _ r h => by simp [prefix_Of.j0] at h
 | k + 1 => by
  have ih0 := prefix_Of.mono_l k
  ·intro y0 y1 y2 y3 y4
   unfold prefix_Of.j0
   repeat' first
   | (with_reducible exact ih0 _ _ _ _ _)
   | (with_reducible exact LeO.refl _)
   | (with_reducible exact LeO.none _)
   | (with_reducible refine LeO.ite ?_ ?_)
   | (with_reducible refine LeO.bind ?_ (fun _ => ?_))
theorem prefix_Of.mono : ∀ a0 a1 a2 a3 k,LeO (prefix_Of.f k a0 a1 a2 a3) (prefix_Of.f (k + 1) a0 a1 a2 a3) := by
 intro a0 a1 a2 a3 k
 have ih0 := prefix_Of.mono_l k
 unfold prefix_Of.f
 repeat' first
   | (with_reducible exact ih0 _ _ _ _ _)
   | (with_reducible exact LeO.refl _)
   | (with_reducible exact LeO.none _)
   | (with_reducible refine LeO.ite ?_ ?_)
   | (with_reducible refine LeO.bind ?_ (fun _ => ?_))
def prefix_Contains.j0 : Nat → Bool → Bool → Int → Int → Int → Bool → Int → Int → Option (Bool)
 | 0,_,_,_,_,_,_,_,_ => none
 | k + 1,x17,x183000,x183001,x183002,x183003,x184000,x184001,x184002 => if x17 = true then (some false) else ((prefix_Of.f k x184000 x184001 x184002 x183003).bind fun bt185 => (if bt185.2.2.2.2 = true then (some ((bt185.1 == x183000 && (bt185.2.1 == x183001 && (bt185.2.2.1 == x183002))) && (bt185.2.2.2.1 == x183003))) else (some false)))
def prefix_Contains.f (k : Nat) (a0_0 : Bool) (a0_1 : Int) (a0_2 : Int) (a0_3 : Int) (a1_0 : Bool) (a1_1 : Int) (a1_2 : Int) : Option (Bool) := (prefix_Valid.f k a0_0 a0_1 a0_2 a0_3).bind fun t184 => (if t184 = true then (prefix_Contains.j0 k (a0_0 != a1_0) a0_0 a0_1 a0_2 a0_3 a1_0 a1_1 a1_2) else (prefix_Contains.j0 k true a0_0 a0_1 a0_2 a0_3 a1_0 a1_1 a1_2))
theorem prefix_Contains.mono_l : ∀ k,(∀ y0 y1 y2 y3 y4 y5 y6 y7,LeO (prefix_Contains.j0 k y0 y1 y2 y3 y4 y5 y6 y7) (prefix_Contains.j0 (k + 1) y0 y1 y2 y3 y4 y5 y6 y7))
 | 0 => fun _ _ _ _ _ _ _ _ r h => by simp [prefix_Contains.j0] at h
 | k + 1 => by
  have ih0 := prefix_Contains.mono_l k
  ·intro y0 y1 y2 y3 y4 y5 y6 y7
   unfold prefix_Contains.j0
   repeat' first
   | (with_reducible exact ih0 _ _ _ _ _ _ _ _)
   | (with_reducible exact prefix_Of.mono _ _ _ _ _)
   | (with_reducible exact prefix_Valid.mono _ _ _ _ _)
   | (with_reducible exact LeO.refl _)
   | (with_reducible exact LeO.none _)
   | (with_reducible refine LeO.ite ?_ ?_)
   | (with_reducible refine LeO.bind ?_ (fun _ => ?_))
theorem prefix_Contains.mono : ∀ a0 a1 a2 a3 a4 a5 a6 k,LeO (prefix_Contains.f k a0 a1 a2 a3 a4 a5 a6) (prefix_Contains.f (k + 1) a0 a1 a2 a3 a4 a5 a6) := by
 intro a0 a1 a2 a3 a4 a5 a6 k
 have ih0 := prefix_Contains.mono_l k
 unfold prefix_Contains.f
 repeat' first
   | (with_reducible exact ih0 _ _ _ _ _ _ _ _)
   | (with_reducible exact prefix_Of.mono _ _ _ _ _)
   | (with_reducible exact prefix_Valid.mono _ _ _ _ _)
   | (with_reducible exact LeO.refl _)
   | (with_reducible exact LeO.none _)
   | (with_reducible refine LeO.ite ?_ ?_)
   | (with_reducible refine LeO.bind ?_ (fun _ => ?_))
def prefix_Size.f (k : Nat) (a0_0 : Bool) (a0_1 : Int) (a0_2 : Int) (a0_3 : Int) : Option (Int × Bool) := (prefix_Valid.f k a0_0 a0_1 a0_2 a0_3).bind fun t192 => (if t192 = true then ((prefix_length.f a0_0 a0_1 a0_2).bind fun t193 => (if (wrap64 (t193 - a0_3)) ≥ 64 then (some (0,false)) else (if 0 ≤ (IntKind.u64.wrap (wrap64 (t193 - a0_3))) then (some (shl .u64 1 (IntKind.u64.wrap (wrap64 (t193 - a0_3))),true)) else (none)))) else (some (0,false)))
theorem prefix_Size.mono : ∀ a0 a1 a2 a3 k,LeO (prefix_Size.f k a0 a1 a2 a3) (prefix_Size.f (k + 1) a0 a1 a2 a3) := by
 intro a0 a1 a2 a3 k
 unfold prefix_Size.f
 repeat' first
   | (with_reducible exact prefix_Valid.mono _ _ _ _ _)
   | (with_reducible exact LeO.refl _)
   | (with_reducible exact LeO.none _)
   | (with_reducible refine LeO.ite ?_ ?_)
   | (with_reducible refine LeO.bind ?_ (fun _ => ?_))
def usage_report.j0 (l : List (S29)) : List (Bool × Int × Int) := l.foldl (fun S a => XM.put S (a.f0,a.f1,a.f2)) []
def usage_report.l0 (k : Nat) (a0_0 : Bool) (a0_1 : Int) (a0_2 : Int) (a0_3 : Int) : List (S29) → List (Bool × Int × Int) → Option (List (Bool × Int × Int))
 | [],S => some S
 | a :: l,S => (prefix_Contains.f k a0_0 a0_1 a0_2 a0_3 a.f0 a.f1 a.f2).bind fun t => usage_report.l0 k a0_0 a0_1 a0_2 a0_3 l (if t = true then S else XM.del S (a.f0,a.f1,a.f2))
def usage_report.j1 (n t : Int) : Option (Int × Int × Int) :=
 if t = 0 then none else (if (Int.tmod (IntKind.u64.wrap (1000 * n)) t) > 0 then some (n,t,wrap64 (IntKind.u64.wrap ((IntKind.u64.wrap (Int.tdiv (IntKind.u64.wrap (1000 * n)) t)) + 1))) else some (n,t,wrap64 (IntKind.u64.wrap (Int.tdiv (IntKind.u64.wrap (1000 * n)) t))))
def usage_report.f (k : Nat) (a0_0 : Bool) (a0_1 : Int) (a0_2 : Int) (a0_3 : Int) (l1 : List (S29)) : Option (Bool × Int × Int × Int × Int × Int × Int) :=
 if (l1.all fun a => XM.ok (a.f0,a.f1,a.f2)) = true then (if l1.length * 24 ≤ 140737488355328 then ((usage_report.l0 k a0_0 a0_1 a0_2 a0_3 l1 (usage_report.j0 l1)).bind fun S => (prefix_Size.f k a0_0 a0_1 a0_2 a0_3).bind fun u => (usage_report.j1 (S.length : Int) (if u.2 = true then u.1 else 18446744073709551615)).bind fun v => some (a0_0,a0_1,a0_2,a0_3,v.1,v.2.1,v.2.2)) else none) else none
theorem usage_report.mono_l : ∀ (k : Nat) (a0 : Bool) (a1 a2 a3 : Int) (l : List (S29)) (S : List (Bool × Int × Int)),LeO (usage_report.l0 k a0 a1 a2 a3 l S) (usage_report.l0 (k + 1) a0 a1 a2 a3 l S)
 | _,_,_,_,_,[],_ => LeO.refl _
 | k,a0,a1,a2,a3,a :: l,S => LeO.bind (prefix_Contains.mono _ _ _ _ _ _ _ _) (fun t => usage_report.mono_l k a0 a1 a2 a3 l _)
theorem usage_report.mono : ∀ a0 a1 a2 a3 a4 k,LeO (usage_report.f k a0 a1 a2 a3 a4) (usage_report.f (k + 1) a0 a1 a2 a3 a4) := by
 intro a0 a1 a2 a3 a4 k
 unfold usage_report.f
 refine LeO.ite (LeO.ite (LeO.bind (usage_report.mono_l k a0 a1 a2 a3 a4 _) (fun S => LeO.bind (prefix_Size.mono _ _ _ _ _) (fun u => LeO.refl _))) (LeO.none _)) (LeO.none _)
def usage_Of.f (k : Nat) (l0 : List (S60)) (a1_0 : Bool) (a1_1 : Int) (a1_2 : Int) (a1_3 : Int) (l2 : List (S29)) : Option (Bool × Int × Int × Int × Int × Int × Int × Bool) := (blocks_Find.f k l0 a1_0 a1_1 a1_2 a1_3).bind fun bt196 => (if bt196.2.2.2.2.2.2.2.2 = true then ((usage_report.f k a1_0 a1_1 a1_2 a1_3 l2).bind fun bt206 => (some (bt206.1,bt206.2.1,bt206.2.2.1,bt206.2.2.2.1,bt206.2.2.2.2.1,bt206.2.2.2.2.2.1,bt206.2.2.2.2.2.2,true))) else (some (false,0,0,0,0,0,0,false)))
theorem usage_Of.mono : ∀ a0 a1 a2 a3 a4 a5 k,LeO (usage_Of.f k a0 a1 a2 a3 a4 a5) (usage_Of.f (k + 1) a0 a1 a2 a3 a4 a5) := by
 intro a0 a1 a2 a3 a4 a5 k
 unfold usage_Of.f
 repeat' first
   | (with_reducible exact blocks_Find.mono _ _ _ _ _ _)
   | (with_reducible exact usage_report.mono _ _ _ _ _ _)
   | (with_reducible exact LeO.refl _)
   | (with_reducible exact LeO.none _)
   | (with_reducible refine LeO.ite ?_ ?_)
   | (with_reducible refine LeO.bind ?_ (fun _ => ?_))
def usage_All.l0 : Nat → List (S29) → List (S36) → List (S60) → Int → Int → Option ((List (S36)))
 | 0,_,_,_,_,_ => none
 | k + 1,x1,x5,x9,x10,x11 => if x11 < x10 then (if 0 ≤ x11 then (if x11 < (x9.length : Int) then ((usage_report.f k ((rd_T60 x9 x11).f0.f0.f0) ((rd_T60 x9 x11).f0.f0.f1) ((rd_T60 x9 x11).f0.f0.f2) ((rd_T60 x9 x11).f0.f1) x1).bind fun bt216 => (if x5.length < 2513169434916 then (usage_All.l0 k x1 (x5 ++ [(⟨(⟨(⟨bt216.1,bt216.2.1,bt216.2.2.1⟩ : S29),bt216.2.2.2.1⟩ : S31),bt216.2.2.2.2.1,bt216.2.2.2.2.2.1,bt216.2.2.2.2.2.2⟩ : S36)]) x9 x10 (wrap64 (x11 + 1))) else (none))) else (none)) else (none)) else (some x5)
def usage_All.f (k : Nat) (l0_0 : List (S60)) (l0_1 : List (S73)) (l0_2 : List ByteArray) (l1 : List (S29)) : Option ((List (S36))) := usage_All.l0 k l1 ([] : List (S36)) l0_0 (l0_0.length : Int) 0
theorem usage_All.mono_l : ∀ k,(∀ y0 y1 y2 y3 y4,LeO (usage_All.l0 k y0 y1 y2 y3 y4) (usage_All.l0 (k + 1) y0 y1 y2 y3 y4))
 | 0 => fun _ _ _ _ _ r h => by simp [usage_All.l0] at h
 | k + 1 => by
  have ih0 := usage_All.mono_l k
  ·intro y0 y1 y2 y3 y4
   unfold usage_All.l0
   repeat' first
   | (with_reducible exact ih0 _ _ _ _ _)
   | (with_reducible exact usage_report.mono _ _ _ _ _ _)
   | (with_reducible exact LeO.refl _)
   | (with_reducible exact LeO.none _)
   | (with_reducible refine LeO.ite ?_ ?_)
   | (with_reducible refine LeO.bind ?_ (fun _ => ?_))
theorem usage_All.mono : ∀ a0 a1 a2 a3 k,LeO (usage_All.f k a0 a1 a2 a3) (usage_All.f (k + 1) a0 a1 a2 a3) := by
 intro a0 a1 a2 a3 k
 have ih0 := usage_All.mono_l k
 unfold usage_All.f
 repeat' first
   | (with_reducible exact ih0 _ _ _ _ _)
   | (with_reducible exact usage_report.mono _ _ _ _ _ _)
   | (with_reducible exact LeO.refl _)
   | (with_reducible exact LeO.none _)
   | (with_reducible refine LeO.ite ?_ ?_)
   | (with_reducible refine LeO.bind ?_ (fun _ => ?_))
def usage_Over.l0 : Nat → Int → List (S31) → List (S36) → Int → Int → Option ((List (S31)))
 | 0,_,_,_,_,_ => none
 | k + 1,x1,x5,x8,x9,x10 => if x10 < x9 then (if 0 ≤ x10 then (if x10 < (x8.length : Int) then (if ((rd_T36 x8 x10).f3) ≥ x1 then (if x5.length < 4398046511104 then (usage_Over.l0 k x1 (x5 ++ [(⟨(⟨(rd_T36 x8 x10).f0.f0.f0,(rd_T36 x8 x10).f0.f0.f1,(rd_T36 x8 x10).f0.f0.f2⟩ : S29),(rd_T36 x8 x10).f0.f1⟩ : S31)]) x8 x9 (wrap64 (x10 + 1))) else (none)) else (usage_Over.l0 k x1 x5 x8 x9 (wrap64 (x10 + 1)))) else (none)) else (none)) else (some x5)
def usage_Over.f (k : Nat) (l0 : List (S36)) (a1 : Int) : Option ((List (S31))) := usage_Over.l0 k a1 ([] : List (S31)) l0 (l0.length : Int) 0
theorem usage_Over.mono_l : ∀ k,(∀ y0 y1 y2 y3 y4,LeO (usage_Over.l0 k y0 y1 y2 y3 y4) (usage_Over.l0 (k + 1) y0 y1 y2 y3 y4))
 | 0 => fun _ _ _ _ _ r h => by simp [usage_Over.l0] at h
 | k + 1 => by
  have ih0 := usage_Over.mono_l k
  ·intro y0 y1 y2 y3 y4
   unfold usage_Over.l0
   repeat' first
   | (with_reducible exact ih0 _ _ _ _ _)
   | (with_reducible exact LeO.refl _)
   | (with_reducible exact LeO.none _)
   | (with_reducible refine LeO.ite ?_ ?_)
   | (with_reducible refine LeO.bind ?_ (fun _ => ?_))
theorem usage_Over.mono : ∀ a0 a1 k,LeO (usage_Over.f k a0 a1) (usage_Over.f (k + 1) a0 a1) := by
 intro a0 a1 k
 have ih0 := usage_Over.mono_l k
 unfold usage_Over.f
 repeat' first
   | (with_reducible exact ih0 _ _ _ _ _)
   | (with_reducible exact LeO.refl _)
   | (with_reducible exact LeO.none _)
   | (with_reducible refine LeO.ite ?_ ?_)
   | (with_reducible refine LeO.bind ?_ (fun _ => ?_))
def prefix_Within.f (k : Nat) (a0_0 : Bool) (a0_1 : Int) (a0_2 : Int) (a0_3 : Int) (a1_0 : Bool) (a1_1 : Int) (a1_2 : Int) (a1_3 : Int) : Option (Bool) := (prefix_Valid.f k a0_0 a0_1 a0_2 a0_3).bind fun t233 => (if t233 = true then ((prefix_Valid.f k a1_0 a1_1 a1_2 a1_3).bind fun t234 => (if t234 = true then (if a0_3 ≥ a1_3 then ((prefix_Contains.f k a1_0 a1_1 a1_2 a1_3 a0_0 a0_1 a0_2).bind fun t235 => (some t235)) else (some false)) else (some false))) else (some false))
theorem prefix_Within.mono : ∀ a0 a1 a2 a3 a4 a5 a6 a7 k,LeO (prefix_Within.f k a0 a1 a2 a3 a4 a5 a6 a7) (prefix_Within.f (k + 1) a0 a1 a2 a3 a4 a5 a6 a7) := by
 intro a0 a1 a2 a3 a4 a5 a6 a7 k
 unfold prefix_Within.f
 repeat' first
   | (with_reducible exact prefix_Contains.mono _ _ _ _ _ _ _ _)
   | (with_reducible exact prefix_Valid.mono _ _ _ _ _)
   | (with_reducible exact LeO.refl _)
   | (with_reducible exact LeO.none _)
   | (with_reducible refine LeO.ite ?_ ?_)
   | (with_reducible refine LeO.bind ?_ (fun _ => ?_))
def usage_reclaimable_1.f (k : Nat) (a0_0 : ByteArray) (a0_1 : Bool) (a0_2 : Int) (a0_3 : Int) (a0_4 : Int) (a1_0 : Bool) (a1_1 : Int) (a1_2 : Int) (a1_3 : Int) (a1_4 : Int) (a1_5 : ByteArray) (a1_6 : ByteArray) (a1_7 : Int) : Option (Bool) := (prefix_Contains.f k a1_0 a1_1 a1_2 a1_3 a0_1 a0_2 a0_3).bind fun t237 => (some t237)
theorem usage_reclaimable_1.mono : ∀ a0 a1 a2 a3 a4 a5 a6 a7 a8 a9 a10 a11 a12 k,LeO (usage_reclaimable_1.f k a0 a1 a2 a3 a4 a5 a6 a7 a8 a9 a10 a11 a12) (usage_reclaimable_1.f (k + 1) a0 a1 a2 a3 a4 a5 a6 a7 a8 a9 a10 a11 a12) := by
 intro a0 a1 a2 a3 a4 a5 a6 a7 a8 a9 a10 a11 a12 k
 unfold usage_reclaimable_1.f
 repeat' first
   | (with_reducible exact prefix_Contains.mono _ _ _ _ _ _ _ _)
   | (with_reducible exact LeO.refl _)
   | (with_reducible exact LeO.none _)
   | (with_reducible refine LeO.ite ?_ ?_)
   | (with_reducible refine LeO.bind ?_ (fun _ => ?_))
def slices_IndexFunc_58.l0 : Nat → List (S73) → Int → Int → Bool → Int → Int → Int → Int → ByteArray → ByteArray → Int → Option (Int)
 | 0,_,_,_,_,_,_,_,_,_,_,_ => none
 | k + 1,x0,x7,x8,x700101000,x700101001,x700101002,x700101003,x700101004,x700101005,x700101006,x700101007 => if x8 < x7 then (if 0 ≤ x8 then (if x8 < (x0.length : Int) then ((usage_reclaimable_1.f k ((rd_T73 x0 x8).f0) ((rd_T73 x0 x8).f1.f0) ((rd_T73 x0 x8).f1.f1) ((rd_T73 x0 x8).f1.f2) ((rd_T73 x0 x8).f2) x700101000 x700101001 x700101002 x700101003 x700101004 x700101005 x700101006 x700101007).bind fun t239 => (if t239 = true then (some x8) else (slices_IndexFunc_58.l0 k x0 x7 (wrap64 (x8 + 1)) x700101000 x700101001 x700101002 x700101003 x700101004 x700101005 x700101006 x700101007))) else (none)) else (none)) else (some (-1))
def slices_IndexFunc_58.f (k : Nat) (l0 : List (S73)) (a1_0 : Bool) (a1_1 : Int) (a1_2 : Int) (a1_3 : Int) (a1_4 : Int) (a1_5 : ByteArray) (a1_6 : ByteArray) (a1_7 : Int) : Option (Int) := slices_IndexFunc_58.l0 k l0 (l0.length : Int) 0 a1_0 a1_1 a1_2 a1_3 a1_4 a1_5 a1_6 a1_7
theorem slices_IndexFunc_58.mono_l : ∀ k,(∀ y0 y1 y2 y3 y4 y5 y6 y7 y8 y9 y10,LeO (slices_IndexFunc_58.l0 k y0 y1 y2 y3 y4 y5 y6 y7 y8 y9 y10) (slices_IndexFunc_58.l0 (k + 1) y0 y1 y2 y3 y4 y5 y6 y7 y8 y9 y10))
 | 0 => fun _ _ _ _ _ _ _ _ _ _ _ r h => by simp [slices_IndexFunc_58.l0] at h
 | k + 1 => by
  have ih0 := slices_IndexFunc_58.mono_l k
  ·intro y0 y1 y2 y3 y4 y5 y6 y7 y8 y9 y10
   unfold slices_IndexFunc_58.l0
   repeat' first
   | (with_reducible exact ih0 _ _ _ _ _ _ _ _ _ _ _)
   | (with_reducible exact usage_reclaimable_1.mono _ _ _ _ _ _ _ _ _ _ _ _ _ _)
   | (with_reducible exact LeO.refl _)
   | (with_reducible exact LeO.none _)
   | (with_reducible refine LeO.ite ?_ ?_)
   | (with_reducible refine LeO.bind ?_ (fun _ => ?_))
theorem slices_IndexFunc_58.mono : ∀ a0 a1 a2 a3 a4 a5 a6 a7 a8 k,LeO (slices_IndexFunc_58.f k a0 a1 a2 a3 a4 a5 a6 a7 a8) (slices_IndexFunc_58.f (k + 1) a0 a1 a2 a3 a4 a5 a6 a7 a8) := by
 intro a0 a1 a2 a3 a4 a5 a6 a7 a8 k
 have ih0 := slices_IndexFunc_58.mono_l k
 unfold slices_IndexFunc_58.f
 repeat' first
   | (with_reducible exact ih0 _ _ _ _ _ _ _ _ _ _ _)
   | (with_reducible exact usage_reclaimable_1.mono _ _ _ _ _ _ _ _ _ _ _ _ _ _)
   | (with_reducible exact LeO.refl _)
   | (with_reducible exact LeO.none _)
   | (with_reducible refine LeO.ite ?_ ?_)
   | (with_reducible refine LeO.bind ?_ (fun _ => ?_))
def slices_ContainsFunc_58.f (k : Nat) (l0 : List (S73)) (a1_0 : Bool) (a1_1 : Int) (a1_2 : Int) (a1_3 : Int) (a1_4 : Int) (a1_5 : ByteArray) (a1_6 : ByteArray) (a1_7 : Int) : Option (Bool) := (slices_IndexFunc_58.f k l0 a1_0 a1_1 a1_2 a1_3 a1_4 a1_5 a1_6 a1_7).bind fun t240 => (some (decide (t240 ≥ 0)))
theorem slices_ContainsFunc_58.mono : ∀ a0 a1 a2 a3 a4 a5 a6 a7 a8 k,LeO (slices_ContainsFunc_58.f k a0 a1 a2 a3 a4 a5 a6 a7 a8) (slices_ContainsFunc_58.f (k + 1) a0 a1 a2 a3 a4 a5 a6 a7 a8) := by
 intro a0 a1 a2 a3 a4 a5 a6 a7 a8 k
 unfold slices_ContainsFunc_58.f
 repeat' first
   | (with_reducible exact slices_IndexFunc_58.mono _ _ _ _ _ _ _ _ _ _)
   | (with_reducible exact LeO.refl _)
   | (with_reducible exact LeO.none _)
   | (with_reducible refine LeO.ite ?_ ?_)
   | (with_reducible refine LeO.bind ?_ (fun _ => ?_))
mutual
def usage_reclaimable.j0 : Nat → Bool → List (S60) → List (S73) → List ByteArray → Bool → Int → Int → Int → Int → ByteArray → ByteArray → Int → Option (Bool)
 | 0,_,_,_,_,_,_,_,_,_,_,_,_ => none
 | k + 1,x17,x242000,x242001,x242002,x243000,x243001,x243002,x243003,x243004,x243005,x243006,x243007 => if x17 = true then (some false) else (usage_reclaimable.l0 k x242000 (x242000.length : Int) 0 x242000 x242001 x242002 x243000 x243001 x243002 x243003 x243004 x243005 x243006 x243007)
def usage_reclaimable.l0 : Nat → List (S60) → Int → Int → List (S60) → List (S73) → List ByteArray → Bool → Int → Int → Int → Int → ByteArray → ByteArray → Int → Option (Bool)
 | 0,_,_,_,_,_,_,_,_,_,_,_,_,_,_ => none
 | k + 1,x19,x20,x21,x242000,x242001,x242002,x243000,x243001,x243002,x243003,x243004,x243005,x243006,x243007 => if x21 < x20 then (if 0 ≤ x21 then (if x21 < (x19.length : Int) then (if ((!(((rd_T60 x19 x21).f0.f0.f0) == x243000) || (!(((rd_T60 x19 x21).f0.f0.f1) == x243001) || (!(((rd_T60 x19 x21).f0.f0.f2) == x243002)))) || (!(((rd_T60 x19 x21).f0.f1) == x243003))) = true then ((prefix_Within.f k ((rd_T60 x19 x21).f0.f0.f0) ((rd_T60 x19 x21).f0.f0.f1) ((rd_T60 x19 x21).f0.f0.f2) ((rd_T60 x19 x21).f0.f1) x243000 x243001 x243002 x243003).bind fun t245 => (usage_reclaimable.j2 k x19 x20 x21 t245 x242000 x242001 x242002 x243000 x243001 x243002 x243003 x243004 x243005 x243006 x243007)) else (usage_reclaimable.j2 k x19 x20 x21 false x242000 x242001 x242002 x243000 x243001 x243002 x243003 x243004 x243005 x243006 x243007)) else (none)) else (none)) else ((slices_ContainsFunc_58.f k x242001 x243000 x243001 x243002 x243003 x243004 x243005 x243006 x243007).bind fun t246 => (some (!t246)))
def usage_reclaimable.j2 : Nat → List (S60) → Int → Int → Bool → List (S60) → List (S73) → List ByteArray → Bool → Int → Int → Int → Int → ByteArray → ByteArray → Int → Option (Bool)
 | 0,_,_,_,_,_,_,_,_,_,_,_,_,_,_,_ => none
 | k + 1,x19,x20,x21,x36,x242000,x242001,x242002,x243000,x243001,x243002,x243003,x243004,x243005,x243006,x243007 => if x36 = true then (some false) else (usage_reclaimable.l0 k x19 x20 (wrap64 (x21 + 1)) x242000 x242001 x242002 x243000 x243001 x243002 x243003 x243004 x243005 x243006 x243007)
end
def usage_reclaimable.f (k : Nat) (l0_0 : List (S60)) (l0_1 : List (S73)) (l0_2 : List ByteArray) (a1_0 : Bool) (a1_1 : Int) (a1_2 : Int) (a1_3 : Int) (a1_4 : Int) (a1_5 : ByteArray) (a1_6 : ByteArray) (a1_7 : Int) (a2 : Int) : Option (Bool) := if a1_7 = 0 then (usage_reclaimable.j0 k true l0_0 l0_1 l0_2 a1_0 a1_1 a1_2 a1_3 a1_4 a1_5 a1_6 a1_7) else (usage_reclaimable.j0 k (decide (a1_7 > a2)) l0_0 l0_1 l0_2 a1_0 a1_1 a1_2 a1_3 a1_4 a1_5 a1_6 a1_7)
theorem usage_reclaimable.mono_l : ∀ k,(∀ y0 y1 y2 y3 y4 y5 y6 y7 y8 y9 y10 y11,LeO (usage_reclaimable.j0 k y0 y1 y2 y3 y4 y5 y6 y7 y8 y9 y10 y11) (usage_reclaimable.j0 (k + 1) y0 y1 y2 y3 y4 y5 y6 y7 y8 y9 y10 y11)) ∧ (∀ y0 y1 y2 y3 y4 y5 y6 y7 y8 y9 y10 y11 y12 y13,LeO (usage_reclaimable.l0 k y0 y1 y2 y3 y4 y5 y6 y7 y8 y9 y10 y11 y12 y13) (usage_reclaimable.l0 (k + 1) y0 y1 y2 y3 y4 y5 y6 y7 y8 y9 y10 y11 y12 y13)) ∧ (∀ y0 y1 y2 y3 y4 y5 y6 y7 y8 y9 y10 y11 y12 y13 y14,LeO (usage_reclaimable.j2 k y0 y1 y2 y3 y4 y5 y6 y7 y8 y9 y10 y11 y12 y13 y14) (usage_reclaimable.j2 (k + 1) y0 y1 y2 y3 y4 y5 y6 y7 y8 y9 y10 y11 y12 y13 y14))
 | 0 => ⟨fun _ _ _ _ _ _ _ _ _ _ _ _ r h => by simp [usage_reclaimable.j0] at h,fun _ _ _ _ _ _ _ _ _ _ _ _ _ _ r h => by simp [usage_reclaimable.l0] at h,fun _ _ _ _ _ _ _ _ _ _ _ _ _ _ _ r h => by simp [usage_reclaimable.j2] at h⟩
 | k + 1 => by
  obtain ⟨ih0,ih1,ih2⟩ := usage_reclaimable.mono_l k
  refine ⟨?_,?_,?_⟩
  ·intro y0 y1 y2 y3 y4 y5 y6 y7 y8 y9 y10 y11
   unfold usage_reclaimable.j0
   repeat' first
   | (with_reducible exact ih0 _ _ _ _ _ _ _ _ _ _ _ _)
   | (with_reducible exact ih1 _ _ _ _ _ _ _ _ _ _ _ _ _ _)
   | (with_reducible exact ih2 _ _ _ _ _ _ _ _ _ _ _ _ _ _ _)
   | (with_reducible exact prefix_Within.mono _ _ _ _ _ _ _ _ _)
   | (with_reducible exact slices_ContainsFunc_58.mono _ _ _ _ _ _ _ _ _ _)
   | (with_reducible exact LeO.refl _)
   | (with_reducible exact LeO.none _)
   | (with_reducible refine LeO.ite ?_ ?_)
   | (with_reducible refine LeO.bind ?_ (fun _ => ?_))
  ·intro y0 y1 y2 y3 y4 y5 y6 y7 y8 y9 y10 y11 y12 y13
   unfold usage_reclaimable.l0
   repeat' first
   | (with_reducible exact ih0 _ _ _ _ _ _ _ _ _ _ _ _)
   | (with_reducible exact ih1 _ _ _ _ _ _ _ _ _ _ _ _ _ _)
   | (with_reducible exact ih2 _ _ _ _ _ _ _ _ _ _ _ _ _ _ _)
   | (with_reducible exact prefix_Within.mono _ _ _ _ _ _ _ _ _)
   | (with_reducible exact slices_ContainsFunc_58.mono _ _ _ _ _ _ _ _ _ _)
   | (with_reducible exact LeO.refl _)
   | (with_reducible exact LeO.none _)
   | (with_reducible refine LeO.ite ?_ ?_)
   | (with_reducible refine LeO.bind ?_ (fun _ => ?_))
  ·intro y0 y1 y2 y3 y4 y5 y6 y7 y8 y9 y10 y11 y12 y13 y14
   unfold usage_reclaimable.j2
   repeat' first
   | (with_reducible exact ih0 _ _ _ _ _ _ _ _ _ _ _ _)
   | (with_reducible exact ih1 _ _ _ _ _ _ _ _ _ _ _ _ _ _)
   | (with_reducible exact ih2 _ _ _ _ _ _ _ _ _ _ _ _ _ _ _)
   | (with_reducible exact prefix_Within.mono _ _ _ _ _ _ _ _ _)
   | (with_reducible exact slices_ContainsFunc_58.mono _ _ _ _ _ _ _ _ _ _)
   | (with_reducible exact LeO.refl _)
   | (with_reducible exact LeO.none _)
   | (with_reducible refine LeO.ite ?_ ?_)
   | (with_reducible refine LeO.bind ?_ (fun _ => ?_))
theorem usage_reclaimable.mono : ∀ a0 a1 a2 a3 a4 a5 a6 a7 a8 a9 a10 a11 k,LeO (usage_reclaimable.f k a0 a1 a2 a3 a4 a5 a6 a7 a8 a9 a10 a11) (usage_reclaimable.f (k + 1) a0 a1 a2 a3 a4 a5 a6 a7 a8 a9 a10 a11) := by
 intro a0 a1 a2 a3 a4 a5 a6 a7 a8 a9 a10 a11 k
 obtain ⟨ih0,ih1,ih2⟩ := usage_reclaimable.mono_l k
 unfold usage_reclaimable.f
 repeat' first
   | (with_reducible exact ih0 _ _ _ _ _ _ _ _ _ _ _ _)
   | (with_reducible exact ih1 _ _ _ _ _ _ _ _ _ _ _ _ _ _)
   | (with_reducible exact ih2 _ _ _ _ _ _ _ _ _ _ _ _ _ _ _)
   | (with_reducible exact prefix_Within.mono _ _ _ _ _ _ _ _ _)
   | (with_reducible exact slices_ContainsFunc_58.mono _ _ _ _ _ _ _ _ _ _)
   | (with_reducible exact LeO.refl _)
   | (with_reducible exact LeO.none _)
   | (with_reducible refine LeO.ite ?_ ?_)
   | (with_reducible refine LeO.bind ?_ (fun _ => ?_))
def usage_Reclaimable.l0 : Nat → Int → List (S31) → List (S60) → Int → Int → List (S60) → List (S73) → List ByteArray → Option ((List (S31)))
 | 0,_,_,_,_,_,_,_,_ => none
 | k + 1,x1,x5,x9,x10,x11,x248000,x248001,x248002 => if x11 < x10 then (if 0 ≤ x11 then (if x11 < (x9.length : Int) then ((usage_reclaimable.f k x248000 x248001 x248002 ((rd_T60 x9 x11).f0.f0.f0) ((rd_T60 x9 x11).f0.f0.f1) ((rd_T60 x9 x11).f0.f0.f2) ((rd_T60 x9 x11).f0.f1) ((rd_T60 x9 x11).f1) ((rd_T60 x9 x11).f2) ((rd_T60 x9 x11).f3) ((rd_T60 x9 x11).f4) x1).bind fun t250 => (if t250 = true then (if x5.length < 4398046511104 then (usage_Reclaimable.l0 k x1 (x5 ++ [(⟨(⟨(rd_T60 x9 x11).f0.f0.f0,(rd_T60 x9 x11).f0.f0.f1,(rd_T60 x9 x11).f0.f0.f2⟩ : S29),(rd_T60 x9 x11).f0.f1⟩ : S31)]) x9 x10 (wrap64 (x11 + 1)) x248000 x248001 x248002) else (none)) else (usage_Reclaimable.l0 k x1 x5 x9 x10 (wrap64 (x11 + 1)) x248000 x248001 x248002))) else (none)) else (none)) else (some x5)
def usage_Reclaimable.f (k : Nat) (l0_0 : List (S60)) (l0_1 : List (S73)) (l0_2 : List ByteArray) (a1 : Int) : Option ((List (S31))) := usage_Reclaimable.l0 k a1 ([] : List (S31)) l0_0 (l0_0.length : Int) 0 l0_0 l0_1 l0_2
theorem usage_Reclaimable.mono_l : ∀ k,(∀ y0 y1 y2 y3 y4 y5 y6 y7,LeO (usage_Reclaimable.l0 k y0 y1 y2 y3 y4 y5 y6 y7) (usage_Reclaimable.l0 (k + 1) y0 y1 y2 y3 y4 y5 y6 y7))
 | 0 => fun _ _ _ _ _ _ _ _ r h => by simp [usage_Reclaimable.l0] at h
 | k + 1 => by
  have ih0 := usage_Reclaimable.mono_l k
  ·intro y0 y1 y2 y3 y4 y5 y6 y7
   unfold usage_Reclaimable.l0
   repeat' first
   | (with_reducible exact ih0 _ _ _ _ _ _ _ _)
   | (with_reducible exact usage_reclaimable.mono _ _ _ _ _ _ _ _ _ _ _ _ _)
   | (with_reducible exact LeO.refl _)
   | (with_reducible exact LeO.none _)
   | (with_reducible refine LeO.ite ?_ ?_)
   | (with_reducible refine LeO.bind ?_ (fun _ => ?_))
theorem usage_Reclaimable.mono : ∀ a0 a1 a2 a3 k,LeO (usage_Reclaimable.f k a0 a1 a2 a3) (usage_Reclaimable.f (k + 1) a0 a1 a2 a3) := by
 intro a0 a1 a2 a3 k
 have ih0 := usage_Reclaimable.mono_l k
 unfold usage_Reclaimable.f
 repeat' first
   | (with_reducible exact ih0 _ _ _ _ _ _ _ _)
   | (with_reducible exact usage_reclaimable.mono _ _ _ _ _ _ _ _ _ _ _ _ _)
   | (with_reducible exact LeO.refl _)
   | (with_reducible exact LeO.none _)
   | (with_reducible refine LeO.ite ?_ ?_)
   | (with_reducible refine LeO.bind ?_ (fun _ => ?_))
def slices_Clone_30.f (l0 : List (S60)) : Option (List (S60)) := if l0.length * 80 ≤ 140737488355328 then some l0 else none
def slices_Clone_31.f (l0 : List (S73)) : Option (List (S73)) := if l0.length * 48 ≤ 140737488355328 then some l0 else none
def slices_Clone_32.f (l0 : List (ByteArray)) : Option (List (ByteArray)) := if l0.length * 16 ≤ 140737488355328 then some l0 else none
def slices_Index.l0 : Nat → List (S31) → Int → Int → Bool → Int → Int → Int → Option (Int)
 | 0,_,_,_,_,_,_,_ => none
 | k + 1,x0,x7,x8,x255000,x255001,x255002,x255003 => if x8 < x7 then (if 0 ≤ x8 then (if x8 < (x0.length : Int) then (if ((x255000 == ((rd_T31 x0 x8).f0.f0) && (x255001 == ((rd_T31 x0 x8).f0.f1) && (x255002 == ((rd_T31 x0 x8).f0.f2)))) && (x255003 == ((rd_T31 x0 x8).f1))) = true then (some x8) else (slices_Index.l0 k x0 x7 (wrap64 (x8 + 1)) x255000 x255001 x255002 x255003)) else (none)) else (none)) else (some (-1))
def slices_Index.f (k : Nat) (l0 : List (S31)) (a1_0 : Bool) (a1_1 : Int) (a1_2 : Int) (a1_3 : Int) : Option (Int) := slices_Index.l0 k l0 (l0.length : Int) 0 a1_0 a1_1 a1_2 a1_3
theorem slices_Index.mono_l : ∀ k,(∀ y0 y1 y2 y3 y4 y5 y6,LeO (slices_Index.l0 k y0 y1 y2 y3 y4 y5 y6) (slices_Index.l0 (k + 1) y0 y1 y2 y3 y4 y5 y6))
 | 0 => fun _ _ _ _ _ _ _ r h => by simp [slices_Index.l0] at h
 | k + 1 => by
  have ih0 := slices_Index.mono_l k
  ·intro y0 y1 y2 y3 y4 y5 y6
   unfold slices_Index.l0
   repeat' first
   | (with_reducible exact ih0 _ _ _ _ _ _ _)
   | (with_reducible exact LeO.refl _)
   | (with_reducible exact LeO.none _)
   | (with_reducible refine LeO.ite ?_ ?_)
   | (with_reducible refine LeO.bind ?_ (fun _ => ?_))
theorem slices_Index.mono : ∀ a0 a1 a2 a3 a4 k,LeO (slices_Index.f k a0 a1 a2 a3 a4) (slices_Index.f (k + 1) a0 a1 a2 a3 a4) := by
 intro a0 a1 a2 a3 a4 k
 have ih0 := slices_Index.mono_l k
 unfold slices_Index.f
 repeat' first
   | (with_reducible exact ih0 _ _ _ _ _ _ _)
   | (with_reducible exact LeO.refl _)
   | (with_reducible exact LeO.none _)
   | (with_reducible refine LeO.ite ?_ ?_)
   | (with_reducible refine LeO.bind ?_ (fun _ => ?_))
def slices_Contains.f (k : Nat) (l0 : List (S31)) (a1_0 : Bool) (a1_1 : Int) (a1_2 : Int) (a1_3 : Int) : Option (Bool) := (slices_Index.f k l0 a1_0 a1_1 a1_2 a1_3).bind fun t257 => (some (decide (t257 ≥ 0)))
theorem slices_Contains.mono : ∀ a0 a1 a2 a3 a4 k,LeO (slices_Contains.f k a0 a1 a2 a3 a4) (slices_Contains.f (k + 1) a0 a1 a2 a3 a4) := by
 intro a0 a1 a2 a3 a4 k
 unfold slices_Contains.f
 repeat' first
   | (with_reducible exact slices_Index.mono _ _ _ _ _ _)
   | (with_reducible exact LeO.refl _)
   | (with_reducible exact LeO.none _)
   | (with_reducible refine LeO.ite ?_ ?_)
   | (with_reducible refine LeO.bind ?_ (fun _ => ?_))
def usage_Reclaim_1.f (k : Nat) (a0_0 : Bool) (a0_1 : Int) (a0_2 : Int) (a0_3 : Int) (a0_4 : Int) (a0_5 : ByteArray) (a0_6 : ByteArray) (a0_7 : Int) (l1_0 : List (S31)) : Option (Bool) := (slices_Contains.f k l1_0 a0_0 a0_1 a0_2 a0_3).bind fun t259 => (some t259)
theorem usage_Reclaim_1.mono : ∀ a0 a1 a2 a3 a4 a5 a6 a7 a8 k,LeO (usage_Reclaim_1.f k a0 a1 a2 a3 a4 a5 a6 a7 a8) (usage_Reclaim_1.f (k + 1) a0 a1 a2 a3 a4 a5 a6 a7 a8) := by
 intro a0 a1 a2 a3 a4 a5 a6 a7 a8 k
 unfold usage_Reclaim_1.f
 repeat' first
   | (with_reducible exact slices_Contains.mono _ _ _ _ _ _)
   | (with_reducible exact LeO.refl _)
   | (with_reducible exact LeO.none _)
   | (with_reducible refine LeO.ite ?_ ?_)
   | (with_reducible refine LeO.bind ?_ (fun _ => ?_))
def slices_IndexFunc_34.l0 : Nat → List (S60) → Int → Int → List (S31) → Option (Int)
 | 0,_,_,_,_ => none
 | k + 1,x0,x7,x8,x700101000 => if x8 < x7 then (if 0 ≤ x8 then (if x8 < (x0.length : Int) then ((usage_Reclaim_1.f k ((rd_T60 x0 x8).f0.f0.f0) ((rd_T60 x0 x8).f0.f0.f1) ((rd_T60 x0 x8).f0.f0.f2) ((rd_T60 x0 x8).f0.f1) ((rd_T60 x0 x8).f1) ((rd_T60 x0 x8).f2) ((rd_T60 x0 x8).f3) ((rd_T60 x0 x8).f4) x700101000).bind fun t261 => (if t261 = true then (some x8) else (slices_IndexFunc_34.l0 k x0 x7 (wrap64 (x8 + 1)) x700101000))) else (none)) else (none)) else (some (-1))
def slices_IndexFunc_34.f (k : Nat) (l0 : List (S60)) (l1_0 : List (S31)) : Option (Int) := slices_IndexFunc_34.l0 k l0 (l0.length : Int) 0 l1_0
theorem slices_IndexFunc_34.mono_l : ∀ k,(∀ y0 y1 y2 y3,LeO (slices_IndexFunc_34.l0 k y0 y1 y2 y3) (slices_IndexFunc_34.l0 (k + 1) y0 y1 y2 y3))
 | 0 => fun _ _ _ _ r h => by simp [slices_IndexFunc_34.l0] at h
 | k + 1 => by
  have ih0 := slices_IndexFunc_34.mono_l k
  ·intro y0 y1 y2 y3
   unfold slices_IndexFunc_34.l0
   repeat' first
   | (with_reducible exact ih0 _ _ _ _)
   | (with_reducible exact usage_Reclaim_1.mono _ _ _ _ _ _ _ _ _ _)
   | (with_reducible exact LeO.refl _)
   | (with_reducible exact LeO.none _)
   | (with_reducible refine LeO.ite ?_ ?_)
   | (with_reducible refine LeO.bind ?_ (fun _ => ?_))
theorem slices_IndexFunc_34.mono : ∀ a0 a1 k,LeO (slices_IndexFunc_34.f k a0 a1) (slices_IndexFunc_34.f (k + 1) a0 a1) := by
 intro a0 a1 k
 have ih0 := slices_IndexFunc_34.mono_l k
 unfold slices_IndexFunc_34.f
 repeat' first
   | (with_reducible exact ih0 _ _ _ _)
   | (with_reducible exact usage_Reclaim_1.mono _ _ _ _ _ _ _ _ _ _)
   | (with_reducible exact LeO.refl _)
   | (with_reducible exact LeO.none _)
   | (with_reducible refine LeO.ite ?_ ?_)
   | (with_reducible refine LeO.bind ?_ (fun _ => ?_))
def slices_DeleteFunc_34.l0 : Nat → List (S60) → Int → Int → List (S31) → Option ((List (S60)))
 | 0,_,_,_,_ => none
 | k + 1,x0,x5,x6,x700101000 => if x6 < (x0.length : Int) then (if 0 ≤ x6 then ((usage_Reclaim_1.f k ((rd_T60 x0 x6).f0.f0.f0) ((rd_T60 x0 x6).f0.f0.f1) ((rd_T60 x0 x6).f0.f0.f2) ((rd_T60 x0 x6).f0.f1) ((rd_T60 x0 x6).f1) ((rd_T60 x0 x6).f2) ((rd_T60 x0 x6).f3) ((rd_T60 x0 x6).f4) x700101000).bind fun t273 => (if t273 = true then (slices_DeleteFunc_34.l0 k x0 x5 (wrap64 (x6 + 1)) x700101000) else (if 0 ≤ x5 then (if x5 < (x0.length : Int) then (slices_DeleteFunc_34.l0 k (x0.set (x5 : Int).toNat (⟨(⟨(⟨(rd_T60 x0 x6).f0.f0.f0,(rd_T60 x0 x6).f0.f0.f1,(rd_T60 x0 x6).f0.f0.f2⟩ : S29),(rd_T60 x0 x6).f0.f1⟩ : S31),(rd_T60 x0 x6).f1,(rd_T60 x0 x6).f2,(rd_T60 x0 x6).f3,(rd_T60 x0 x6).f4⟩ : S60)) (wrap64 (x5 + 1)) (wrap64 (x6 + 1)) x700101000) else (none)) else (none)))) else (none)) else (if 0 ≤ x5 then (if x5 ≤ (x0.length : Int) then (some ((x0.take (x5 : Int).toNat ++ List.replicate (x0.length - (x5 : Int).toNat) z60).take (x5 : Int).toNat)) else (none)) else (none))
def slices_DeleteFunc_34.f (k : Nat) (l0 : List (S60)) (l1_0 : List (S31)) : Option ((List (S60))) := (slices_IndexFunc_34.f k l0 l1_0).bind fun t262 => (if t262 = (-1) then (some l0) else (slices_DeleteFunc_34.l0 k l0 t262 (wrap64 (t262 + 1)) l1_0))
theorem slices_DeleteFunc_34.mono_l : ∀ k,(∀ y0 y1 y2 y3,LeO (slices_DeleteFunc_34.l0 k y0 y1 y2 y3) (slices_DeleteFunc_34.l0 (k + 1) y0 y1 y2 y3))
 | 0 => fun _ _ _ _ r h => by simp [slices_DeleteFunc_34.l0] at h
 | k + 1 => by
  have ih0 := slices_DeleteFunc_34.mono_l k
  ·intro y0 y1 y2 y3
   unfold slices_DeleteFunc_34.l0
   repeat' first
   | (with_reducible exact ih0 _ _ _ _)
   | (with_reducible exact slices_IndexFunc_34.mono _ _ _)
   | (with_reducible exact usage_Reclaim_1.mono _ _ _ _ _ _ _ _ _ _)
   | (with_reducible exact LeO.refl _)
   | (with_reducible exact LeO.none _)
   | (with_reducible refine LeO.ite ?_ ?_)
   | (with_reducible refine LeO.bind ?_ (fun _ => ?_))
theorem slices_DeleteFunc_34.mono : ∀ a0 a1 k,LeO (slices_DeleteFunc_34.f k a0 a1) (slices_DeleteFunc_34.f (k + 1) a0 a1) := by
 intro a0 a1 k
 have ih0 := slices_DeleteFunc_34.mono_l k
 unfold slices_DeleteFunc_34.f
 repeat' first
   | (with_reducible exact ih0 _ _ _ _)
   | (with_reducible exact slices_IndexFunc_34.mono _ _ _)
   | (with_reducible exact usage_Reclaim_1.mono _ _ _ _ _ _ _ _ _ _)
   | (with_reducible exact LeO.refl _)
   | (with_reducible exact LeO.none _)
   | (with_reducible refine LeO.ite ?_ ?_)
   | (with_reducible refine LeO.bind ?_ (fun _ => ?_))
def usage_Reclaim.l0 : Nat → Int → List (S60) → List (S73) → List ByteArray → List (S60) → List (S73) → List ByteArray → Option ((List (S60)) × (List (S73)) × List ByteArray × Int)
 | 0,_,_,_,_,_,_,_ => none
 | k + 1,x1,x276000,x276001,x276002,x287000,x287001,x287002 => (usage_Reclaimable.f k x287000 x287001 x287002 x1).bind fun t287 => (if (t287.length : Int) = 0 then (some (x287000,x287001,x287002,wrap64 ((x276000.length : Int) - (x287000.length : Int)))) else ((slices_DeleteFunc_34.f k x287000 t287).bind fun t291 => (usage_Reclaim.l0 k x1 x276000 x276001 x276002 t291 x287001 x287002)))
def usage_Reclaim.f (k : Nat) (l0_0 : List (S60)) (l0_1 : List (S73)) (l0_2 : List ByteArray) (a1 : Int) : Option ((List (S60)) × (List (S73)) × List ByteArray × Int) := (slices_Clone_30.f l0_0).bind fun t277 => ((slices_Clone_31.f l0_1).bind fun t280 => ((slices_Clone_32.f l0_2).bind fun t283 => (usage_Reclaim.l0 k a1 l0_0 l0_1 l0_2 t277 t280 t283)))
theorem usage_Reclaim.mono_l : ∀ k,(∀ y0 y1 y2 y3 y4 y5 y6,LeO (usage_Reclaim.l0 k y0 y1 y2 y3 y4 y5 y6) (usage_Reclaim.l0 (k + 1) y0 y1 y2 y3 y4 y5 y6))
 | 0 => fun _ _ _ _ _ _ _ r h => by simp [usage_Reclaim.l0] at h
 | k + 1 => by
  have ih0 := usage_Reclaim.mono_l k
  ·intro y0 y1 y2 y3 y4 y5 y6
   unfold usage_Reclaim.l0
   repeat' first
   | (with_reducible exact ih0 _ _ _ _ _ _ _)
   | (with_reducible exact slices_DeleteFunc_34.mono _ _ _)
   | (with_reducible exact usage_Reclaimable.mono _ _ _ _ _)
   | (with_reducible exact LeO.refl _)
   | (with_reducible exact LeO.none _)
   | (with_reducible refine LeO.ite ?_ ?_)
   | (with_reducible refine LeO.bind ?_ (fun _ => ?_))
theorem usage_Reclaim.mono : ∀ a0 a1 a2 a3 k,LeO (usage_Reclaim.f k a0 a1 a2 a3) (usage_Reclaim.f (k + 1) a0 a1 a2 a3) := by
 intro a0 a1 a2 a3 k
 have ih0 := usage_Reclaim.mono_l k
 unfold usage_Reclaim.f
 repeat' first
   | (with_reducible exact ih0 _ _ _ _ _ _ _)
   | (with_reducible exact slices_DeleteFunc_34.mono _ _ _)
   | (with_reducible exact usage_Reclaimable.mono _ _ _ _ _)
   | (with_reducible exact LeO.refl _)
   | (with_reducible exact LeO.none _)
   | (with_reducible refine LeO.ite ?_ ?_)
   | (with_reducible refine LeO.bind ?_ (fun _ => ?_))
def ddilaw48_four.f (a0 : Int) (a1 : Int) : Option (Bool × Int × Int × Int) := some (false,0,a0,a1)
def ddilaw48_awake.f (k : Nat)  : Option (Bool) := (ddilaw48_four.f 167772160 29).bind fun bt295 => ((ddilaw48_four.f 167772160 30).bind fun bt299 => ((some (([(⟨(⟨(⟨bt295.1,bt295.2.1,bt295.2.2.1⟩ : S29),bt295.2.2.2⟩ : S31),1,(⟨#[97]⟩ : ByteArray),(⟨#[]⟩ : ByteArray),5⟩ : S60),(⟨(⟨(⟨bt299.1,bt299.2.1,bt299.2.2.1⟩ : S29),bt299.2.2.2⟩ : S31),2,(⟨#[98]⟩ : ByteArray),(⟨#[]⟩ : ByteArray),5⟩ : S60)] : List (S60)) : List (S60))).bind fun y305 => ((usage_Of.f k y305 bt299.1 bt299.2.1 bt299.2.2.1 bt299.2.2.2 (([(⟨false,0,167772161⟩ : S29),(⟨false,0,167772161⟩ : S29),(⟨false,0,1⟩ : S29)] : List (S29)))).bind fun bt312 => ((ddilaw48_four.f 1 32).bind fun bt321 => ((usage_Of.f k y305 bt321.1 bt321.2.1 bt321.2.2.1 bt321.2.2.2 ([] : List (S29))).bind fun bt325 => ((usage_Reclaimable.f k y305 ([] : List (S73)) ([] : List ByteArray) 5).bind fun t334 => ((usage_Reclaim.f k y305 ([] : List (S73)) ([] : List ByteArray) 5).bind fun bt337 => ((usage_Reclaim.f k y305 ([] : List (S73)) ([] : List ByteArray) 4).bind fun bt348 => (if bt312.2.2.2.2.2.2.2 = true then (if bt325.2.2.2.2.2.2.2 = true then (some false) else (if (((bt312.1 == bt299.1 && (bt312.2.1 == bt299.2.1 && (bt312.2.2.1 == bt299.2.2.1))) && (bt312.2.2.2.1 == bt299.2.2.2)) && (bt312.2.2.2.2.1 == 1 && (bt312.2.2.2.2.2.1 == 4 && (bt312.2.2.2.2.2.2.1 == 250)))) = true then ((usage_Over.f k (([(⟨(⟨(⟨bt312.1,bt312.2.1,bt312.2.2.1⟩ : S29),bt312.2.2.2.1⟩ : S31),bt312.2.2.2.2.1,bt312.2.2.2.2.2.1,bt312.2.2.2.2.2.2.1⟩ : S36)] : List (S36))) 250).bind fun t362 => (if (t362.length : Int) = 1 then ((usage_Over.f k (([(⟨(⟨(⟨bt312.1,bt312.2.1,bt312.2.2.1⟩ : S29),bt312.2.2.2.1⟩ : S31),bt312.2.2.2.2.1,bt312.2.2.2.2.2.1,bt312.2.2.2.2.2.2.1⟩ : S36)] : List (S36))) 251).bind fun t368 => (if (t368.length : Int) = 0 then (if (t334.length : Int) = 1 then (if 0 < (t334.length : Int) then (if ((((rd_T31 t334 0).f0.f0) == bt299.1 && (((rd_T31 t334 0).f0.f1) == bt299.2.1 && (((rd_T31 t334 0).f0.f2) == bt299.2.2.1))) && (((rd_T31 t334 0).f1) == bt299.2.2.2)) = true then (if bt337.2.2.2 = 2 then (if (bt337.1.length : Int) = 0 then (if bt348.2.2.2 = 0 then ((usage_All.f k y305 ([] : List (S73)) ([] : List ByteArray) ([] : List (S29))).bind fun t372 => (some ((t372.length : Int) == 2))) else (some false)) else (some false)) else (some false)) else (some false)) else (none)) else (some false)) else (some false))) else (some false))) else (some false))) else (some false))))))))))
theorem ddilaw48_awake.mono : ∀ k,LeO (ddilaw48_awake.f k ) (ddilaw48_awake.f (k + 1) ) := by
 intro  k
 unfold ddilaw48_awake.f
 repeat' first
   | (with_reducible exact usage_All.mono _ _ _ _ _)
   | (with_reducible exact usage_Of.mono _ _ _ _ _ _ _)
   | (with_reducible exact usage_Over.mono _ _ _)
   | (with_reducible exact usage_Reclaim.mono _ _ _ _ _)
   | (with_reducible exact usage_Reclaimable.mono _ _ _ _ _)
   | (with_reducible exact LeO.refl _)
   | (with_reducible exact LeO.none _)
   | (with_reducible refine LeO.ite ?_ ?_)
   | (with_reducible refine LeO.bind ?_ (fun _ => ?_))
end Go.Proofs.Ytjifdgicamlikaa.QA
