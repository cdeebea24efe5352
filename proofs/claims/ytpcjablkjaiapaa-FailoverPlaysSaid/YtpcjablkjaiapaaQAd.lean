-- Written by this session's own program (wip/xprint) out of the translation; Lean checks it.
import Derived.Test.YtpcjablkjaiapaaQAd1
namespace Go.Proofs.Ytpcjablkjaiapaa.QA
open Go.RowKit Go.Proofs.YtpcjablkjaiapaaW.PrintWords Go.Proofs.YtpcjablkjaiapaaW.PrintLast Go.Proofs.YtpcjablkjaiapaaW.PrintMore
set_option linter.unusedVariables false
def ddiref44_New.j0 : Nat → Bool → Int → Bool → Option (Bool × Int × Int × Int × Int)
 | 0,_,_,_ => none
 | k + 1,x0,x1,x11 => if x11 = true then (some (false,0,0,0,1)) else (some (x0,0,0,x1,0))
def ddiref44_New.f (k : Nat) (a0 : Bool) (a1 : Int) : Option (Bool × Int × Int × Int × Int) := if a1 < 1 then (ddiref44_New.j0 k a0 a1 true) else (ddiref44_New.j0 k a0 a1 (decide (a1 > 1073741824)))
theorem ddiref44_New.mono_l : ∀ k,(∀ y0 y1 y2,LeO (ddiref44_New.j0 k y0 y1 y2) (ddiref44_New.j0 (k + 1) y0 y1 y2))
 | 0 => fun _ _ _ r h => by simp [ddiref44_New.j0] at h
 | k + 1 => by
  have ih0 := ddiref44_New.mono_l k
  ·intro y0 y1 y2
   unfold ddiref44_New.j0
   repeat' first
   | (with_reducible exact ih0 _ _ _)
   | (with_reducible exact LeO.refl _)
   | (with_reducible exact LeO.none _)
   | (with_reducible refine LeO.ite ?_ ?_)
   | (with_reducible refine LeO.bind ?_ (fun _ => ?_))
theorem ddiref44_New.mono : ∀ a0 a1 k,LeO (ddiref44_New.f k a0 a1) (ddiref44_New.f (k + 1) a0 a1) := by
 intro a0 a1 k
 have ih0 := ddiref44_New.mono_l k
 unfold ddiref44_New.f
 repeat' first
   | (with_reducible exact ih0 _ _ _)
   | (with_reducible exact LeO.refl _)
   | (with_reducible exact LeO.none _)
   | (with_reducible refine LeO.ite ?_ ?_)
   | (with_reducible refine LeO.bind ?_ (fun _ => ?_))
def failover_Hear.j0 : Nat → Int → Int → Bool → Bool → Int → Int → Int → Option (Bool × Int × Int × Int)
 | 0,_,_,_,_,_,_,_ => none
 | k + 1,x1,x2,x19,x538000,x538001,x538002,x538003 => if x19 = true then (some (x538000,x538001,x538002,x538003)) else ((failover_normal.f x538000 x538001 x538002 x538003 x1 x2).bind fun bt544 => (some (bt544.1,bt544.2.1,bt544.2.2.1,bt544.2.2.2)))
def failover_Hear.f (k : Nat) (a0_0 : Bool) (a0_1 : Int) (a0_2 : Int) (a0_3 : Int) (a1 : Int) (a2 : Int) : Option (Bool × Int × Int × Int) := (failover_time.f a1).bind fun t539 => (if t539 = true then (if a2 < 0 then (failover_Hear.j0 k a1 a2 true a0_0 a0_1 a0_2 a0_3) else ((failover_is.f k a0_0 a0_1 a0_2 a0_3 (([1,2] : List Int))).bind fun t543 => (failover_Hear.j0 k a1 a2 (!t543) a0_0 a0_1 a0_2 a0_3))) else (failover_Hear.j0 k a1 a2 true a0_0 a0_1 a0_2 a0_3))
theorem failover_Hear.mono_l : ∀ k,(∀ y0 y1 y2 y3 y4 y5 y6,LeO (failover_Hear.j0 k y0 y1 y2 y3 y4 y5 y6) (failover_Hear.j0 (k + 1) y0 y1 y2 y3 y4 y5 y6))
 | 0 => fun _ _ _ _ _ _ _ r h => by simp [failover_Hear.j0] at h
 | k + 1 => by
  have ih0 := failover_Hear.mono_l k
  ·intro y0 y1 y2 y3 y4 y5 y6
   unfold failover_Hear.j0
   repeat' first
   | (with_reducible exact ih0 _ _ _ _ _ _ _)
   | (with_reducible exact failover_is.mono _ _ _ _ _ _)
   | (with_reducible exact LeO.refl _)
   | (with_reducible exact LeO.none _)
   | (with_reducible refine LeO.ite ?_ ?_)
   | (with_reducible refine LeO.bind ?_ (fun _ => ?_))
theorem failover_Hear.mono : ∀ a0 a1 a2 a3 a4 a5 k,LeO (failover_Hear.f k a0 a1 a2 a3 a4 a5) (failover_Hear.f (k + 1) a0 a1 a2 a3 a4 a5) := by
 intro a0 a1 a2 a3 a4 a5 k
 have ih0 := failover_Hear.mono_l k
 unfold failover_Hear.f
 repeat' first
   | (with_reducible exact ih0 _ _ _ _ _ _ _)
   | (with_reducible exact failover_is.mono _ _ _ _ _ _)
   | (with_reducible exact LeO.refl _)
   | (with_reducible exact LeO.none _)
   | (with_reducible refine LeO.ite ?_ ?_)
   | (with_reducible refine LeO.bind ?_ (fun _ => ?_))
def ddiref44_time.f (a0 : Int) : Option (Bool) := if a0 ≥ 0 then (some (decide (a0 ≤ 4294967295))) else (some false)
def ddiref44_after.f (a0 : Int) (a1 : Int) : Option (Int) := if a1 > (wrap64 (4294967295 - a0)) then (some 4294967295) else (some (wrap64 (a0 + a1)))
def ddiref44_normal.f (a0_0 : Bool) (a0_1 : Int) (a0_2 : Int) (a0_3 : Int) (a1 : Int) (a2 : Int) : Option (Bool × Int × Int × Int) := (ddiref44_after.f a1 a2).bind fun t550 => (some (a0_0,1,t550,a0_3))
def ddiref44_Hear.j0 : Nat → Int → Int → Bool → Bool → Int → Int → Int → Option (Bool × Int × Int × Int)
 | 0,_,_,_,_,_,_,_ => none
 | k + 1,x1,x2,x23,x552000,x552001,x552002,x552003 => if x23 = true then (some (x552000,x552001,x552002,x552003)) else ((ddiref44_normal.f x552000 x552001 x552002 x552003 x1 x2).bind fun bt554 => (some (bt554.1,bt554.2.1,bt554.2.2.1,bt554.2.2.2)))
def ddiref44_Hear.f (k : Nat) (a0_0 : Bool) (a0_1 : Int) (a0_2 : Int) (a0_3 : Int) (a1 : Int) (a2 : Int) : Option (Bool × Int × Int × Int) := (ddiref44_time.f a1).bind fun t553 => (if t553 = true then (if a2 < 0 then (ddiref44_Hear.j0 k a1 a2 true a0_0 a0_1 a0_2 a0_3) else (if a0_1 = 1 then (ddiref44_Hear.j0 k a1 a2 false a0_0 a0_1 a0_2 a0_3) else (ddiref44_Hear.j0 k a1 a2 (a0_1 != 2) a0_0 a0_1 a0_2 a0_3))) else (ddiref44_Hear.j0 k a1 a2 true a0_0 a0_1 a0_2 a0_3))
theorem ddiref44_Hear.mono_l : ∀ k,(∀ y0 y1 y2 y3 y4 y5 y6,LeO (ddiref44_Hear.j0 k y0 y1 y2 y3 y4 y5 y6) (ddiref44_Hear.j0 (k + 1) y0 y1 y2 y3 y4 y5 y6))
 | 0 => fun _ _ _ _ _ _ _ r h => by simp [ddiref44_Hear.j0] at h
 | k + 1 => by
  have ih0 := ddiref44_Hear.mono_l k
  ·intro y0 y1 y2 y3 y4 y5 y6
   unfold ddiref44_Hear.j0
   repeat' first
   | (with_reducible exact ih0 _ _ _ _ _ _ _)
   | (with_reducible exact LeO.refl _)
   | (with_reducible exact LeO.none _)
   | (with_reducible refine LeO.ite ?_ ?_)
   | (with_reducible refine LeO.bind ?_ (fun _ => ?_))
theorem ddiref44_Hear.mono : ∀ a0 a1 a2 a3 a4 a5 k,LeO (ddiref44_Hear.f k a0 a1 a2 a3 a4 a5) (ddiref44_Hear.f (k + 1) a0 a1 a2 a3 a4 a5) := by
 intro a0 a1 a2 a3 a4 a5 k
 have ih0 := ddiref44_Hear.mono_l k
 unfold ddiref44_Hear.f
 repeat' first
   | (with_reducible exact ih0 _ _ _ _ _ _ _)
   | (with_reducible exact LeO.refl _)
   | (with_reducible exact LeO.none _)
   | (with_reducible refine LeO.ite ?_ ?_)
   | (with_reducible refine LeO.bind ?_ (fun _ => ?_))
def failover_Tick.j0 : Nat → Bool → Bool → Int → Int → Int → Option (Bool × Int × Int × Int)
 | 0,_,_,_,_,_ => none
 | k + 1,x5,x559000,x559001,x559002,x559003 => if x5 = true then (some (x559000,x559001,x559002,x559003)) else ((failover_is.f k x559000 x559001 x559002 x559003 (([1] : List Int))).bind fun t564 => (if t564 = true then (some (x559000,2,x559002,x559003)) else ((failover_is.f k x559000 x559001 x559002 x559003 (([4] : List Int))).bind fun t568 => (if t568 = true then (some (x559000,3,x559002,x559003)) else (some (x559000,x559001,x559002,x559003))))))
def failover_Tick.f (k : Nat) (a0_0 : Bool) (a0_1 : Int) (a0_2 : Int) (a0_3 : Int) (a1 : Int) : Option (Bool × Int × Int × Int) := (failover_time.f a1).bind fun t560 => (if t560 = true then (failover_Tick.j0 k (decide (a0_2 > a1)) a0_0 a0_1 a0_2 a0_3) else (failover_Tick.j0 k true a0_0 a0_1 a0_2 a0_3))
theorem failover_Tick.mono_l : ∀ k,(∀ y0 y1 y2 y3 y4,LeO (failover_Tick.j0 k y0 y1 y2 y3 y4) (failover_Tick.j0 (k + 1) y0 y1 y2 y3 y4))
 | 0 => fun _ _ _ _ _ r h => by simp [failover_Tick.j0] at h
 | k + 1 => by
  have ih0 := failover_Tick.mono_l k
  ·intro y0 y1 y2 y3 y4
   unfold failover_Tick.j0
   repeat' first
   | (with_reducible exact ih0 _ _ _ _ _)
   | (with_reducible exact failover_is.mono _ _ _ _ _ _)
   | (with_reducible exact LeO.refl _)
   | (with_reducible exact LeO.none _)
   | (with_reducible refine LeO.ite ?_ ?_)
   | (with_reducible refine LeO.bind ?_ (fun _ => ?_))
theorem failover_Tick.mono : ∀ a0 a1 a2 a3 a4 k,LeO (failover_Tick.f k a0 a1 a2 a3 a4) (failover_Tick.f (k + 1) a0 a1 a2 a3 a4) := by
 intro a0 a1 a2 a3 a4 k
 have ih0 := failover_Tick.mono_l k
 unfold failover_Tick.f
 repeat' first
   | (with_reducible exact ih0 _ _ _ _ _)
   | (with_reducible exact failover_is.mono _ _ _ _ _ _)
   | (with_reducible exact LeO.refl _)
   | (with_reducible exact LeO.none _)
   | (with_reducible refine LeO.ite ?_ ?_)
   | (with_reducible refine LeO.bind ?_ (fun _ => ?_))
def ddiref44_Tick.j0 : Nat → Bool → Bool → Int → Int → Int → Option (Bool × Int × Int × Int)
 | 0,_,_,_,_,_ => none
 | k + 1,x13,x570000,x570001,x570002,x570003 => if x13 = true then (some (x570000,x570001,x570002,x570003)) else (if x570001 = 1 then (some (x570000,2,x570002,x570003)) else (if x570001 = 4 then (some (x570000,3,x570002,x570003)) else (some (x570000,x570001,x570002,x570003))))
def ddiref44_Tick.f (k : Nat) (a0_0 : Bool) (a0_1 : Int) (a0_2 : Int) (a0_3 : Int) (a1 : Int) : Option (Bool × Int × Int × Int) := (ddiref44_time.f a1).bind fun t571 => (if t571 = true then (ddiref44_Tick.j0 k (decide (a0_2 > a1)) a0_0 a0_1 a0_2 a0_3) else (ddiref44_Tick.j0 k true a0_0 a0_1 a0_2 a0_3))
theorem ddiref44_Tick.mono_l : ∀ k,(∀ y0 y1 y2 y3 y4,LeO (ddiref44_Tick.j0 k y0 y1 y2 y3 y4) (ddiref44_Tick.j0 (k + 1) y0 y1 y2 y3 y4))
 | 0 => fun _ _ _ _ _ r h => by simp [ddiref44_Tick.j0] at h
 | k + 1 => by
  have ih0 := ddiref44_Tick.mono_l k
  ·intro y0 y1 y2 y3 y4
   unfold ddiref44_Tick.j0
   repeat' first
   | (with_reducible exact ih0 _ _ _ _ _)
   | (with_reducible exact LeO.refl _)
   | (with_reducible exact LeO.none _)
   | (with_reducible refine LeO.ite ?_ ?_)
   | (with_reducible refine LeO.bind ?_ (fun _ => ?_))
theorem ddiref44_Tick.mono : ∀ a0 a1 a2 a3 a4 k,LeO (ddiref44_Tick.f k a0 a1 a2 a3 a4) (ddiref44_Tick.f (k + 1) a0 a1 a2 a3 a4) := by
 intro a0 a1 a2 a3 a4 k
 have ih0 := ddiref44_Tick.mono_l k
 unfold ddiref44_Tick.f
 repeat' first
   | (with_reducible exact ih0 _ _ _ _ _)
   | (with_reducible exact LeO.refl _)
   | (with_reducible exact LeO.none _)
   | (with_reducible refine LeO.ite ?_ ?_)
   | (with_reducible refine LeO.bind ?_ (fun _ => ?_))
mutual
def failover_Down.j0 : Nat → Int → Bool → Bool → Int → Int → Int → Option (Bool × Int × Int × Int)
 | 0,_,_,_,_,_,_ => none
 | k + 1,x1,x13,x573000,x573001,x573002,x573003 => if x13 = true then (some (x573000,x573001,x573002,x573003)) else ((failover_is.f k x573000 x573001 x573002 x573003 (([2] : List Int))).bind fun t582 => (if t582 = true then (failover_Down.j1 k x1 x573000 3 x573002 x573003) else (failover_Down.j1 k x1 x573000 4 x573002 x573003)))
def failover_Down.j1 : Nat → Int → Bool → Int → Int → Int → Option (Bool × Int × Int × Int)
 | 0,_,_,_,_,_ => none
 | k + 1,x1,x573000,x573001,x573002,x573003 => (failover_later.f x1 x573003).bind fun t583 => (some (x573000,x573001,t583,x573003))
end
def failover_Down.f (k : Nat) (a0_0 : Bool) (a0_1 : Int) (a0_2 : Int) (a0_3 : Int) (a1 : Int) : Option (Bool × Int × Int × Int) := (failover_time.f a1).bind fun t574 => (if t574 = true then ((failover_is.f k a0_0 a0_1 a0_2 a0_3 (([2,0] : List Int))).bind fun t578 => (failover_Down.j0 k a1 (!t578) a0_0 a0_1 a0_2 a0_3)) else (failover_Down.j0 k a1 true a0_0 a0_1 a0_2 a0_3))
theorem failover_Down.mono_l : ∀ k,(∀ y0 y1 y2 y3 y4 y5,LeO (failover_Down.j0 k y0 y1 y2 y3 y4 y5) (failover_Down.j0 (k + 1) y0 y1 y2 y3 y4 y5)) ∧ (∀ y0 y1 y2 y3 y4,LeO (failover_Down.j1 k y0 y1 y2 y3 y4) (failover_Down.j1 (k + 1) y0 y1 y2 y3 y4))
 | 0 => ⟨fun _ _ _ _ _ _ r h => by simp [failover_Down.j0] at h,fun _ _ _ _ _ r h => by simp [failover_Down.j1] at h⟩
 | k + 1 => by
  obtain ⟨ih0,ih1⟩ := failover_Down.mono_l k
  refine ⟨?_,?_⟩
  ·intro y0 y1 y2 y3 y4 y5
   unfold failover_Down.j0
   repeat' first
   | (with_reducible exact ih0 _ _ _ _ _ _)
   | (with_reducible exact ih1 _ _ _ _ _)
   | (with_reducible exact failover_is.mono _ _ _ _ _ _)
   | (with_reducible exact LeO.refl _)
   | (with_reducible exact LeO.none _)
   | (with_reducible refine LeO.ite ?_ ?_)
   | (with_reducible refine LeO.bind ?_ (fun _ => ?_))
  ·intro y0 y1 y2 y3 y4
   unfold failover_Down.j1
   repeat' first
   | (with_reducible exact ih0 _ _ _ _ _ _)
   | (with_reducible exact ih1 _ _ _ _ _)
   | (with_reducible exact failover_is.mono _ _ _ _ _ _)
   | (with_reducible exact LeO.refl _)
   | (with_reducible exact LeO.none _)
   | (with_reducible refine LeO.ite ?_ ?_)
   | (with_reducible refine LeO.bind ?_ (fun _ => ?_))
theorem failover_Down.mono : ∀ a0 a1 a2 a3 a4 k,LeO (failover_Down.f k a0 a1 a2 a3 a4) (failover_Down.f (k + 1) a0 a1 a2 a3 a4) := by
 intro a0 a1 a2 a3 a4 k
 obtain ⟨ih0,ih1⟩ := failover_Down.mono_l k
 unfold failover_Down.f
 repeat' first
   | (with_reducible exact ih0 _ _ _ _ _ _)
   | (with_reducible exact ih1 _ _ _ _ _)
   | (with_reducible exact failover_is.mono _ _ _ _ _ _)
   | (with_reducible exact LeO.refl _)
   | (with_reducible exact LeO.none _)
   | (with_reducible refine LeO.ite ?_ ?_)
   | (with_reducible refine LeO.bind ?_ (fun _ => ?_))
def ddiref44_Down.f (k : Nat) (a0_0 : Bool) (a0_1 : Int) (a0_2 : Int) (a0_3 : Int) (a1 : Int) : Option (Bool × Int × Int × Int) := (ddiref44_time.f a1).bind fun t586 => (if t586 = true then ((ddiref44_state.f k a0_0 a0_1 a0_2 a0_3).bind fun t587 => (if t587 = 2 then ((ddiref44_after.f a1 a0_3).bind fun t588 => (some (a0_0,3,t588,a0_3))) else (if t587 = 0 then ((ddiref44_after.f a1 a0_3).bind fun t589 => (some (a0_0,4,t589,a0_3))) else (some (a0_0,a0_1,a0_2,a0_3))))) else (some (a0_0,a0_1,a0_2,a0_3)))
theorem ddiref44_Down.mono : ∀ a0 a1 a2 a3 a4 k,LeO (ddiref44_Down.f k a0 a1 a2 a3 a4) (ddiref44_Down.f (k + 1) a0 a1 a2 a3 a4) := by
 intro a0 a1 a2 a3 a4 k
 unfold ddiref44_Down.f
 repeat' first
   | (with_reducible exact ddiref44_state.mono _ _ _ _ _)
   | (with_reducible exact LeO.refl _)
   | (with_reducible exact LeO.none _)
   | (with_reducible refine LeO.ite ?_ ?_)
   | (with_reducible refine LeO.bind ?_ (fun _ => ?_))
def ddiref44_Exchanged.j0 : Nat → Int → Int → Bool → Bool → Int → Int → Int → Option (Bool × Int × Int × Int)
 | 0,_,_,_,_,_,_,_ => none
 | k + 1,x1,x2,x13,x591000,x591001,x591002,x591003 => if x13 = true then (some (x591000,x591001,x591002,x591003)) else ((ddiref44_normal.f x591000 x591001 x591002 x591003 x1 x2).bind fun bt593 => (some (bt593.1,bt593.2.1,bt593.2.2.1,bt593.2.2.2)))
def ddiref44_Exchanged.f (k : Nat) (a0_0 : Bool) (a0_1 : Int) (a0_2 : Int) (a0_3 : Int) (a1 : Int) (a2 : Int) : Option (Bool × Int × Int × Int) := (ddiref44_time.f a1).bind fun t592 => (if t592 = true then (ddiref44_Exchanged.j0 k a1 a2 (decide (a2 < 0)) a0_0 a0_1 a0_2 a0_3) else (ddiref44_Exchanged.j0 k a1 a2 true a0_0 a0_1 a0_2 a0_3))
theorem ddiref44_Exchanged.mono_l : ∀ k,(∀ y0 y1 y2 y3 y4 y5 y6,LeO (ddiref44_Exchanged.j0 k y0 y1 y2 y3 y4 y5 y6) (ddiref44_Exchanged.j0 (k + 1) y0 y1 y2 y3 y4 y5 y6))
 | 0 => fun _ _ _ _ _ _ _ r h => by simp [ddiref44_Exchanged.j0] at h
 | k + 1 => by
  have ih0 := ddiref44_Exchanged.mono_l k
  ·intro y0 y1 y2 y3 y4 y5 y6
   unfold ddiref44_Exchanged.j0
   repeat' first
   | (with_reducible exact ih0 _ _ _ _ _ _ _)
   | (with_reducible exact LeO.refl _)
   | (with_reducible exact LeO.none _)
   | (with_reducible refine LeO.ite ?_ ?_)
   | (with_reducible refine LeO.bind ?_ (fun _ => ?_))
theorem ddiref44_Exchanged.mono : ∀ a0 a1 a2 a3 a4 a5 k,LeO (ddiref44_Exchanged.f k a0 a1 a2 a3 a4 a5) (ddiref44_Exchanged.f (k + 1) a0 a1 a2 a3 a4 a5) := by
 intro a0 a1 a2 a3 a4 a5 k
 have ih0 := ddiref44_Exchanged.mono_l k
 unfold ddiref44_Exchanged.f
 repeat' first
   | (with_reducible exact ih0 _ _ _ _ _ _ _)
   | (with_reducible exact LeO.refl _)
   | (with_reducible exact LeO.none _)
   | (with_reducible refine LeO.ite ?_ ?_)
   | (with_reducible refine LeO.bind ?_ (fun _ => ?_))
def failover_Yield.j0 : Nat → Int → Int → Bool → Bool → Int → Int → Int → Option (Bool × Int × Int × Int)
 | 0,_,_,_,_,_,_,_ => none
 | k + 1,x1,x2,x7,x598000,x598001,x598002,x598003 => if x7 = true then (some (x598000,x598001,x598002,x598003)) else ((failover_is.f k x598000 x598001 x598002 x598003 (([4] : List Int))).bind fun t607 => (if t607 = true then (some (x598000,0,0,x598003)) else ((failover_normal.f x598000 x598001 x598002 x598003 x1 x2).bind fun bt608 => (some (bt608.1,bt608.2.1,bt608.2.2.1,bt608.2.2.2)))))
def failover_Yield.f (k : Nat) (a0_0 : Bool) (a0_1 : Int) (a0_2 : Int) (a0_3 : Int) (a1 : Int) (a2 : Int) : Option (Bool × Int × Int × Int) := (failover_time.f a1).bind fun t599 => (if t599 = true then (if a2 < 0 then (failover_Yield.j0 k a1 a2 true a0_0 a0_1 a0_2 a0_3) else ((failover_is.f k a0_0 a0_1 a0_2 a0_3 (([0] : List Int))).bind fun t603 => (failover_Yield.j0 k a1 a2 t603 a0_0 a0_1 a0_2 a0_3))) else (failover_Yield.j0 k a1 a2 true a0_0 a0_1 a0_2 a0_3))
theorem failover_Yield.mono_l : ∀ k,(∀ y0 y1 y2 y3 y4 y5 y6,LeO (failover_Yield.j0 k y0 y1 y2 y3 y4 y5 y6) (failover_Yield.j0 (k + 1) y0 y1 y2 y3 y4 y5 y6))
 | 0 => fun _ _ _ _ _ _ _ r h => by simp [failover_Yield.j0] at h
 | k + 1 => by
  have ih0 := failover_Yield.mono_l k
  ·intro y0 y1 y2 y3 y4 y5 y6
   unfold failover_Yield.j0
   repeat' first
   | (with_reducible exact ih0 _ _ _ _ _ _ _)
   | (with_reducible exact failover_is.mono _ _ _ _ _ _)
   | (with_reducible exact LeO.refl _)
   | (with_reducible exact LeO.none _)
   | (with_reducible refine LeO.ite ?_ ?_)
   | (with_reducible refine LeO.bind ?_ (fun _ => ?_))
theorem failover_Yield.mono : ∀ a0 a1 a2 a3 a4 a5 k,LeO (failover_Yield.f k a0 a1 a2 a3 a4 a5) (failover_Yield.f (k + 1) a0 a1 a2 a3 a4 a5) := by
 intro a0 a1 a2 a3 a4 a5 k
 have ih0 := failover_Yield.mono_l k
 unfold failover_Yield.f
 repeat' first
   | (with_reducible exact ih0 _ _ _ _ _ _ _)
   | (with_reducible exact failover_is.mono _ _ _ _ _ _)
   | (with_reducible exact LeO.refl _)
   | (with_reducible exact LeO.none _)
   | (with_reducible refine LeO.ite ?_ ?_)
   | (with_reducible refine LeO.bind ?_ (fun _ => ?_))
def ddiref44_Yield.j0 : Nat → Int → Int → Int → Bool → Bool → Int → Int → Int → Option (Bool × Int × Int × Int)
 | 0,_,_,_,_,_,_,_,_ => none
 | k + 1,x1,x2,x7,x20,x613000,x613001,x613002,x613003 => if x20 = true then (some (x613000,x613001,x613002,x613003)) else (if x7 = 4 then (some (x613000,0,0,x613003)) else ((ddiref44_normal.f x613000 x613001 x613002 x613003 x1 x2).bind fun bt616 => (some (bt616.1,bt616.2.1,bt616.2.2.1,bt616.2.2.2))))
def ddiref44_Yield.f (k : Nat) (a0_0 : Bool) (a0_1 : Int) (a0_2 : Int) (a0_3 : Int) (a1 : Int) (a2 : Int) : Option (Bool × Int × Int × Int) := (ddiref44_state.f k a0_0 a0_1 a0_2 a0_3).bind fun t614 => ((ddiref44_time.f a1).bind fun t615 => (if t615 = true then (if a2 < 0 then (ddiref44_Yield.j0 k a1 a2 t614 true a0_0 a0_1 a0_2 a0_3) else (ddiref44_Yield.j0 k a1 a2 t614 (t614 == 0) a0_0 a0_1 a0_2 a0_3)) else (ddiref44_Yield.j0 k a1 a2 t614 true a0_0 a0_1 a0_2 a0_3)))
theorem ddiref44_Yield.mono_l : ∀ k,(∀ y0 y1 y2 y3 y4 y5 y6 y7,LeO (ddiref44_Yield.j0 k y0 y1 y2 y3 y4 y5 y6 y7) (ddiref44_Yield.j0 (k + 1) y0 y1 y2 y3 y4 y5 y6 y7))
 | 0 => fun _ _ _ _ _ _ _ _ r h => by simp [ddiref44_Yield.j0] at h
 | k + 1 => by
  have ih0 := ddiref44_Yield.mono_l k
  ·intro y0 y1 y2 y3 y4 y5 y6 y7
   unfold ddiref44_Yield.j0
   repeat' first
   | (with_reducible exact ih0 _ _ _ _ _ _ _ _)
   | (with_reducible exact ddiref44_state.mono _ _ _ _ _)
   | (with_reducible exact LeO.refl _)
   | (with_reducible exact LeO.none _)
   | (with_reducible refine LeO.ite ?_ ?_)
   | (with_reducible refine LeO.bind ?_ (fun _ => ?_))
theorem ddiref44_Yield.mono : ∀ a0 a1 a2 a3 a4 a5 k,LeO (ddiref44_Yield.f k a0 a1 a2 a3 a4 a5) (ddiref44_Yield.f (k + 1) a0 a1 a2 a3 a4 a5) := by
 intro a0 a1 a2 a3 a4 a5 k
 have ih0 := ddiref44_Yield.mono_l k
 unfold ddiref44_Yield.f
 repeat' first
   | (with_reducible exact ih0 _ _ _ _ _ _ _ _)
   | (with_reducible exact ddiref44_state.mono _ _ _ _ _)
   | (with_reducible exact LeO.refl _)
   | (with_reducible exact LeO.none _)
   | (with_reducible refine LeO.ite ?_ ?_)
   | (with_reducible refine LeO.bind ?_ (fun _ => ?_))
mutual
def ddilaw44_FailoverPlays.j0 : Nat → List (S49) → Bool → Bool → Int → Int → Int → Option (Bool)
 | 0,_,_,_,_,_,_ => none
 | k + 1,x1,x37,x621000,x621001,x621002,x621003 => if x37 = true then (some false) else (if (x1.length : Int) > 40 then (some true) else (ddilaw44_FailoverPlays.l0 k x1 0 x621000 x621001 x621002 x621003 x621000 x621001 x621002 x621003))
def ddilaw44_FailoverPlays.l0 : Nat → List (S49) → Int → Bool → Int → Int → Int → Bool → Int → Int → Int → Option (Bool)
 | 0,_,_,_,_,_,_,_,_,_,_ => none
 | k + 1,x1,x10,x621000,x621001,x621002,x621003,x635000,x635001,x635002,x635003 => if x10 < (x1.length : Int) then (if 0 ≤ x10 then (if (Int.tmod ((rd_T49 x1 x10).f0) 5) = 0 then ((failover_Hear.f k x621000 x621001 x621002 x621003 ((rd_T49 x1 x10).f1) ((rd_T49 x1 x10).f2)).bind fun bt637 => ((ddiref44_Hear.f k x635000 x635001 x635002 x635003 ((rd_T49 x1 x10).f1) ((rd_T49 x1 x10).f2)).bind fun bt641 => (ddilaw44_FailoverPlays.j2 k x1 x10 bt637.1 bt637.2.1 bt637.2.2.1 bt637.2.2.2 bt641.1 bt641.2.1 bt641.2.2.1 bt641.2.2.2))) else (if (Int.tmod ((rd_T49 x1 x10).f0) 5) = 1 then ((failover_Tick.f k x621000 x621001 x621002 x621003 ((rd_T49 x1 x10).f1)).bind fun bt645 => ((ddiref44_Tick.f k x635000 x635001 x635002 x635003 ((rd_T49 x1 x10).f1)).bind fun bt649 => (ddilaw44_FailoverPlays.j2 k x1 x10 bt645.1 bt645.2.1 bt645.2.2.1 bt645.2.2.2 bt649.1 bt649.2.1 bt649.2.2.1 bt649.2.2.2))) else (if (Int.tmod ((rd_T49 x1 x10).f0) 5) = 2 then ((failover_Down.f k x621000 x621001 x621002 x621003 ((rd_T49 x1 x10).f1)).bind fun bt653 => ((ddiref44_Down.f k x635000 x635001 x635002 x635003 ((rd_T49 x1 x10).f1)).bind fun bt657 => (ddilaw44_FailoverPlays.j2 k x1 x10 bt653.1 bt653.2.1 bt653.2.2.1 bt653.2.2.2 bt657.1 bt657.2.1 bt657.2.2.1 bt657.2.2.2))) else (if (Int.tmod ((rd_T49 x1 x10).f0) 5) = 3 then ((failover_Exchanged.f k x621000 x621001 x621002 x621003 ((rd_T49 x1 x10).f1) ((rd_T49 x1 x10).f2)).bind fun bt661 => ((ddiref44_Exchanged.f k x635000 x635001 x635002 x635003 ((rd_T49 x1 x10).f1) ((rd_T49 x1 x10).f2)).bind fun bt665 => (ddilaw44_FailoverPlays.j2 k x1 x10 bt661.1 bt661.2.1 bt661.2.2.1 bt661.2.2.2 bt665.1 bt665.2.1 bt665.2.2.1 bt665.2.2.2))) else (if (Int.tmod ((rd_T49 x1 x10).f0) 5) = 4 then ((failover_Yield.f k x621000 x621001 x621002 x621003 ((rd_T49 x1 x10).f1) ((rd_T49 x1 x10).f2)).bind fun bt669 => ((ddiref44_Yield.f k x635000 x635001 x635002 x635003 ((rd_T49 x1 x10).f1) ((rd_T49 x1 x10).f2)).bind fun bt673 => (ddilaw44_FailoverPlays.j2 k x1 x10 bt669.1 bt669.2.1 bt669.2.2.1 bt669.2.2.2 bt673.1 bt673.2.1 bt673.2.2.1 bt673.2.2.2))) else (ddilaw44_FailoverPlays.j2 k x1 x10 x621000 x621001 x621002 x621003 x635000 x635001 x635002 x635003)))))) else (none)) else (some true)
def ddilaw44_FailoverPlays.j2 : Nat → List (S49) → Int → Bool → Int → Int → Int → Bool → Int → Int → Int → Option (Bool)
 | 0,_,_,_,_,_,_,_,_,_,_ => none
 | k + 1,x1,x10,x621000,x621001,x621002,x621003,x635000,x635001,x635002,x635003 => if (!(x621000 == x635000) || (!(x621001 == x635001) || (!(x621002 == x635002) || (!(x621003 == x635003))))) = true then (some false) else (ddilaw44_FailoverPlays.l0 k x1 (wrap64 (x10 + 1)) x621000 x621001 x621002 x621003 x635000 x635001 x635002 x635003)
end
def ddilaw44_FailoverPlays.f (k : Nat) (a0_0 : Bool) (a0_1 : Int) (a0_2 : Int) (a0_3 : Int) (l1 : List (S49)) : Option (Bool) := (ddilaw44_awake.f k).bind fun t621 => (if t621 = true then ((failover_New.f k a0_0 a0_3).bind fun bt622 => ((ddiref44_New.f k a0_0 a0_3).bind fun bt628 => (if (!(bt622.1 == bt628.1) || (!(bt622.2.1 == bt628.2.1) || (!(bt622.2.2.1 == bt628.2.2.1) || (!(bt622.2.2.2.1 == bt628.2.2.2.1))))) = true then (ddilaw44_FailoverPlays.j0 k l1 true a0_0 a0_1 a0_2 a0_3) else (ddilaw44_FailoverPlays.j0 k l1 (bt622.2.2.2.2 != bt628.2.2.2.2) a0_0 a0_1 a0_2 a0_3)))) else (some false))
theorem ddilaw44_FailoverPlays.mono_l : ∀ k,(∀ y0 y1 y2 y3 y4 y5,LeO (ddilaw44_FailoverPlays.j0 k y0 y1 y2 y3 y4 y5) (ddilaw44_FailoverPlays.j0 (k + 1) y0 y1 y2 y3 y4 y5)) ∧ (∀ y0 y1 y2 y3 y4 y5 y6 y7 y8 y9,LeO (ddilaw44_FailoverPlays.l0 k y0 y1 y2 y3 y4 y5 y6 y7 y8 y9) (ddilaw44_FailoverPlays.l0 (k + 1) y0 y1 y2 y3 y4 y5 y6 y7 y8 y9)) ∧ (∀ y0 y1 y2 y3 y4 y5 y6 y7 y8 y9,LeO (ddilaw44_FailoverPlays.j2 k y0 y1 y2 y3 y4 y5 y6 y7 y8 y9) (ddilaw44_FailoverPlays.j2 (k + 1) y0 y1 y2 y3 y4 y5 y6 y7 y8 y9))
 | 0 => ⟨fun _ _ _ _ _ _ r h => by simp [ddilaw44_FailoverPlays.j0] at h,fun _ _ _ _ _ _ _ _ _ _ r h => by simp [ddilaw44_FailoverPlays.l0] at h,fun _ _ _ _ _ _ _ _ _ _ r h => by simp [ddilaw44_FailoverPlays.j2] at h⟩
 | k + 1 => by
  obtain ⟨ih0,ih1,ih2⟩ := ddilaw44_FailoverPlays.mono_l k
  refine ⟨?_,?_,?_⟩
  ·intro y0 y1 y2 y3 y4 y5
   unfold ddilaw44_FailoverPlays.j0
   repeat' first
   | (with_reducible exact ih0 _ _ _ _ _ _)
   | (with_reducible exact ih1 _ _ _ _ _ _ _ _ _ _)
   | (with_reducible exact ih2 _ _ _ _ _ _ _ _ _ _)
   | (with_reducible exact ddilaw44_awake.mono _)
   | (with_reducible exact ddiref44_Down.mono _ _ _ _ _ _)
   | (with_reducible exact ddiref44_Exchanged.mono _ _ _ _ _ _ _)
   | (with_reducible exact ddiref44_Hear.mono _ _ _ _ _ _ _)
   | (with_reducible exact ddiref44_New.mono _ _ _)
   | (with_reducible exact ddiref44_Tick.mono _ _ _ _ _ _)
   | (with_reducible exact ddiref44_Yield.mono _ _ _ _ _ _ _)
   | (with_reducible exact failover_Down.mono _ _ _ _ _ _)
   | (with_reducible exact failover_Exchanged.mono _ _ _ _ _ _ _)
   | (with_reducible exact failover_Hear.mono _ _ _ _ _ _ _)
   | (with_reducible exact failover_New.mono _ _ _)
   | (with_reducible exact failover_Tick.mono _ _ _ _ _ _)
   | (with_reducible exact failover_Yield.mono _ _ _ _ _ _ _)
   | (with_reducible exact LeO.refl _)
   | (with_reducible exact LeO.none _)
   | (with_reducible refine LeO.ite ?_ ?_)
   | (with_reducible refine LeO.bind ?_ (fun _ => ?_))
  ·intro y0 y1 y2 y3 y4 y5 y6 y7 y8 y9
   unfold ddilaw44_FailoverPlays.l0
   repeat' first
   | (with_reducible exact ih0 _ _ _ _ _ _)
   | (with_reducible exact ih1 _ _ _ _ _ _ _ _ _ _)
   | (with_reducible exact ih2 _ _ _ _ _ _ _ _ _ _)
   | (with_reducible exact ddilaw44_awake.mono _)
   | (with_reducible exact ddiref44_Down.mono _ _ _ _ _ _)
   | (with_reducible exact ddiref44_Exchanged.mono _ _ _ _ _ _ _)
   | (with_reducible exact ddiref44_Hear.mono _ _ _ _ _ _ _)
   | (with_reducible exact ddiref44_New.mono _ _ _)
   | (with_reducible exact ddiref44_Tick.mono _ _ _ _ _ _)
   | (with_reducible exact ddiref44_Yield.mono _ _ _ _ _ _ _)
   | (with_reducible exact failover_Down.mono _ _ _ _ _ _)
   | (with_reducible exact failover_Exchanged.mono _ _ _ _ _ _ _)
   | (with_reducible exact failover_Hear.mono _ _ _ _ _ _ _)
   | (with_reducible exact failover_New.mono _ _ _)
   | (with_reducible exact failover_Tick.mono _ _ _ _ _ _)
   | (with_reducible exact failover_Yield.mono _ _ _ _ _ _ _)
   | (with_reducible exact LeO.refl _)
   | (with_reducible exact LeO.none _)
   | (with_reducible refine LeO.ite ?_ ?_)
   | (with_reducible refine LeO.bind ?_ (fun _ => ?_))
  ·intro y0 y1 y2 y3 y4 y5 y6 y7 y8 y9
   unfold ddilaw44_FailoverPlays.j2
   repeat' first
   | (with_reducible exact ih0 _ _ _ _ _ _)
   | (with_reducible exact ih1 _ _ _ _ _ _ _ _ _ _)
   | (with_reducible exact ih2 _ _ _ _ _ _ _ _ _ _)
   | (with_reducible exact ddilaw44_awake.mono _)
   | (with_reducible exact ddiref44_Down.mono _ _ _ _ _ _)
   | (with_reducible exact ddiref44_Exchanged.mono _ _ _ _ _ _ _)
   | (with_reducible exact ddiref44_Hear.mono _ _ _ _ _ _ _)
   | (with_reducible exact ddiref44_New.mono _ _ _)
   | (with_reducible exact ddiref44_Tick.mono _ _ _ _ _ _)
   | (with_reducible exact ddiref44_Yield.mono _ _ _ _ _ _ _)
   | (with_reducible exact failover_Down.mono _ _ _ _ _ _)
   | (with_reducible exact failover_Exchanged.mono _ _ _ _ _ _ _)
   | (with_reducible exact failover_Hear.mono _ _ _ _ _ _ _)
   | (with_reducible exact failover_New.mono _ _ _)
   | (with_reducible exact failover_Tick.mono _ _ _ _ _ _)
   | (with_reducible exact failover_Yield.mono _ _ _ _ _ _ _)
   | (with_reducible exact LeO.refl _)
   | (with_reducible exact LeO.none _)
   | (with_reducible refine LeO.ite ?_ ?_)
   | (with_reducible refine LeO.bind ?_ (fun _ => ?_))
theorem ddilaw44_FailoverPlays.mono : ∀ a0 a1 a2 a3 a4 k,LeO (ddilaw44_FailoverPlays.f k a0 a1 a2 a3 a4) (ddilaw44_FailoverPlays.f (k + 1) a0 a1 a2 a3 a4) := by
 intro a0 a1 a2 a3 a4 k
 obtain ⟨ih0,ih1,ih2⟩ := ddilaw44_FailoverPlays.mono_l k
 unfold ddilaw44_FailoverPlays.f
 repeat' first
   | (with_reducible exact ih0 _ _ _ _ _ _)
   | (with_reducible exact ih1 _ _ _ _ _ _ _ _ _ _)
   | (with_reducible exact ih2 _ _ _ _ _ _ _ _ _ _)
   | (with_reducible exact ddilaw44_awake.mono _)
   | (with_reducible exact ddiref44_Down.mono _ _ _ _ _ _)
   | (with_reducible exact ddiref44_Exchanged.mono _ _ _ _ _ _ _)
   | (with_reducible exact ddiref44_Hear.mono _ _ _ _ _ _ _)
   | (with_reducible exact ddiref44_New.mono _ _ _)
   | (with_reducible exact ddiref44_Tick.mono _ _ _ _ _ _)
   | (with_reducible exact ddiref44_Yield.mono _ _ _ _ _ _ _)
   | (with_reducible exact failover_Down.mono _ _ _ _ _ _)
   | (with_reducible exact failover_Exchanged.mono _ _ _ _ _ _ _)
   | (with_reducible exact failover_Hear.mono _ _ _ _ _ _ _)
   | (with_reducible exact failover_New.mono _ _ _)
   | (with_reducible exact failover_Tick.mono _ _ _ _ _ _)
   | (with_reducible exact failover_Yield.mono _ _ _ _ _ _ _)
   | (with_reducible exact LeO.refl _)
   | (with_reducible exact LeO.none _)
   | (with_reducible refine LeO.ite ?_ ?_)
   | (with_reducible refine LeO.bind ?_ (fun _ => ?_))
/-- THE ONE PURE STATEMENT of ddilaw44_FailoverPlays: ours. -/
def ddilaw44_FailoverPlays.Pure : Prop := ∀ (a0_0 : Bool) (a0_1 : Int) (a0_2 : Int) (a0_3 : Int) (l1 : List (S49)),okS23 (⟨a0_0,a0_1,a0_2,a0_3⟩ : S23) → (l1.length * 24 ≤ 140737488351232 ∧ l1.length ≤ maxLen ∧ ∀ y0_ ∈ l1,okS49 y0_) → ∃ k,ddilaw44_FailoverPlays.f k a0_0 a0_1 a0_2 a0_3 l1 = some true
end Go.Proofs.Ytpcjablkjaiapaa.QA
