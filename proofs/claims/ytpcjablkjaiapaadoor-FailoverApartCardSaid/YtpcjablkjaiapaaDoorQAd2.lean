import Derived.Test.YtpcjablkjaiapaaDoorQAd1
namespace Go.Proofs.YtpcjablkjaiapaaDoor.QA
open Go.RowKit Go.Proofs.YtpcjablkjaiapaaDoorW.PrintWords Go.Proofs.YtpcjablkjaiapaaDoorW.PrintLast Go.Proofs.YtpcjablkjaiapaaDoorW.PrintMore
set_option linter.unusedVariables false
def failover_state.j0 : Nat → Bool → Bool → Int → Int → Int → Option (Int)
 | 0,_,_,_,_,_ => none
 | k + 1,x10,x257000,x257001,x257002,x257003 => if x10 = true then (some 0) else (some x257001)
def failover_state.f (k : Nat) (a0_0 : Bool) (a0_1 : Int) (a0_2 : Int) (a0_3 : Int) : Option (Int) := if a0_1 < 0 then (failover_state.j0 k true a0_0 a0_1 a0_2 a0_3) else (failover_state.j0 k (decide (a0_1 > 4)) a0_0 a0_1 a0_2 a0_3)
theorem failover_state.mono_l : ∀ k,(∀ y0 y1 y2 y3 y4,LeO (failover_state.j0 k y0 y1 y2 y3 y4) (failover_state.j0 (k + 1) y0 y1 y2 y3 y4))
 | 0 => fun _ _ _ _ _ r h => by simp [failover_state.j0] at h
 | k + 1 => by
  have ih0 := failover_state.mono_l k
  ·intro y0 y1 y2 y3 y4
   unfold failover_state.j0
   repeat' first
   | (with_reducible exact ih0 _ _ _ _ _)
   | (with_reducible exact LeO.refl _)
   | (with_reducible exact LeO.none _)
   | (with_reducible refine LeO.ite ?_ ?_)
   | (with_reducible refine LeO.bind ?_ (fun _ => ?_))
theorem failover_state.mono : ∀ a0 a1 a2 a3 k,LeO (failover_state.f k a0 a1 a2 a3) (failover_state.f (k + 1) a0 a1 a2 a3) := by
 intro a0 a1 a2 a3 k
 have ih0 := failover_state.mono_l k
 unfold failover_state.f
 repeat' first
   | (with_reducible exact ih0 _ _ _ _ _)
   | (with_reducible exact LeO.refl _)
   | (with_reducible exact LeO.none _)
   | (with_reducible refine LeO.ite ?_ ?_)
   | (with_reducible refine LeO.bind ?_ (fun _ => ?_))
end Go.Proofs.YtpcjablkjaiapaaDoor.QA
