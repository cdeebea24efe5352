-- Written by this session's own program (wip/xprint) out of the translation; Lean checks it.
import Derived.Test.YtgkpinecggoilaaQAd2
namespace Go.Proofs.Ytgkpinecggoilaa.QA
open Go.RowKit Go.Proofs.YtgkpinecggoilaaW.PrintWords Go.Proofs.YtgkpinecggoilaaW.PrintLast Go.Proofs.YtgkpinecggoilaaW.PrintMore
set_option linter.unusedVariables false

def ddiref32_Timeout.l0 : Nat → Int → Int → Bool → Int → Int → Int → Int → Int → Option (Int)
  | 0, _, _, _, _, _, _, _, _ => none
  | k + 1, x3, x4, x456000, x456001, x456002, x456003, x456004, x456005 => (ddiref32_cut.f x456004 0 6).bind fun t457 => (if x4 < t457 then (ddiref32_Timeout.l0 k (wrap64 (2 * x3)) (wrap64 (x4 + 1)) x456000 x456001 x456002 x456003 x456004 x456005) else (some (mn x3 60)))
def ddiref32_Timeout.f (k : Nat) (a0_0 : Bool) (a0_1 : Int) (a0_2 : Int) (a0_3 : Int) (a0_4 : Int) (a0_5 : Int) : Option (Int) := (ddiref32_cut.f a0_3 1 30).bind fun t456 => (ddiref32_Timeout.l0 k (wrap64 (2 * t456)) 0 a0_0 a0_1 a0_2 a0_3 a0_4 a0_5)
theorem ddiref32_Timeout.mono_l : ∀ k, (∀ y0 y1 y2 y3 y4 y5 y6 y7, LeO (ddiref32_Timeout.l0 k y0 y1 y2 y3 y4 y5 y6 y7) (ddiref32_Timeout.l0 (k + 1) y0 y1 y2 y3 y4 y5 y6 y7))
  | 0 => fun _ _ _ _ _ _ _ _ r h => by simp [ddiref32_Timeout.l0] at h
  | k + 1 => by
    have ih0 := ddiref32_Timeout.mono_l k
    · intro y0 y1 y2 y3 y4 y5 y6 y7
      unfold ddiref32_Timeout.l0
      repeat' first
      | (with_reducible exact ih0 _ _ _ _ _ _ _ _)
      | (with_reducible exact LeO.refl _)
      | (with_reducible exact LeO.none _)
      | (with_reducible refine LeO.ite ?_ ?_)
      | (with_reducible refine LeO.bind ?_ (fun _ => ?_))
      | exact ih0 _ _ _ _ _ _ _ _
      | exact LeO.none _
      | refine LeO.ite ?_ ?_
      | refine LeO.bind ?_ (fun _ => ?_)
theorem ddiref32_Timeout.mono : ∀ a0 a1 a2 a3 a4 a5 k, LeO (ddiref32_Timeout.f k a0 a1 a2 a3 a4 a5) (ddiref32_Timeout.f (k + 1) a0 a1 a2 a3 a4 a5) := by
  intro a0 a1 a2 a3 a4 a5 k
  have ih0 := ddiref32_Timeout.mono_l k
  unfold ddiref32_Timeout.f
  repeat' first
      | (with_reducible exact ih0 _ _ _ _ _ _ _ _)
      | (with_reducible exact LeO.refl _)
      | (with_reducible exact LeO.none _)
      | (with_reducible refine LeO.ite ?_ ?_)
      | (with_reducible refine LeO.bind ?_ (fun _ => ?_))
      | exact ih0 _ _ _ _ _ _ _ _
      | exact LeO.none _
      | refine LeO.ite ?_ ?_
      | refine LeO.bind ?_ (fun _ => ?_)
def ddilaw32_UpstreamWaits.f (k : Nat) (a0_0 : Bool) (a0_1 : Int) (a0_2 : Int) (a0_3 : Int) (a0_4 : Int) (a0_5 : Int) : Option (Bool) := (upstream_Timeout.f a0_0 a0_1 a0_2 a0_3 a0_4 a0_5).bind fun t459 => ((ddiref32_Timeout.f k a0_0 a0_1 a0_2 a0_3 a0_4 a0_5).bind fun t460 => (if t459 = t460 then (if t459 ≥ 2 then (if t459 ≤ 60 then ((ddilaw32_awake.f k).bind fun t461 => (some t461)) else (some false)) else (some false)) else (some false)))
theorem ddilaw32_UpstreamWaits.mono : ∀ a0 a1 a2 a3 a4 a5 k, LeO (ddilaw32_UpstreamWaits.f k a0 a1 a2 a3 a4 a5) (ddilaw32_UpstreamWaits.f (k + 1) a0 a1 a2 a3 a4 a5) := by
  intro a0 a1 a2 a3 a4 a5 k
  unfold ddilaw32_UpstreamWaits.f
  repeat' first
      | (with_reducible exact ddilaw32_awake.mono _)
      | (with_reducible exact ddiref32_Timeout.mono _ _ _ _ _ _ _)
      | (with_reducible exact LeO.refl _)
      | (with_reducible exact LeO.none _)
      | (with_reducible refine LeO.ite ?_ ?_)
      | (with_reducible refine LeO.bind ?_ (fun _ => ?_))
      | exact ddilaw32_awake.mono _
      | exact ddiref32_Timeout.mono _ _ _ _ _ _ _
      | exact LeO.none _
      | refine LeO.ite ?_ ?_
      | refine LeO.bind ?_ (fun _ => ?_)
/-- THE ONE PURE STATEMENT of ddilaw32_UpstreamWaits: ours. -/
def ddilaw32_UpstreamWaits.Pure : Prop := ∀ (a0_0 : Bool) (a0_1 : Int) (a0_2 : Int) (a0_3 : Int) (a0_4 : Int) (a0_5 : Int), okS34 (⟨(⟨a0_0, a0_1, a0_2⟩ : S25), a0_3, a0_4, a0_5⟩ : S34) → ∃ k, ddilaw32_UpstreamWaits.f k a0_0 a0_1 a0_2 a0_3 a0_4 a0_5 = some true
end Go.Proofs.Ytgkpinecggoilaa.QA
