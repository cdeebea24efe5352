-- Written by this session's own program (wip/xprint) out of the translation; Lean checks it.
import Derived.Test.YtgkpinecggoilaaQAd1
namespace Go.Proofs.Ytgkpinecggoilaa.QA
open Go.RowKit Go.Proofs.YtgkpinecggoilaaW.PrintWords Go.Proofs.YtgkpinecggoilaaW.PrintLast Go.Proofs.YtgkpinecggoilaaW.PrintMore
set_option linter.unusedVariables false

def ddiref32_in.l0 : Nat → List (S25) → Int → Bool → Int → Int → Option (Bool)
  | 0, _, _, _, _, _ => none
  | k + 1, x0, x5, x403000, x403001, x403002 => if x5 < (x0.length : Int) then (if 0 ≤ x5 then (if (((rd_T25 x0 x5).f0) == x403000 && (((rd_T25 x0 x5).f1) == x403001 && (((rd_T25 x0 x5).f2) == x403002))) = true then (some true) else (ddiref32_in.l0 k x0 (wrap64 (x5 + 1)) x403000 x403001 x403002)) else (none)) else (some false)
def ddiref32_in.f (k : Nat) (l0 : List (S25)) (a1_0 : Bool) (a1_1 : Int) (a1_2 : Int) : Option (Bool) := ddiref32_in.l0 k l0 0 a1_0 a1_1 a1_2
theorem ddiref32_in.mono_l : ∀ k, (∀ y0 y1 y2 y3 y4, LeO (ddiref32_in.l0 k y0 y1 y2 y3 y4) (ddiref32_in.l0 (k + 1) y0 y1 y2 y3 y4))
  | 0 => fun _ _ _ _ _ r h => by simp [ddiref32_in.l0] at h
  | k + 1 => by
    have ih0 := ddiref32_in.mono_l k
    · intro y0 y1 y2 y3 y4
      unfold ddiref32_in.l0
      repeat' first
      | (with_reducible exact ih0 _ _ _ _ _)
      | (with_reducible exact LeO.refl _)
      | (with_reducible exact LeO.none _)
      | (with_reducible refine LeO.ite ?_ ?_)
      | (with_reducible refine LeO.bind ?_ (fun _ => ?_))
      | exact ih0 _ _ _ _ _
      | exact LeO.none _
      | refine LeO.ite ?_ ?_
      | refine LeO.bind ?_ (fun _ => ?_)
theorem ddiref32_in.mono : ∀ a0 a1 a2 a3 k, LeO (ddiref32_in.f k a0 a1 a2 a3) (ddiref32_in.f (k + 1) a0 a1 a2 a3) := by
  intro a0 a1 a2 a3 k
  have ih0 := ddiref32_in.mono_l k
  unfold ddiref32_in.f
  repeat' first
      | (with_reducible exact ih0 _ _ _ _ _)
      | (with_reducible exact LeO.refl _)
      | (with_reducible exact LeO.none _)
      | (with_reducible refine LeO.ite ?_ ?_)
      | (with_reducible refine LeO.bind ?_ (fun _ => ?_))
      | exact ih0 _ _ _ _ _
      | exact LeO.none _
      | refine LeO.ite ?_ ?_
      | refine LeO.bind ?_ (fun _ => ?_)
mutual
def ddiref32_Pick.l0 : Nat → List (S34) → List (S25) → List (S25) → Int → List (S34) → Int → Option (Bool × Int × Int × Bool)
  | 0, _, _, _, _, _, _ => none
  | k + 1, x0, x1, x2, x3, x10, x11 => if x11 < (x1.length : Int) then (if 0 ≤ x11 then ((ddiref32_in.f k x2 ((rd_T25 x1 x11).f0) ((rd_T25 x1 x11).f1) ((rd_T25 x1 x11).f2)).bind fun t406 => (if t406 = true then (ddiref32_Pick.j1 k x0 x1 x2 x3 x10 x11 false) else (ddiref32_Pick.j1 k x0 x1 x2 x3 x10 x11 (decide ((x10.length : Int) < 16))))) else (none)) else (if (x10.length : Int) = 0 then (some (false, 0, 0, false)) else (ddiref32_Pick.l1 k x3 x10 (-1) 0))
def ddiref32_Pick.j1 : Nat → List (S34) → List (S25) → List (S25) → Int → List (S34) → Int → Bool → Option (Bool × Int × Int × Bool)
  | 0, _, _, _, _, _, _, _ => none
  | k + 1, x0, x1, x2, x3, x10, x11, x32 => if x32 = true then (if 0 ≤ x11 then (if x11 < (x1.length : Int) then ((ddiref32_Find.f k x0 ((rd_T25 x1 x11).f0) ((rd_T25 x1 x11).f1) ((rd_T25 x1 x11).f2)).bind fun bt408 => (if x10.length < 2932031007402 then (ddiref32_Pick.l0 k x0 x1 x2 x3 (x10 ++ [(⟨(⟨bt408.1, bt408.2.1, bt408.2.2.1⟩ : S25), bt408.2.2.2.1, bt408.2.2.2.2.1, bt408.2.2.2.2.2⟩ : S34)]) (wrap64 (x11 + 1))) else (none))) else (none)) else (none)) else (ddiref32_Pick.l0 k x0 x1 x2 x3 x10 (wrap64 (x11 + 1)))
def ddiref32_Pick.l1 : Nat → Int → List (S34) → Int → Int → Option (Bool × Int × Int × Bool)
  | 0, _, _, _, _ => none
  | k + 1, x3, x10, x12, x13 => if x13 < (x10.length : Int) then (if 0 ≤ x13 then (if ((rd_T34 x10 x13).f3) ≤ x3 then (if x12 < 0 then (ddiref32_Pick.j3 k x3 x10 x12 x13 true) else (if 0 ≤ x12 then (if x12 < (x10.length : Int) then (if ((rd_T34 x10 x13).f2) < ((rd_T34 x10 x12).f2) then (ddiref32_Pick.j3 k x3 x10 x12 x13 true) else (if ((rd_T34 x10 x13).f2) = ((rd_T34 x10 x12).f2) then (ddiref32_Pick.j3 k x3 x10 x12 x13 (decide (((rd_T34 x10 x13).f1) < ((rd_T34 x10 x12).f1)))) else (ddiref32_Pick.j3 k x3 x10 x12 x13 false))) else (none)) else (none))) else (ddiref32_Pick.j3 k x3 x10 x12 x13 false)) else (none)) else (if x12 ≥ 0 then (if 0 ≤ x12 then (if x12 < (x10.length : Int) then (some ((rd_T34 x10 x12).f0.f0, (rd_T34 x10 x12).f0.f1, (rd_T34 x10 x12).f0.f2, true)) else (none)) else (none)) else (ddiref32_Pick.l2 k x10 0 1))
def ddiref32_Pick.j3 : Nat → Int → List (S34) → Int → Int → Bool → Option (Bool × Int × Int × Bool)
  | 0, _, _, _, _, _ => none
  | k + 1, x3, x10, x12, x13, x101 => if x101 = true then (ddiref32_Pick.l1 k x3 x10 x13 (wrap64 (x13 + 1))) else (ddiref32_Pick.l1 k x3 x10 x12 (wrap64 (x13 + 1)))
def ddiref32_Pick.l2 : Nat → List (S34) → Int → Int → Option (Bool × Int × Int × Bool)
  | 0, _, _, _ => none
  | k + 1, x10, x12, x14 => if x14 < (x10.length : Int) then (if 0 ≤ x14 then (if 0 ≤ x12 then (if x12 < (x10.length : Int) then (if ((rd_T34 x10 x14).f3) < ((rd_T34 x10 x12).f3) then (ddiref32_Pick.l2 k x10 x14 (wrap64 (x14 + 1))) else (ddiref32_Pick.l2 k x10 x12 (wrap64 (x14 + 1)))) else (none)) else (none)) else (none)) else (if 0 ≤ x12 then (if x12 < (x10.length : Int) then (some ((rd_T34 x10 x12).f0.f0, (rd_T34 x10 x12).f0.f1, (rd_T34 x10 x12).f0.f2, true)) else (none)) else (none))
end
def ddiref32_Pick.f (k : Nat) (l0 : List (S34)) (l1 : List (S25)) (l2 : List (S25)) (a3 : Int) : Option (Bool × Int × Int × Bool) := ddiref32_Pick.l0 k l0 l1 l2 a3 ([] : List (S34)) 0
theorem ddiref32_Pick.mono_l : ∀ k, (∀ y0 y1 y2 y3 y4 y5, LeO (ddiref32_Pick.l0 k y0 y1 y2 y3 y4 y5) (ddiref32_Pick.l0 (k + 1) y0 y1 y2 y3 y4 y5)) ∧ (∀ y0 y1 y2 y3 y4 y5 y6, LeO (ddiref32_Pick.j1 k y0 y1 y2 y3 y4 y5 y6) (ddiref32_Pick.j1 (k + 1) y0 y1 y2 y3 y4 y5 y6)) ∧ (∀ y0 y1 y2 y3, LeO (ddiref32_Pick.l1 k y0 y1 y2 y3) (ddiref32_Pick.l1 (k + 1) y0 y1 y2 y3)) ∧ (∀ y0 y1 y2 y3 y4, LeO (ddiref32_Pick.j3 k y0 y1 y2 y3 y4) (ddiref32_Pick.j3 (k + 1) y0 y1 y2 y3 y4)) ∧ (∀ y0 y1 y2, LeO (ddiref32_Pick.l2 k y0 y1 y2) (ddiref32_Pick.l2 (k + 1) y0 y1 y2))
  | 0 => ⟨fun _ _ _ _ _ _ r h => by simp [ddiref32_Pick.l0] at h, fun _ _ _ _ _ _ _ r h => by simp [ddiref32_Pick.j1] at h, fun _ _ _ _ r h => by simp [ddiref32_Pick.l1] at h, fun _ _ _ _ _ r h => by simp [ddiref32_Pick.j3] at h, fun _ _ _ r h => by simp [ddiref32_Pick.l2] at h⟩
  | k + 1 => by
    obtain ⟨ih0, ih1, ih2, ih3, ih4⟩ := ddiref32_Pick.mono_l k
    refine ⟨?_, ?_, ?_, ?_, ?_⟩
    · intro y0 y1 y2 y3 y4 y5
      unfold ddiref32_Pick.l0
      repeat' first
      | (with_reducible exact ih0 _ _ _ _ _ _)
      | (with_reducible exact ih1 _ _ _ _ _ _ _)
      | (with_reducible exact ih2 _ _ _ _)
      | (with_reducible exact ih3 _ _ _ _ _)
      | (with_reducible exact ih4 _ _ _)
      | (with_reducible exact ddiref32_Find.mono _ _ _ _ _)
      | (with_reducible exact ddiref32_in.mono _ _ _ _ _)
      | (with_reducible exact LeO.refl _)
      | (with_reducible exact LeO.none _)
      | (with_reducible refine LeO.ite ?_ ?_)
      | (with_reducible refine LeO.bind ?_ (fun _ => ?_))
      | exact ih0 _ _ _ _ _ _
      | exact ih1 _ _ _ _ _ _ _
      | exact ih2 _ _ _ _
      | exact ih3 _ _ _ _ _
      | exact ih4 _ _ _
      | exact ddiref32_Find.mono _ _ _ _ _
      | exact ddiref32_in.mono _ _ _ _ _
      | exact LeO.none _
      | refine LeO.ite ?_ ?_
      | refine LeO.bind ?_ (fun _ => ?_)
    · intro y0 y1 y2 y3 y4 y5 y6
      unfold ddiref32_Pick.j1
      repeat' first
      | (with_reducible exact ih0 _ _ _ _ _ _)
      | (with_reducible exact ih1 _ _ _ _ _ _ _)
      | (with_reducible exact ih2 _ _ _ _)
      | (with_reducible exact ih3 _ _ _ _ _)
      | (with_reducible exact ih4 _ _ _)
      | (with_reducible exact ddiref32_Find.mono _ _ _ _ _)
      | (with_reducible exact ddiref32_in.mono _ _ _ _ _)
      | (with_reducible exact LeO.refl _)
      | (with_reducible exact LeO.none _)
      | (with_reducible refine LeO.ite ?_ ?_)
      | (with_reducible refine LeO.bind ?_ (fun _ => ?_))
      | exact ih0 _ _ _ _ _ _
      | exact ih1 _ _ _ _ _ _ _
      | exact ih2 _ _ _ _
      | exact ih3 _ _ _ _ _
      | exact ih4 _ _ _
      | exact ddiref32_Find.mono _ _ _ _ _
      | exact ddiref32_in.mono _ _ _ _ _
      | exact LeO.none _
      | refine LeO.ite ?_ ?_
      | refine LeO.bind ?_ (fun _ => ?_)
    · intro y0 y1 y2 y3
      unfold ddiref32_Pick.l1
      repeat' first
      | (with_reducible exact ih0 _ _ _ _ _ _)
      | (with_reducible exact ih1 _ _ _ _ _ _ _)
      | (with_reducible exact ih2 _ _ _ _)
      | (with_reducible exact ih3 _ _ _ _ _)
      | (with_reducible exact ih4 _ _ _)
      | (with_reducible exact ddiref32_Find.mono _ _ _ _ _)
      | (with_reducible exact ddiref32_in.mono _ _ _ _ _)
      | (with_reducible exact LeO.refl _)
      | (with_reducible exact LeO.none _)
      | (with_reducible refine LeO.ite ?_ ?_)
      | (with_reducible refine LeO.bind ?_ (fun _ => ?_))
      | exact ih0 _ _ _ _ _ _
      | exact ih1 _ _ _ _ _ _ _
      | exact ih2 _ _ _ _
      | exact ih3 _ _ _ _ _
      | exact ih4 _ _ _
      | exact ddiref32_Find.mono _ _ _ _ _
      | exact ddiref32_in.mono _ _ _ _ _
      | exact LeO.none _
      | refine LeO.ite ?_ ?_
      | refine LeO.bind ?_ (fun _ => ?_)
    · intro y0 y1 y2 y3 y4
      unfold ddiref32_Pick.j3
      repeat' first
      | (with_reducible exact ih0 _ _ _ _ _ _)
      | (with_reducible exact ih1 _ _ _ _ _ _ _)
      | (with_reducible exact ih2 _ _ _ _)
      | (with_reducible exact ih3 _ _ _ _ _)
      | (with_reducible exact ih4 _ _ _)
      | (with_reducible exact ddiref32_Find.mono _ _ _ _ _)
      | (with_reducible exact ddiref32_in.mono _ _ _ _ _)
      | (with_reducible exact LeO.refl _)
      | (with_reducible exact LeO.none _)
      | (with_reducible refine LeO.ite ?_ ?_)
      | (with_reducible refine LeO.bind ?_ (fun _ => ?_))
      | exact ih0 _ _ _ _ _ _
      | exact ih1 _ _ _ _ _ _ _
      | exact ih2 _ _ _ _
      | exact ih3 _ _ _ _ _
      | exact ih4 _ _ _
      | exact ddiref32_Find.mono _ _ _ _ _
      | exact ddiref32_in.mono _ _ _ _ _
      | exact LeO.none _
      | refine LeO.ite ?_ ?_
      | refine LeO.bind ?_ (fun _ => ?_)
    · intro y0 y1 y2
      unfold ddiref32_Pick.l2
      repeat' first
      | (with_reducible exact ih0 _ _ _ _ _ _)
      | (with_reducible exact ih1 _ _ _ _ _ _ _)
      | (with_reducible exact ih2 _ _ _ _)
      | (with_reducible exact ih3 _ _ _ _ _)
      | (with_reducible exact ih4 _ _ _)
      | (with_reducible exact ddiref32_Find.mono _ _ _ _ _)
      | (with_reducible exact ddiref32_in.mono _ _ _ _ _)
      | (with_reducible exact LeO.refl _)
      | (with_reducible exact LeO.none _)
      | (with_reducible refine LeO.ite ?_ ?_)
      | (with_reducible refine LeO.bind ?_ (fun _ => ?_))
      | exact ih0 _ _ _ _ _ _
      | exact ih1 _ _ _ _ _ _ _
      | exact ih2 _ _ _ _
      | exact ih3 _ _ _ _ _
      | exact ih4 _ _ _
      | exact ddiref32_Find.mono _ _ _ _ _
      | exact ddiref32_in.mono _ _ _ _ _
      | exact LeO.none _
      | refine LeO.ite ?_ ?_
      | refine LeO.bind ?_ (fun _ => ?_)
theorem ddiref32_Pick.mono : ∀ a0 a1 a2 a3 k, LeO (ddiref32_Pick.f k a0 a1 a2 a3) (ddiref32_Pick.f (k + 1) a0 a1 a2 a3) := by
  intro a0 a1 a2 a3 k
  obtain ⟨ih0, ih1, ih2, ih3, ih4⟩ := ddiref32_Pick.mono_l k
  unfold ddiref32_Pick.f
  repeat' first
      | (with_reducible exact ih0 _ _ _ _ _ _)
      | (with_reducible exact ih1 _ _ _ _ _ _ _)
      | (with_reducible exact ih2 _ _ _ _)
      | (with_reducible exact ih3 _ _ _ _ _)
      | (with_reducible exact ih4 _ _ _)
      | (with_reducible exact ddiref32_Find.mono _ _ _ _ _)
      | (with_reducible exact ddiref32_in.mono _ _ _ _ _)
      | (with_reducible exact LeO.refl _)
      | (with_reducible exact LeO.none _)
      | (with_reducible refine LeO.ite ?_ ?_)
      | (with_reducible refine LeO.bind ?_ (fun _ => ?_))
      | exact ih0 _ _ _ _ _ _
      | exact ih1 _ _ _ _ _ _ _
      | exact ih2 _ _ _ _
      | exact ih3 _ _ _ _ _
      | exact ih4 _ _ _
      | exact ddiref32_Find.mono _ _ _ _ _
      | exact ddiref32_in.mono _ _ _ _ _
      | exact LeO.none _
      | refine LeO.ite ?_ ?_
      | refine LeO.bind ?_ (fun _ => ?_)
def ddilaw32_UpstreamPicks.f (k : Nat) (l0 : List (S34)) (l1_0 : List (S25)) (l1_1 : List (S25)) (a1_2 : Int) : Option (Bool) := if 0 ≤ (mn (l0.length : Int) 60) then (if (mn (l0.length : Int) 60) ≤ (l0.length : Int) then ((some (l0.take ((mn (l0.length : Int) 60) : Int).toNat : List (S34))).bind fun y429 => (if 0 ≤ (mn (l1_0.length : Int) 40) then (if (mn (l1_0.length : Int) 40) ≤ (l1_0.length : Int) then ((some (l1_0.take ((mn (l1_0.length : Int) 40) : Int).toNat : List (S25))).bind fun y433 => (if 0 ≤ (mn (l1_1.length : Int) 40) then (if (mn (l1_1.length : Int) 40) ≤ (l1_1.length : Int) then ((some (l1_1.take ((mn (l1_1.length : Int) 40) : Int).toNat : List (S25))).bind fun y437 => ((ddilaw32_back.f k y429).bind fun t441 => ((upstream_Pick.f k t441 y433 y437 a1_2).bind fun bt444 => ((ddiref32_Pick.f k y429 y433 y437 a1_2).bind fun bt449 => (if (bt444.1 == bt449.1 && (bt444.2.1 == bt449.2.1 && (bt444.2.2.1 == bt449.2.2.1))) = true then (if (bt444.2.2.2 == bt449.2.2.2) = true then ((ddilaw32_awake.f k).bind fun t454 => (some t454)) else (some false)) else (some false)))))) else (none)) else (none))) else (none)) else (none))) else (none)) else (none)
theorem ddilaw32_UpstreamPicks.mono : ∀ a0 a1 a2 a3 k, LeO (ddilaw32_UpstreamPicks.f k a0 a1 a2 a3) (ddilaw32_UpstreamPicks.f (k + 1) a0 a1 a2 a3) := by
  intro a0 a1 a2 a3 k
  unfold ddilaw32_UpstreamPicks.f
  repeat' first
      | (with_reducible exact ddilaw32_awake.mono _)
      | (with_reducible exact ddilaw32_back.mono _ _)
      | (with_reducible exact ddiref32_Pick.mono _ _ _ _ _)
      | (with_reducible exact upstream_Pick.mono _ _ _ _ _)
      | (with_reducible exact LeO.refl _)
      | (with_reducible exact LeO.none _)
      | (with_reducible refine LeO.ite ?_ ?_)
      | (with_reducible refine LeO.bind ?_ (fun _ => ?_))
      | exact ddilaw32_awake.mono _
      | exact ddilaw32_back.mono _ _
      | exact ddiref32_Pick.mono _ _ _ _ _
      | exact upstream_Pick.mono _ _ _ _ _
      | exact LeO.none _
      | refine LeO.ite ?_ ?_
      | refine LeO.bind ?_ (fun _ => ?_)
def okS42 (x : S42) : Prop := (x.f0.length * 24 ≤ 140737488351232 ∧ x.f0.length ≤ maxLen ∧ ∀ y0_ ∈ x.f0, okS25 y0_) ∧ ((x.f1.length * 24 ≤ 140737488351232 ∧ x.f1.length ≤ maxLen ∧ ∀ y0_ ∈ x.f1, okS25 y0_) ∧ (Lit.int .i64 x.f2).wf = true)
/-- THE ONE PURE STATEMENT of ddilaw32_UpstreamPicks: ours. -/
def ddilaw32_UpstreamPicks.Pure : Prop := ∀ (l0 : List (S34)) (l1_0 : List (S25)) (l1_1 : List (S25)) (a1_2 : Int), (l0.length * 48 ≤ 140737488351232 ∧ l0.length ≤ maxLen ∧ ∀ y0_ ∈ l0, okS34 y0_) → okS42 (⟨l1_0, l1_1, a1_2⟩ : S42) → ∃ k, ddilaw32_UpstreamPicks.f k l0 l1_0 l1_1 a1_2 = some true
end Go.Proofs.Ytgkpinecggoilaa.QA
