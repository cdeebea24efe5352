-- Written by this session's own program (wip/xprint) out of the translation; Lean checks it.
import Derived.Test.YtgkpinecggoilaaQAd3
namespace Go.Proofs.Ytgkpinecggoilaa.QA
open Go.RowKit Go.Proofs.YtgkpinecggoilaaW.PrintWords Go.Proofs.YtgkpinecggoilaaW.PrintLast Go.Proofs.YtgkpinecggoilaaW.PrintMore
set_option linter.unusedVariables false

mutual
def ddilaw32_play.l0 : Nat → List (S27) → List (S35) → Int → Option ((List (S35)))
  | 0, _, _, _ => none
  | k + 1, x0, x3, x4 => if x4 < (x0.length : Int) then (ddilaw32_play.j1 k x0 x3 x4 (decide (x4 < 60))) else (ddilaw32_play.j1 k x0 x3 x4 false)
def ddilaw32_play.j1 : Nat → List (S27) → List (S35) → Int → Bool → Option ((List (S35)))
  | 0, _, _, _, _ => none
  | k + 1, x0, x3, x4, x12 => if x12 = true then (if 0 ≤ x4 then (if x4 < (x0.length : Int) then (if (rd_T27 x0 x4).f1 = true then ((upstream_Bad.f k x3 ((rd_T27 x0 x4).f0.f0) ((rd_T27 x0 x4).f0.f1) ((rd_T27 x0 x4).f0.f2) ((rd_T27 x0 x4).f3)).bind fun t465 => (ddilaw32_play.l0 k x0 t465 (wrap64 (x4 + 1)))) else ((upstream_Good.f k x3 ((rd_T27 x0 x4).f0.f0) ((rd_T27 x0 x4).f0.f1) ((rd_T27 x0 x4).f0.f2) ((rd_T27 x0 x4).f2)).bind fun t470 => (ddilaw32_play.l0 k x0 t470 (wrap64 (x4 + 1))))) else (none)) else (none)) else (some x3)
end
def ddilaw32_play.f (k : Nat) (l0 : List (S27)) : Option ((List (S35))) := ddilaw32_play.l0 k l0 ([] : List (S35)) 0
theorem ddilaw32_play.mono_l : ∀ k, (∀ y0 y1 y2, LeO (ddilaw32_play.l0 k y0 y1 y2) (ddilaw32_play.l0 (k + 1) y0 y1 y2)) ∧ (∀ y0 y1 y2 y3, LeO (ddilaw32_play.j1 k y0 y1 y2 y3) (ddilaw32_play.j1 (k + 1) y0 y1 y2 y3))
  | 0 => ⟨fun _ _ _ r h => by simp [ddilaw32_play.l0] at h, fun _ _ _ _ r h => by simp [ddilaw32_play.j1] at h⟩
  | k + 1 => by
    obtain ⟨ih0, ih1⟩ := ddilaw32_play.mono_l k
    refine ⟨?_, ?_⟩
    · intro y0 y1 y2
      unfold ddilaw32_play.l0
      repeat' first
      | (with_reducible exact ih0 _ _ _)
      | (with_reducible exact ih1 _ _ _ _)
      | (with_reducible exact upstream_Bad.mono _ _ _ _ _ _)
      | (with_reducible exact upstream_Good.mono _ _ _ _ _ _)
      | (with_reducible exact LeO.refl _)
      | (with_reducible exact LeO.none _)
      | (with_reducible refine LeO.ite ?_ ?_)
      | (with_reducible refine LeO.bind ?_ (fun _ => ?_))
      | exact ih0 _ _ _
      | exact ih1 _ _ _ _
      | exact upstream_Bad.mono _ _ _ _ _ _
      | exact upstream_Good.mono _ _ _ _ _ _
      | exact LeO.none _
      | refine LeO.ite ?_ ?_
      | refine LeO.bind ?_ (fun _ => ?_)
    · intro y0 y1 y2 y3
      unfold ddilaw32_play.j1
      repeat' first
      | (with_reducible exact ih0 _ _ _)
      | (with_reducible exact ih1 _ _ _ _)
      | (with_reducible exact upstream_Bad.mono _ _ _ _ _ _)
      | (with_reducible exact upstream_Good.mono _ _ _ _ _ _)
      | (with_reducible exact LeO.refl _)
      | (with_reducible exact LeO.none _)
      | (with_reducible refine LeO.ite ?_ ?_)
      | (with_reducible refine LeO.bind ?_ (fun _ => ?_))
      | exact ih0 _ _ _
      | exact ih1 _ _ _ _
      | exact upstream_Bad.mono _ _ _ _ _ _
      | exact upstream_Good.mono _ _ _ _ _ _
      | exact LeO.none _
      | refine LeO.ite ?_ ?_
      | refine LeO.bind ?_ (fun _ => ?_)
theorem ddilaw32_play.mono : ∀ a0 k, LeO (ddilaw32_play.f k a0) (ddilaw32_play.f (k + 1) a0) := by
  intro a0 k
  obtain ⟨ih0, ih1⟩ := ddilaw32_play.mono_l k
  unfold ddilaw32_play.f
  repeat' first
      | (with_reducible exact ih0 _ _ _)
      | (with_reducible exact ih1 _ _ _ _)
      | (with_reducible exact upstream_Bad.mono _ _ _ _ _ _)
      | (with_reducible exact upstream_Good.mono _ _ _ _ _ _)
      | (with_reducible exact LeO.refl _)
      | (with_reducible exact LeO.none _)
      | (with_reducible refine LeO.ite ?_ ?_)
      | (with_reducible refine LeO.bind ?_ (fun _ => ?_))
      | exact ih0 _ _ _
      | exact ih1 _ _ _ _
      | exact upstream_Bad.mono _ _ _ _ _ _
      | exact upstream_Good.mono _ _ _ _ _ _
      | exact LeO.none _
      | refine LeO.ite ?_ ?_
      | refine LeO.bind ?_ (fun _ => ?_)
mutual
def ddilaw32_UpstreamKnows.l0 : Nat → List (S27) → Int → List (S35) → Int → Option (Bool)
  | 0, _, _, _, _ => none
  | k + 1, x0, x1, x5, x6 => if x6 < (x5.length : Int) then (if 0 ≤ (wrap64 (x6 - 1)) then (if (wrap64 (x6 - 1)) < (x5.length : Int) then (if 0 ≤ x6 then ((addr_Compare.f k ((rd_T35 x5 (wrap64 (x6 - 1))).f0.f0) ((rd_T35 x5 (wrap64 (x6 - 1))).f0.f1) ((rd_T35 x5 (wrap64 (x6 - 1))).f0.f2) ((rd_T35 x5 x6).f0.f0) ((rd_T35 x5 x6).f0.f1) ((rd_T35 x5 x6).f0.f2)).bind fun t478 => (if t478 ≥ 0 then (some false) else (ddilaw32_UpstreamKnows.l0 k x0 x1 x5 (wrap64 (x6 + 1))))) else (none)) else (none)) else (none)) else (if (x0.length : Int) = 0 then (if (x5.length : Int) = 0 then ((ddilaw32_awake.f k).bind fun t479 => (some t479)) else (some false)) else (if (mn (x0.length : Int) 60) = 0 then (none) else (if 0 ≤ (Int.tmod (wrap64 (x1)) (mn (x0.length : Int) 60)) then (if (Int.tmod (wrap64 (x1)) (mn (x0.length : Int) 60)) < (x0.length : Int) then (ddilaw32_UpstreamKnows.l1 k x0 x5 ([] : List (S27)) 0 ((rd_T27 x0 (Int.tmod (wrap64 (x1)) (mn (x0.length : Int) 60))).f0.f0) ((rd_T27 x0 (Int.tmod (wrap64 (x1)) (mn (x0.length : Int) 60))).f0.f1) ((rd_T27 x0 (Int.tmod (wrap64 (x1)) (mn (x0.length : Int) 60))).f0.f2)) else (none)) else (none))))
def ddilaw32_UpstreamKnows.l1 : Nat → List (S27) → List (S35) → List (S27) → Int → Bool → Int → Int → Option (Bool)
  | 0, _, _, _, _, _, _, _ => none
  | k + 1, x0, x5, x8, x9, x482000, x482001, x482002 => if x9 < (x0.length : Int) then (ddilaw32_UpstreamKnows.j2 k x0 x5 x8 x9 (decide (x9 < 60)) x482000 x482001 x482002) else (ddilaw32_UpstreamKnows.j2 k x0 x5 x8 x9 false x482000 x482001 x482002)
def ddilaw32_UpstreamKnows.j2 : Nat → List (S27) → List (S35) → List (S27) → Int → Bool → Bool → Int → Int → Option (Bool)
  | 0, _, _, _, _, _, _, _, _ => none
  | k + 1, x0, x5, x8, x9, x59, x482000, x482001, x482002 => if x59 = true then (if 0 ≤ x9 then (if x9 < (x0.length : Int) then (if (((rd_T27 x0 x9).f0.f0) == x482000 && (((rd_T27 x0 x9).f0.f1) == x482001 && (((rd_T27 x0 x9).f0.f2) == x482002))) = true then (if x8.length < 2932031007402 then (ddilaw32_UpstreamKnows.l1 k x0 x5 (x8 ++ [(⟨(⟨(rd_T27 x0 x9).f0.f0, (rd_T27 x0 x9).f0.f1, (rd_T27 x0 x9).f0.f2⟩ : S25), (rd_T27 x0 x9).f1, (rd_T27 x0 x9).f2, (rd_T27 x0 x9).f3⟩ : S27)]) (wrap64 (x9 + 1)) x482000 x482001 x482002) else (none)) else (ddilaw32_UpstreamKnows.l1 k x0 x5 x8 (wrap64 (x9 + 1)) x482000 x482001 x482002)) else (none)) else (none)) else ((ddilaw32_play.f k x8).bind fun t487 => ((upstream_Find.f k x5 x482000 x482001 x482002).bind fun bt490 => (if (t487.length : Int) = 1 then (if 0 < (t487.length : Int) then (if ((((rd_T35 t487 0).f0.f0) == bt490.1 && (((rd_T35 t487 0).f0.f1) == bt490.2.1 && (((rd_T35 t487 0).f0.f2) == bt490.2.2.1))) && (((rd_T35 t487 0).f1) == bt490.2.2.2.1 && (((rd_T35 t487 0).f2) == bt490.2.2.2.2.1 && (((rd_T35 t487 0).f3) == bt490.2.2.2.2.2)))) = true then (if bt490.2.2.2.1 ≥ 1 then (if bt490.2.2.2.1 ≤ 30 then (if bt490.2.2.2.2.1 ≥ 0 then (if bt490.2.2.2.2.1 ≤ 6 then ((ddilaw32_awake.f k).bind fun t498 => (some t498)) else (some false)) else (some false)) else (some false)) else (some false)) else (some false)) else (none)) else (some false))))
end
def ddilaw32_UpstreamKnows.f (k : Nat) (l0 : List (S27)) (a1 : Int) : Option (Bool) := (ddilaw32_play.f k l0).bind fun t473 => (ddilaw32_UpstreamKnows.l0 k l0 a1 t473 1)
theorem ddilaw32_UpstreamKnows.mono_l : ∀ k, (∀ y0 y1 y2 y3, LeO (ddilaw32_UpstreamKnows.l0 k y0 y1 y2 y3) (ddilaw32_UpstreamKnows.l0 (k + 1) y0 y1 y2 y3)) ∧ (∀ y0 y1 y2 y3 y4 y5 y6, LeO (ddilaw32_UpstreamKnows.l1 k y0 y1 y2 y3 y4 y5 y6) (ddilaw32_UpstreamKnows.l1 (k + 1) y0 y1 y2 y3 y4 y5 y6)) ∧ (∀ y0 y1 y2 y3 y4 y5 y6 y7, LeO (ddilaw32_UpstreamKnows.j2 k y0 y1 y2 y3 y4 y5 y6 y7) (ddilaw32_UpstreamKnows.j2 (k + 1) y0 y1 y2 y3 y4 y5 y6 y7))
  | 0 => ⟨fun _ _ _ _ r h => by simp [ddilaw32_UpstreamKnows.l0] at h, fun _ _ _ _ _ _ _ r h => by simp [ddilaw32_UpstreamKnows.l1] at h, fun _ _ _ _ _ _ _ _ r h => by simp [ddilaw32_UpstreamKnows.j2] at h⟩
  | k + 1 => by
    obtain ⟨ih0, ih1, ih2⟩ := ddilaw32_UpstreamKnows.mono_l k
    refine ⟨?_, ?_, ?_⟩
    · intro y0 y1 y2 y3
      unfold ddilaw32_UpstreamKnows.l0
      repeat' first
      | (with_reducible exact ih0 _ _ _ _)
      | (with_reducible exact ih1 _ _ _ _ _ _ _)
      | (with_reducible exact ih2 _ _ _ _ _ _ _ _)
      | (with_reducible exact addr_Compare.mono _ _ _ _ _ _ _)
      | (with_reducible exact ddilaw32_awake.mono _)
      | (with_reducible exact ddilaw32_play.mono _ _)
      | (with_reducible exact upstream_Find.mono _ _ _ _ _)
      | (with_reducible exact LeO.refl _)
      | (with_reducible exact LeO.none _)
      | (with_reducible refine LeO.ite ?_ ?_)
      | (with_reducible refine LeO.bind ?_ (fun _ => ?_))
      | exact ih0 _ _ _ _
      | exact ih1 _ _ _ _ _ _ _
      | exact ih2 _ _ _ _ _ _ _ _
      | exact addr_Compare.mono _ _ _ _ _ _ _
      | exact ddilaw32_awake.mono _
      | exact ddilaw32_play.mono _ _
      | exact upstream_Find.mono _ _ _ _ _
      | exact LeO.none _
      | refine LeO.ite ?_ ?_
      | refine LeO.bind ?_ (fun _ => ?_)
    · intro y0 y1 y2 y3 y4 y5 y6
      unfold ddilaw32_UpstreamKnows.l1
      repeat' first
      | (with_reducible exact ih0 _ _ _ _)
      | (with_reducible exact ih1 _ _ _ _ _ _ _)
      | (with_reducible exact ih2 _ _ _ _ _ _ _ _)
      | (with_reducible exact addr_Compare.mono _ _ _ _ _ _ _)
      | (with_reducible exact ddilaw32_awake.mono _)
      | (with_reducible exact ddilaw32_play.mono _ _)
      | (with_reducible exact upstream_Find.mono _ _ _ _ _)
      | (with_reducible exact LeO.refl _)
      | (with_reducible exact LeO.none _)
      | (with_reducible refine LeO.ite ?_ ?_)
      | (with_reducible refine LeO.bind ?_ (fun _ => ?_))
      | exact ih0 _ _ _ _
      | exact ih1 _ _ _ _ _ _ _
      | exact ih2 _ _ _ _ _ _ _ _
      | exact addr_Compare.mono _ _ _ _ _ _ _
      | exact ddilaw32_awake.mono _
      | exact ddilaw32_play.mono _ _
      | exact upstream_Find.mono _ _ _ _ _
      | exact LeO.none _
      | refine LeO.ite ?_ ?_
      | refine LeO.bind ?_ (fun _ => ?_)
    · intro y0 y1 y2 y3 y4 y5 y6 y7
      unfold ddilaw32_UpstreamKnows.j2
      repeat' first
      | (with_reducible exact ih0 _ _ _ _)
      | (with_reducible exact ih1 _ _ _ _ _ _ _)
      | (with_reducible exact ih2 _ _ _ _ _ _ _ _)
      | (with_reducible exact addr_Compare.mono _ _ _ _ _ _ _)
      | (with_reducible exact ddilaw32_awake.mono _)
      | (with_reducible exact ddilaw32_play.mono _ _)
      | (with_reducible exact upstream_Find.mono _ _ _ _ _)
      | (with_reducible exact LeO.refl _)
      | (with_reducible exact LeO.none _)
      | (with_reducible refine LeO.ite ?_ ?_)
      | (with_reducible refine LeO.bind ?_ (fun _ => ?_))
      | exact ih0 _ _ _ _
      | exact ih1 _ _ _ _ _ _ _
      | exact ih2 _ _ _ _ _ _ _ _
      | exact addr_Compare.mono _ _ _ _ _ _ _
      | exact ddilaw32_awake.mono _
      | exact ddilaw32_play.mono _ _
      | exact upstream_Find.mono _ _ _ _ _
      | exact LeO.none _
      | refine LeO.ite ?_ ?_
      | refine LeO.bind ?_ (fun _ => ?_)
theorem ddilaw32_UpstreamKnows.mono : ∀ a0 a1 k, LeO (ddilaw32_UpstreamKnows.f k a0 a1) (ddilaw32_UpstreamKnows.f (k + 1) a0 a1) := by
  intro a0 a1 k
  obtain ⟨ih0, ih1, ih2⟩ := ddilaw32_UpstreamKnows.mono_l k
  unfold ddilaw32_UpstreamKnows.f
  repeat' first
      | (with_reducible exact ih0 _ _ _ _)
      | (with_reducible exact ih1 _ _ _ _ _ _ _)
      | (with_reducible exact ih2 _ _ _ _ _ _ _ _)
      | (with_reducible exact addr_Compare.mono _ _ _ _ _ _ _)
      | (with_reducible exact ddilaw32_awake.mono _)
      | (with_reducible exact ddilaw32_play.mono _ _)
      | (with_reducible exact upstream_Find.mono _ _ _ _ _)
      | (with_reducible exact LeO.refl _)
      | (with_reducible exact LeO.none _)
      | (with_reducible refine LeO.ite ?_ ?_)
      | (with_reducible refine LeO.bind ?_ (fun _ => ?_))
      | exact ih0 _ _ _ _
      | exact ih1 _ _ _ _ _ _ _
      | exact ih2 _ _ _ _ _ _ _ _
      | exact addr_Compare.mono _ _ _ _ _ _ _
      | exact ddilaw32_awake.mono _
      | exact ddilaw32_play.mono _ _
      | exact upstream_Find.mono _ _ _ _ _
      | exact LeO.none _
      | refine LeO.ite ?_ ?_
      | refine LeO.bind ?_ (fun _ => ?_)
/-- THE ONE PURE STATEMENT of ddilaw32_UpstreamKnows: ours. -/
def ddilaw32_UpstreamKnows.Pure : Prop := ∀ (l0 : List (S27)) (a1 : Int), (l0.length * 48 ≤ 140737488351232 ∧ l0.length ≤ maxLen ∧ ∀ y0_ ∈ l0, okS27 y0_) → (Lit.int .u8 a1).wf = true → ∃ k, ddilaw32_UpstreamKnows.f k l0 a1 = some true
end Go.Proofs.Ytgkpinecggoilaa.QA
