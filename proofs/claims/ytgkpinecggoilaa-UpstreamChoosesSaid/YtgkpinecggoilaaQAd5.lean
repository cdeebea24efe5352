-- Written by this session's own program (wip/xprint) out of the translation; Lean checks it.
import Derived.Test.YtgkpinecggoilaaQAd4
namespace Go.Proofs.Ytgkpinecggoilaa.QA
open Go.RowKit Go.Proofs.YtgkpinecggoilaaW.PrintWords Go.Proofs.YtgkpinecggoilaaW.PrintLast Go.Proofs.YtgkpinecggoilaaW.PrintMore
set_option linter.unusedVariables false

mutual
def ddilaw32_UpstreamChooses.l0 : Nat → List (S35) → List (S25) → List (S25) → Bool → List (S25) → Int → Int → List (S25) → List (S25) → Int → Option (Bool)
  | 0, _, _, _, _, _, _, _, _, _, _ => none
  | k + 1, x5, x6, x7, x8, x29, x30, x31, x500000, x500001, x500002 => if x31 < x30 then (if 0 ≤ x31 then (if x31 < (x29.length : Int) then (ddilaw32_UpstreamChooses.l1 k x5 x6 x7 x8 false x29 x30 x31 x500001 (x500001.length : Int) 0 x500000 x500001 x500002 ((rd_T25 x29 x31).f0) ((rd_T25 x29 x31).f1) ((rd_T25 x29 x31).f2)) else (none)) else (none)) else ((upstream_Pick.f k x5 x6 x500001 x500002).bind fun bt520 => (if (bt520.2.2.2 != (decide ((x7.length : Int) > 0))) = true then (some false) else (if bt520.2.2.2 = true then (ddilaw32_UpstreamChooses.l2 k x5 x8 false x7 (x7.length : Int) 0 x500000 x500001 x500002 bt520.1 bt520.2.1 bt520.2.2.1) else (if (!bt520.1 && (bt520.2.1 == 0 && (bt520.2.2.1 == 0))) = true then ((ddilaw32_awake.f k).bind fun t525 => (some t525)) else (some false)))))
def ddilaw32_UpstreamChooses.l1 : Nat → List (S35) → List (S25) → List (S25) → Bool → Bool → List (S25) → Int → Int → List (S25) → Int → Int → List (S25) → List (S25) → Int → Bool → Int → Int → Option (Bool)
  | 0, _, _, _, _, _, _, _, _, _, _, _, _, _, _, _, _, _ => none
  | k + 1, x5, x6, x7, x8, x11, x29, x30, x31, x36, x37, x38, x500000, x500001, x500002, x509000, x509001, x509002 => if x38 < x37 then (if 0 ≤ x38 then (if x38 < (x36.length : Int) then (if x11 = true then (ddilaw32_UpstreamChooses.l1 k x5 x6 x7 x8 true x29 x30 x31 x36 x37 (wrap64 (x38 + 1)) x500000 x500001 x500002 x509000 x509001 x509002) else (ddilaw32_UpstreamChooses.l1 k x5 x6 x7 x8 (((rd_T25 x36 x38).f0) == x509000 && (((rd_T25 x36 x38).f1) == x509001 && (((rd_T25 x36 x38).f2) == x509002))) x29 x30 x31 x36 x37 (wrap64 (x38 + 1)) x500000 x500001 x500002 x509000 x509001 x509002)) else (none)) else (none)) else (if x11 = true then (ddilaw32_UpstreamChooses.l0 k x5 x6 x7 x8 x29 x30 (wrap64 (x31 + 1)) x500000 x500001 x500002) else (if x7.length < 5864062014805 then ((some (x7 ++ [(⟨x509000, x509001, x509002⟩ : S25)] : List (S25))).bind fun y511 => (if x8 = true then (ddilaw32_UpstreamChooses.l0 k x5 x6 y511 true x29 x30 (wrap64 (x31 + 1)) x500000 x500001 x500002) else ((upstream_Find.f k x5 x509000 x509001 x509002).bind fun bt514 => (ddilaw32_UpstreamChooses.l0 k x5 x6 y511 (decide (bt514.2.2.2.2.2 ≤ x500002)) x29 x30 (wrap64 (x31 + 1)) x500000 x500001 x500002)))) else (none)))
def ddilaw32_UpstreamChooses.l2 : Nat → List (S35) → Bool → Bool → List (S25) → Int → Int → List (S25) → List (S25) → Int → Bool → Int → Int → Option (Bool)
  | 0, _, _, _, _, _, _, _, _, _, _, _, _ => none
  | k + 1, x5, x8, x16, x89, x90, x91, x500000, x500001, x500002, x525000, x525001, x525002 => if x91 < x90 then (if 0 ≤ x91 then (if x91 < (x89.length : Int) then (if x16 = true then (ddilaw32_UpstreamChooses.l2 k x5 x8 true x89 x90 (wrap64 (x91 + 1)) x500000 x500001 x500002 x525000 x525001 x525002) else (ddilaw32_UpstreamChooses.l2 k x5 x8 (((rd_T25 x89 x91).f0) == x525000 && (((rd_T25 x89 x91).f1) == x525001 && (((rd_T25 x89 x91).f2) == x525002))) x89 x90 (wrap64 (x91 + 1)) x500000 x500001 x500002 x525000 x525001 x525002)) else (none)) else (none)) else (if x16 = true then ((upstream_Find.f k x5 x525000 x525001 x525002).bind fun bt528 => (ddilaw32_UpstreamChooses.j3 k x5 ((decide (bt528.2.2.2.2.2 ≤ x500002)) != x8) x525000 x525001 x525002)) else (ddilaw32_UpstreamChooses.j3 k x5 true x525000 x525001 x525002))
def ddilaw32_UpstreamChooses.j3 : Nat → List (S35) → Bool → Bool → Int → Int → Option (Bool)
  | 0, _, _, _, _, _ => none
  | k + 1, x5, x114, x525000, x525001, x525002 => if x114 = true then (some false) else ((upstream_Good.f k x5 x525000 x525001 x525002 5).bind fun t534 => ((upstream_Find.f k t534 x525000 x525001 x525002).bind fun bt537 => (if bt537.2.2.2.2.2 = 0 then (if bt537.2.2.2.2.1 = 0 then ((ddilaw32_awake.f k).bind fun t544 => (some t544)) else (some false)) else (some false))))
end
def ddilaw32_UpstreamChooses.f (k : Nat) (l0 : List (S27)) (l1_0 : List (S25)) (l1_1 : List (S25)) (a1_2 : Int) : Option (Bool) := (ddilaw32_play.f k l0).bind fun t500 => (if 0 ≤ (mn (l1_0.length : Int) 16) then (if (mn (l1_0.length : Int) 16) ≤ (l1_0.length : Int) then ((some (l1_0.take ((mn (l1_0.length : Int) 16) : Int).toNat : List (S25))).bind fun y503 => (ddilaw32_UpstreamChooses.l0 k t500 y503 ([] : List (S25)) false y503 (y503.length : Int) 0 l1_0 l1_1 a1_2)) else (none)) else (none))
theorem ddilaw32_UpstreamChooses.mono_l : ∀ k, (∀ y0 y1 y2 y3 y4 y5 y6 y7 y8 y9, LeO (ddilaw32_UpstreamChooses.l0 k y0 y1 y2 y3 y4 y5 y6 y7 y8 y9) (ddilaw32_UpstreamChooses.l0 (k + 1) y0 y1 y2 y3 y4 y5 y6 y7 y8 y9)) ∧ (∀ y0 y1 y2 y3 y4 y5 y6 y7 y8 y9 y10 y11 y12 y13 y14 y15 y16, LeO (ddilaw32_UpstreamChooses.l1 k y0 y1 y2 y3 y4 y5 y6 y7 y8 y9 y10 y11 y12 y13 y14 y15 y16) (ddilaw32_UpstreamChooses.l1 (k + 1) y0 y1 y2 y3 y4 y5 y6 y7 y8 y9 y10 y11 y12 y13 y14 y15 y16)) ∧ (∀ y0 y1 y2 y3 y4 y5 y6 y7 y8 y9 y10 y11, LeO (ddilaw32_UpstreamChooses.l2 k y0 y1 y2 y3 y4 y5 y6 y7 y8 y9 y10 y11) (ddilaw32_UpstreamChooses.l2 (k + 1) y0 y1 y2 y3 y4 y5 y6 y7 y8 y9 y10 y11)) ∧ (∀ y0 y1 y2 y3 y4, LeO (ddilaw32_UpstreamChooses.j3 k y0 y1 y2 y3 y4) (ddilaw32_UpstreamChooses.j3 (k + 1) y0 y1 y2 y3 y4))
  | 0 => ⟨fun _ _ _ _ _ _ _ _ _ _ r h => by simp [ddilaw32_UpstreamChooses.l0] at h, fun _ _ _ _ _ _ _ _ _ _ _ _ _ _ _ _ _ r h => by simp [ddilaw32_UpstreamChooses.l1] at h, fun _ _ _ _ _ _ _ _ _ _ _ _ r h => by simp [ddilaw32_UpstreamChooses.l2] at h, fun _ _ _ _ _ r h => by simp [ddilaw32_UpstreamChooses.j3] at h⟩
  | k + 1 => by
    obtain ⟨ih0, ih1, ih2, ih3⟩ := ddilaw32_UpstreamChooses.mono_l k
    refine ⟨?_, ?_, ?_, ?_⟩
    · intro y0 y1 y2 y3 y4 y5 y6 y7 y8 y9
      unfold ddilaw32_UpstreamChooses.l0
      repeat' first
      | (with_reducible exact ih0 _ _ _ _ _ _ _ _ _ _)
      | (with_reducible exact ih1 _ _ _ _ _ _ _ _ _ _ _ _ _ _ _ _ _)
      | (with_reducible exact ih2 _ _ _ _ _ _ _ _ _ _ _ _)
      | (with_reducible exact ih3 _ _ _ _ _)
      | (with_reducible exact ddilaw32_awake.mono _)
      | (with_reducible exact ddilaw32_play.mono _ _)
      | (with_reducible exact upstream_Find.mono _ _ _ _ _)
      | (with_reducible exact upstream_Good.mono _ _ _ _ _ _)
      | (with_reducible exact upstream_Pick.mono _ _ _ _ _)
      | (with_reducible exact LeO.refl _)
      | (with_reducible exact LeO.none _)
      | (with_reducible refine LeO.ite ?_ ?_)
      | (with_reducible refine LeO.bind ?_ (fun _ => ?_))
      | exact ih0 _ _ _ _ _ _ _ _ _ _
      | exact ih1 _ _ _ _ _ _ _ _ _ _ _ _ _ _ _ _ _
      | exact ih2 _ _ _ _ _ _ _ _ _ _ _ _
      | exact ih3 _ _ _ _ _
      | exact ddilaw32_awake.mono _
      | exact ddilaw32_play.mono _ _
      | exact upstream_Find.mono _ _ _ _ _
      | exact upstream_Good.mono _ _ _ _ _ _
      | exact upstream_Pick.mono _ _ _ _ _
      | exact LeO.none _
      | refine LeO.ite ?_ ?_
      | refine LeO.bind ?_ (fun _ => ?_)
    · intro y0 y1 y2 y3 y4 y5 y6 y7 y8 y9 y10 y11 y12 y13 y14 y15 y16
      unfold ddilaw32_UpstreamChooses.l1
      repeat' first
      | (with_reducible exact ih0 _ _ _ _ _ _ _ _ _ _)
      | (with_reducible exact ih1 _ _ _ _ _ _ _ _ _ _ _ _ _ _ _ _ _)
      | (with_reducible exact ih2 _ _ _ _ _ _ _ _ _ _ _ _)
      | (with_reducible exact ih3 _ _ _ _ _)
      | (with_reducible exact ddilaw32_awake.mono _)
      | (with_reducible exact ddilaw32_play.mono _ _)
      | (with_reducible exact upstream_Find.mono _ _ _ _ _)
      | (with_reducible exact upstream_Good.mono _ _ _ _ _ _)
      | (with_reducible exact upstream_Pick.mono _ _ _ _ _)
      | (with_reducible exact LeO.refl _)
      | (with_reducible exact LeO.none _)
      | (with_reducible refine LeO.ite ?_ ?_)
      | (with_reducible refine LeO.bind ?_ (fun _ => ?_))
      | exact ih0 _ _ _ _ _ _ _ _ _ _
      | exact ih1 _ _ _ _ _ _ _ _ _ _ _ _ _ _ _ _ _
      | exact ih2 _ _ _ _ _ _ _ _ _ _ _ _
      | exact ih3 _ _ _ _ _
      | exact ddilaw32_awake.mono _
      | exact ddilaw32_play.mono _ _
      | exact upstream_Find.mono _ _ _ _ _
      | exact upstream_Good.mono _ _ _ _ _ _
      | exact upstream_Pick.mono _ _ _ _ _
      | exact LeO.none _
      | refine LeO.ite ?_ ?_
      | refine LeO.bind ?_ (fun _ => ?_)
    · intro y0 y1 y2 y3 y4 y5 y6 y7 y8 y9 y10 y11
      unfold ddilaw32_UpstreamChooses.l2
      repeat' first
      | (with_reducible exact ih0 _ _ _ _ _ _ _ _ _ _)
      | (with_reducible exact ih1 _ _ _ _ _ _ _ _ _ _ _ _ _ _ _ _ _)
      | (with_reducible exact ih2 _ _ _ _ _ _ _ _ _ _ _ _)
      | (with_reducible exact ih3 _ _ _ _ _)
      | (with_reducible exact ddilaw32_awake.mono _)
      | (with_reducible exact ddilaw32_play.mono _ _)
      | (with_reducible exact upstream_Find.mono _ _ _ _ _)
      | (with_reducible exact upstream_Good.mono _ _ _ _ _ _)
      | (with_reducible exact upstream_Pick.mono _ _ _ _ _)
      | (with_reducible exact LeO.refl _)
      | (with_reducible exact LeO.none _)
      | (with_reducible refine LeO.ite ?_ ?_)
      | (with_reducible refine LeO.bind ?_ (fun _ => ?_))
      | exact ih0 _ _ _ _ _ _ _ _ _ _
      | exact ih1 _ _ _ _ _ _ _ _ _ _ _ _ _ _ _ _ _
      | exact ih2 _ _ _ _ _ _ _ _ _ _ _ _
      | exact ih3 _ _ _ _ _
      | exact ddilaw32_awake.mono _
      | exact ddilaw32_play.mono _ _
      | exact upstream_Find.mono _ _ _ _ _
      | exact upstream_Good.mono _ _ _ _ _ _
      | exact upstream_Pick.mono _ _ _ _ _
      | exact LeO.none _
      | refine LeO.ite ?_ ?_
      | refine LeO.bind ?_ (fun _ => ?_)
    · intro y0 y1 y2 y3 y4
      unfold ddilaw32_UpstreamChooses.j3
      repeat' first
      | (with_reducible exact ih0 _ _ _ _ _ _ _ _ _ _)
      | (with_reducible exact ih1 _ _ _ _ _ _ _ _ _ _ _ _ _ _ _ _ _)
      | (with_reducible exact ih2 _ _ _ _ _ _ _ _ _ _ _ _)
      | (with_reducible exact ih3 _ _ _ _ _)
      | (with_reducible exact ddilaw32_awake.mono _)
      | (with_reducible exact ddilaw32_play.mono _ _)
      | (with_reducible exact upstream_Find.mono _ _ _ _ _)
      | (with_reducible exact upstream_Good.mono _ _ _ _ _ _)
      | (with_reducible exact upstream_Pick.mono _ _ _ _ _)
      | (with_reducible exact LeO.refl _)
      | (with_reducible exact LeO.none _)
      | (with_reducible refine LeO.ite ?_ ?_)
      | (with_reducible refine LeO.bind ?_ (fun _ => ?_))
      | exact ih0 _ _ _ _ _ _ _ _ _ _
      | exact ih1 _ _ _ _ _ _ _ _ _ _ _ _ _ _ _ _ _
      | exact ih2 _ _ _ _ _ _ _ _ _ _ _ _
      | exact ih3 _ _ _ _ _
      | exact ddilaw32_awake.mono _
      | exact ddilaw32_play.mono _ _
      | exact upstream_Find.mono _ _ _ _ _
      | exact upstream_Good.mono _ _ _ _ _ _
      | exact upstream_Pick.mono _ _ _ _ _
      | exact LeO.none _
      | refine LeO.ite ?_ ?_
      | refine LeO.bind ?_ (fun _ => ?_)
theorem ddilaw32_UpstreamChooses.mono : ∀ a0 a1 a2 a3 k, LeO (ddilaw32_UpstreamChooses.f k a0 a1 a2 a3) (ddilaw32_UpstreamChooses.f (k + 1) a0 a1 a2 a3) := by
  intro a0 a1 a2 a3 k
  obtain ⟨ih0, ih1, ih2, ih3⟩ := ddilaw32_UpstreamChooses.mono_l k
  unfold ddilaw32_UpstreamChooses.f
  repeat' first
      | (with_reducible exact ih0 _ _ _ _ _ _ _ _ _ _)
      | (with_reducible exact ih1 _ _ _ _ _ _ _ _ _ _ _ _ _ _ _ _ _)
      | (with_reducible exact ih2 _ _ _ _ _ _ _ _ _ _ _ _)
      | (with_reducible exact ih3 _ _ _ _ _)
      | (with_reducible exact ddilaw32_awake.mono _)
      | (with_reducible exact ddilaw32_play.mono _ _)
      | (with_reducible exact upstream_Find.mono _ _ _ _ _)
      | (with_reducible exact upstream_Good.mono _ _ _ _ _ _)
      | (with_reducible exact upstream_Pick.mono _ _ _ _ _)
      | (with_reducible exact LeO.refl _)
      | (with_reducible exact LeO.none _)
      | (with_reducible refine LeO.ite ?_ ?_)
      | (with_reducible refine LeO.bind ?_ (fun _ => ?_))
      | exact ih0 _ _ _ _ _ _ _ _ _ _
      | exact ih1 _ _ _ _ _ _ _ _ _ _ _ _ _ _ _ _ _
      | exact ih2 _ _ _ _ _ _ _ _ _ _ _ _
      | exact ih3 _ _ _ _ _
      | exact ddilaw32_awake.mono _
      | exact ddilaw32_play.mono _ _
      | exact upstream_Find.mono _ _ _ _ _
      | exact upstream_Good.mono _ _ _ _ _ _
      | exact upstream_Pick.mono _ _ _ _ _
      | exact LeO.none _
      | refine LeO.ite ?_ ?_
      | refine LeO.bind ?_ (fun _ => ?_)
/-- THE ONE PURE STATEMENT of ddilaw32_UpstreamChooses: ours. -/
def ddilaw32_UpstreamChooses.Pure : Prop := ∀ (l0 : List (S27)) (l1_0 : List (S25)) (l1_1 : List (S25)) (a1_2 : Int), (l0.length * 48 ≤ 140737488351232 ∧ l0.length ≤ maxLen ∧ ∀ y0_ ∈ l0, okS27 y0_) → okS42 (⟨l1_0, l1_1, a1_2⟩ : S42) → ∃ k, ddilaw32_UpstreamChooses.f k l0 l1_0 l1_1 a1_2 = some true
end Go.Proofs.Ytgkpinecggoilaa.QA
