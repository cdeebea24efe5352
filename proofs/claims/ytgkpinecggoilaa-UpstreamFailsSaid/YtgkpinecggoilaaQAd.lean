-- Written by this session's own program (wip/xprint) out of the translation; Lean checks it.
import Derived.Test.YtgkpinecggoilaaQAd5
namespace Go.Proofs.Ytgkpinecggoilaa.QA
open Go.RowKit Go.Proofs.YtgkpinecggoilaaW.PrintWords Go.Proofs.YtgkpinecggoilaaW.PrintLast Go.Proofs.YtgkpinecggoilaaW.PrintMore
set_option linter.unusedVariables false

def ddilaw32_peers.l0 : Nat → List (S34) → List (S35) → Int → Int → Option ((List (S34)))
  | 0, _, _, _, _ => none
  | k + 1, x3, x6, x7, x8 => if x8 < x7 then (if 0 ≤ x8 then (if x8 < (x6.length : Int) then (if x3.length < 2932031007402 then (ddilaw32_peers.l0 k (x3 ++ [(⟨(⟨(rd_T35 x6 x8).f0.f0, (rd_T35 x6 x8).f0.f1, (rd_T35 x6 x8).f0.f2⟩ : S25), (rd_T35 x6 x8).f1, (rd_T35 x6 x8).f2, (rd_T35 x6 x8).f3⟩ : S34)]) x6 x7 (wrap64 (x8 + 1))) else (none)) else (none)) else (none)) else (some x3)
def ddilaw32_peers.f (k : Nat) (l0 : List (S35)) : Option ((List (S34))) := ddilaw32_peers.l0 k ([] : List (S34)) l0 (l0.length : Int) 0
theorem ddilaw32_peers.mono_l : ∀ k, (∀ y0 y1 y2 y3, LeO (ddilaw32_peers.l0 k y0 y1 y2 y3) (ddilaw32_peers.l0 (k + 1) y0 y1 y2 y3))
  | 0 => fun _ _ _ _ r h => by simp [ddilaw32_peers.l0] at h
  | k + 1 => by
    have ih0 := ddilaw32_peers.mono_l k
    · intro y0 y1 y2 y3
      unfold ddilaw32_peers.l0
      repeat' first
      | (with_reducible exact ih0 _ _ _ _)
      | (with_reducible exact LeO.refl _)
      | (with_reducible exact LeO.none _)
      | (with_reducible refine LeO.ite ?_ ?_)
      | (with_reducible refine LeO.bind ?_ (fun _ => ?_))
      | exact ih0 _ _ _ _
      | exact LeO.none _
      | refine LeO.ite ?_ ?_
      | refine LeO.bind ?_ (fun _ => ?_)
theorem ddilaw32_peers.mono : ∀ a0 k, LeO (ddilaw32_peers.f k a0) (ddilaw32_peers.f (k + 1) a0) := by
  intro a0 k
  have ih0 := ddilaw32_peers.mono_l k
  unfold ddilaw32_peers.f
  repeat' first
      | (with_reducible exact ih0 _ _ _ _)
      | (with_reducible exact LeO.refl _)
      | (with_reducible exact LeO.none _)
      | (with_reducible refine LeO.ite ?_ ?_)
      | (with_reducible refine LeO.bind ?_ (fun _ => ?_))
      | exact ih0 _ _ _ _
      | exact LeO.none _
      | refine LeO.ite ?_ ?_
      | refine LeO.bind ?_ (fun _ => ?_)
mutual
def ddilaw32_UpstreamFails.l0 : Nat → Int → List (S35) → Int → Int → Int → Bool → Int → Int → Option (Bool)
  | 0, _, _, _, _, _, _, _, _ => none
  | k + 1, x1, x7, x8, x9, x10, x551000, x551001, x551002 => if x10 ≤ (wrap64 (Int.tmod x1 12)) then ((upstream_Bad.f k x7 x551000 x551001 x551002 x9).bind fun t551 => ((upstream_Find.f k t551 x551000 x551001 x551002).bind fun bt554 => (if (t551.length : Int) = 1 then (if bt554.2.2.2.2.2 = (wrap64 (x9 + (mn (wrap64 (2 * x8)) 320))) then (if bt554.2.2.2.2.1 = (mn (wrap64 (x10 + 1)) 6) then (ddilaw32_UpstreamFails.j1 k x1 t551 (mn (wrap64 (2 * x8)) 320) x9 x10 (bt554.2.2.2.1 != 2) x551000 x551001 x551002) else (ddilaw32_UpstreamFails.j1 k x1 t551 (mn (wrap64 (2 * x8)) 320) x9 x10 true x551000 x551001 x551002)) else (ddilaw32_UpstreamFails.j1 k x1 t551 (mn (wrap64 (2 * x8)) 320) x9 x10 true x551000 x551001 x551002)) else (ddilaw32_UpstreamFails.j1 k x1 t551 (mn (wrap64 (2 * x8)) 320) x9 x10 true x551000 x551001 x551002)))) else ((upstream_Good.f k x7 x551000 x551001 x551002 2).bind fun t561 => (if (t561.length : Int) = 1 then (if 0 < (t561.length : Int) then (if ((((rd_T35 t561 0).f0.f0) == x551000 && (((rd_T35 t561 0).f0.f1) == x551001 && (((rd_T35 t561 0).f0.f2) == x551002))) && (((rd_T35 t561 0).f1) == 2 && (((rd_T35 t561 0).f2) == 0 && (((rd_T35 t561 0).f3) == 0)))) = true then ((ddilaw32_peers.f k t561).bind fun t565 => (if (t565.length : Int) = 1 then ((ddilaw32_awake.f k).bind fun t568 => (some t568)) else (some false))) else (some false)) else (none)) else (some false)))
def ddilaw32_UpstreamFails.j1 : Nat → Int → List (S35) → Int → Int → Int → Bool → Bool → Int → Int → Option (Bool)
  | 0, _, _, _, _, _, _, _, _, _ => none
  | k + 1, x1, x7, x8, x9, x10, x55, x551000, x551001, x551002 => if x55 = true then (some false) else (ddilaw32_UpstreamFails.l0 k x1 x7 x8 x9 (wrap64 (x10 + 1)) x551000 x551001 x551002)
end
def ddilaw32_UpstreamFails.f (k : Nat) (a0_0 : Bool) (a0_1 : Int) (a0_2 : Int) (a1 : Int) (a2 : Int) : Option (Bool) := ddilaw32_UpstreamFails.l0 k a1 ([] : List (S35)) 5 (wrap64 (Int.tdiv (wrap64 (a2)) 2)) 0 a0_0 a0_1 a0_2
theorem ddilaw32_UpstreamFails.mono_l : ∀ k, (∀ y0 y1 y2 y3 y4 y5 y6 y7, LeO (ddilaw32_UpstreamFails.l0 k y0 y1 y2 y3 y4 y5 y6 y7) (ddilaw32_UpstreamFails.l0 (k + 1) y0 y1 y2 y3 y4 y5 y6 y7)) ∧ (∀ y0 y1 y2 y3 y4 y5 y6 y7 y8, LeO (ddilaw32_UpstreamFails.j1 k y0 y1 y2 y3 y4 y5 y6 y7 y8) (ddilaw32_UpstreamFails.j1 (k + 1) y0 y1 y2 y3 y4 y5 y6 y7 y8))
  | 0 => ⟨fun _ _ _ _ _ _ _ _ r h => by simp [ddilaw32_UpstreamFails.l0] at h, fun _ _ _ _ _ _ _ _ _ r h => by simp [ddilaw32_UpstreamFails.j1] at h⟩
  | k + 1 => by
    obtain ⟨ih0, ih1⟩ := ddilaw32_UpstreamFails.mono_l k
    refine ⟨?_, ?_⟩
    · intro y0 y1 y2 y3 y4 y5 y6 y7
      unfold ddilaw32_UpstreamFails.l0
      repeat' first
      | (with_reducible exact ih0 _ _ _ _ _ _ _ _)
      | (with_reducible exact ih1 _ _ _ _ _ _ _ _ _)
      | (with_reducible exact ddilaw32_awake.mono _)
      | (with_reducible exact ddilaw32_peers.mono _ _)
      | (with_reducible exact upstream_Bad.mono _ _ _ _ _ _)
      | (with_reducible exact upstream_Find.mono _ _ _ _ _)
      | (with_reducible exact upstream_Good.mono _ _ _ _ _ _)
      | (with_reducible exact LeO.refl _)
      | (with_reducible exact LeO.none _)
      | (with_reducible refine LeO.ite ?_ ?_)
      | (with_reducible refine LeO.bind ?_ (fun _ => ?_))
      | exact ih0 _ _ _ _ _ _ _ _
      | exact ih1 _ _ _ _ _ _ _ _ _
      | exact ddilaw32_awake.mono _
      | exact ddilaw32_peers.mono _ _
      | exact upstream_Bad.mono _ _ _ _ _ _
      | exact upstream_Find.mono _ _ _ _ _
      | exact upstream_Good.mono _ _ _ _ _ _
      | exact LeO.none _
      | refine LeO.ite ?_ ?_
      | refine LeO.bind ?_ (fun _ => ?_)
    · intro y0 y1 y2 y3 y4 y5 y6 y7 y8
      unfold ddilaw32_UpstreamFails.j1
      repeat' first
      | (with_reducible exact ih0 _ _ _ _ _ _ _ _)
      | (with_reducible exact ih1 _ _ _ _ _ _ _ _ _)
      | (with_reducible exact ddilaw32_awake.mono _)
      | (with_reducible exact ddilaw32_peers.mono _ _)
      | (with_reducible exact upstream_Bad.mono _ _ _ _ _ _)
      | (with_reducible exact upstream_Find.mono _ _ _ _ _)
      | (with_reducible exact upstream_Good.mono _ _ _ _ _ _)
      | (with_reducible exact LeO.refl _)
      | (with_reducible exact LeO.none _)
      | (with_reducible refine LeO.ite ?_ ?_)
      | (with_reducible refine LeO.bind ?_ (fun _ => ?_))
      | exact ih0 _ _ _ _ _ _ _ _
      | exact ih1 _ _ _ _ _ _ _ _ _
      | exact ddilaw32_awake.mono _
      | exact ddilaw32_peers.mono _ _
      | exact upstream_Bad.mono _ _ _ _ _ _
      | exact upstream_Find.mono _ _ _ _ _
      | exact upstream_Good.mono _ _ _ _ _ _
      | exact LeO.none _
      | refine LeO.ite ?_ ?_
      | refine LeO.bind ?_ (fun _ => ?_)
theorem ddilaw32_UpstreamFails.mono : ∀ a0 a1 a2 a3 a4 k, LeO (ddilaw32_UpstreamFails.f k a0 a1 a2 a3 a4) (ddilaw32_UpstreamFails.f (k + 1) a0 a1 a2 a3 a4) := by
  intro a0 a1 a2 a3 a4 k
  obtain ⟨ih0, ih1⟩ := ddilaw32_UpstreamFails.mono_l k
  unfold ddilaw32_UpstreamFails.f
  repeat' first
      | (with_reducible exact ih0 _ _ _ _ _ _ _ _)
      | (with_reducible exact ih1 _ _ _ _ _ _ _ _ _)
      | (with_reducible exact ddilaw32_awake.mono _)
      | (with_reducible exact ddilaw32_peers.mono _ _)
      | (with_reducible exact upstream_Bad.mono _ _ _ _ _ _)
      | (with_reducible exact upstream_Find.mono _ _ _ _ _)
      | (with_reducible exact upstream_Good.mono _ _ _ _ _ _)
      | (with_reducible exact LeO.refl _)
      | (with_reducible exact LeO.none _)
      | (with_reducible refine LeO.ite ?_ ?_)
      | (with_reducible refine LeO.bind ?_ (fun _ => ?_))
      | exact ih0 _ _ _ _ _ _ _ _
      | exact ih1 _ _ _ _ _ _ _ _ _
      | exact ddilaw32_awake.mono _
      | exact ddilaw32_peers.mono _ _
      | exact upstream_Bad.mono _ _ _ _ _ _
      | exact upstream_Find.mono _ _ _ _ _
      | exact upstream_Good.mono _ _ _ _ _ _
      | exact LeO.none _
      | refine LeO.ite ?_ ?_
      | refine LeO.bind ?_ (fun _ => ?_)
/-- THE ONE PURE STATEMENT of ddilaw32_UpstreamFails: ours. -/
def ddilaw32_UpstreamFails.Pure : Prop := ∀ (a0_0 : Bool) (a0_1 : Int) (a0_2 : Int) (a1 : Int) (a2 : Int), okS25 (⟨a0_0, a0_1, a0_2⟩ : S25) → (Lit.int .u8 a1).wf = true → (Lit.int .u32 a2).wf = true → ∃ k, ddilaw32_UpstreamFails.f k a0_0 a0_1 a0_2 a1 a2 = some true
end Go.Proofs.Ytgkpinecggoilaa.QA
