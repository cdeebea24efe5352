-- Written by this session's own program (wip/xprint) out of the translation; Lean checks it.
import Derived.Test.YtonpcojdpfmbkaaDoorQAd1
namespace Go.Proofs.YtonpcojdpfmbkaaDoor.QA
open Go.RowKit Go.Proofs.YtonpcojdpfmbkaaDoorW.PrintWords Go.Proofs.YtonpcojdpfmbkaaDoorW.PrintLast Go.Proofs.YtonpcojdpfmbkaaDoorW.PrintMore
set_option linter.unusedVariables false
mutual
def ddilaw38_LeaseTaken.l0 : Nat → List (S41) → List (S29) → Int → Bool → Int → Bool → Int → Int → ByteArray → ByteArray → Int → Int → Int → Option (Bool)
 | 0,_,_,_,_,_,_,_,_,_,_,_,_,_ => none
 | k + 1,x0,x5,x6,x7,x8,x403000,x403001,x403002,x403003,x403004,x403005,x403006,x403007 => if x8 < (x0.length : Int) then (if 0 ≤ x8 then ((lease_Free.f k x0 ((rd_T41 x0 x8).f0.f0) ((rd_T41 x0 x8).f0.f1) ((rd_T41 x0 x8).f0.f2) x403003 x403006).bind fun t409 => (if t409 = true then (ddilaw38_LeaseTaken.l0 k x0 x5 x6 x7 (wrap64 (x8 + 1)) x403000 x403001 x403002 x403003 x403004 x403005 x403006 x403007) else (if x6 ≥ (x5.length : Int) then (ddilaw38_LeaseTaken.j1 k x0 x5 x6 x7 x8 true x403000 x403001 x403002 x403003 x403004 x403005 x403006 x403007) else (if 0 ≤ x6 then (if x6 < (x5.length : Int) then (ddilaw38_LeaseTaken.j1 k x0 x5 x6 x7 x8 (!(((rd_T29 x5 x6).f0) == ((rd_T41 x0 x8).f0.f0)) || (!(((rd_T29 x5 x6).f1) == ((rd_T41 x0 x8).f0.f1)) || (!(((rd_T29 x5 x6).f2) == ((rd_T41 x0 x8).f0.f2))))) x403000 x403001 x403002 x403003 x403004 x403005 x403006 x403007) else (none)) else (none))))) else (none)) else ((lease_Offer.f k x0 x403000 x403001 x403002 x403003 x403006 x403007).bind fun bt413 => (if x6 = (x5.length : Int) then ((lease_Free.f k x0 x403000 x403001 x403002 x403003 x403006).bind fun t417 => (ddilaw38_LeaseTaken.j2 k x0 x7 bt413.2 (x7 == t417) x403000 x403001 x403002 x403003 x403004 x403005 x403006 x403007)) else (ddilaw38_LeaseTaken.j2 k x0 x7 bt413.2 true x403000 x403001 x403002 x403003 x403004 x403005 x403006 x403007)))
def ddilaw38_LeaseTaken.j1 : Nat → List (S41) → List (S29) → Int → Bool → Int → Bool → Bool → Int → Int → ByteArray → ByteArray → Int → Int → Int → Option (Bool)
 | 0,_,_,_,_,_,_,_,_,_,_,_,_,_,_ => none
 | k + 1,x0,x5,x6,x7,x8,x53,x403000,x403001,x403002,x403003,x403004,x403005,x403006,x403007 => if x53 = true then (some false) else (if x7 = true then (ddilaw38_LeaseTaken.l0 k x0 x5 (wrap64 (x6 + 1)) true (wrap64 (x8 + 1)) x403000 x403001 x403002 x403003 x403004 x403005 x403006 x403007) else (if 0 ≤ x8 then (if x8 < (x0.length : Int) then (ddilaw38_LeaseTaken.l0 k x0 x5 (wrap64 (x6 + 1)) (((rd_T41 x0 x8).f0.f0) == x403000 && (((rd_T41 x0 x8).f0.f1) == x403001 && (((rd_T41 x0 x8).f0.f2) == x403002))) (wrap64 (x8 + 1)) x403000 x403001 x403002 x403003 x403004 x403005 x403006 x403007) else (none)) else (none)))
def ddilaw38_LeaseTaken.j2 : Nat → List (S41) → Bool → Int → Bool → Bool → Int → Int → ByteArray → ByteArray → Int → Int → Int → Option (Bool)
 | 0,_,_,_,_,_,_,_,_,_,_,_,_ => none
 | k + 1,x0,x7,x10,x95,x403000,x403001,x403002,x403003,x403004,x403005,x403006,x403007 => if x95 = true then (some false) else ((addr_Valid.f x403000 x403001 x403002).bind fun t418 => (if t418 = true then (if x403007 < 1 then (ddilaw38_LeaseTaken.j3 k x0 x7 x10 true) else (if x403006 < 0 then (ddilaw38_LeaseTaken.j3 k x0 x7 x10 true) else (if x403006 > 4294967295 then (ddilaw38_LeaseTaken.j3 k x0 x7 x10 true) else ((ddiref38_Client.f k x403003).bind fun t420 => (ddilaw38_LeaseTaken.j3 k x0 x7 x10 (!t420)))))) else (if x10 = 3 then ((ddilaw38_awake.f k).bind fun t419 => (some t419)) else (some false))))
def ddilaw38_LeaseTaken.j3 : Nat → List (S41) → Bool → Int → Bool → Option (Bool)
 | 0,_,_,_,_ => none
 | k + 1,x0,x7,x10,x123 => if x123 = true then (if x10 = 1 then ((ddilaw38_awake.f k).bind fun t421 => (some t421)) else (some false)) else (if x7 = true then (if x10 = 23 then ((ddilaw38_awake.f k).bind fun t422 => (some t422)) else (some false)) else (if x10 = 0 then ((ddilaw38_awake.f k).bind fun t423 => (some t423)) else (if x10 = 9 then (if (x0.length : Int) = 512 then ((ddilaw38_awake.f k).bind fun t424 => (some t424)) else (some false)) else (some false))))
end
def ddilaw38_LeaseTaken.f (k : Nat) (l0 : List (S41)) (a1_0 : Bool) (a1_1 : Int) (a1_2 : Int) (a1_3 : ByteArray) (a1_4 : ByteArray) (a1_5 : Int) (a1_6 : Int) (a1_7 : Int) : Option (Bool) := (lease_Check.f k l0).bind fun t403 => (if t403 = 0 then ((lease_Taken.f k l0 a1_3 a1_6).bind fun t405 => (ddilaw38_LeaseTaken.l0 k l0 t405 0 false 0 a1_0 a1_1 a1_2 a1_3 a1_4 a1_5 a1_6 a1_7)) else ((ddilaw38_awake.f k).bind fun t404 => (some t404)))
theorem ddilaw38_LeaseTaken.mono_l : ∀ k,(∀ y0 y1 y2 y3 y4 y5 y6 y7 y8 y9 y10 y11 y12,LeO (ddilaw38_LeaseTaken.l0 k y0 y1 y2 y3 y4 y5 y6 y7 y8 y9 y10 y11 y12) (ddilaw38_LeaseTaken.l0 (k + 1) y0 y1 y2 y3 y4 y5 y6 y7 y8 y9 y10 y11 y12)) ∧ (∀ y0 y1 y2 y3 y4 y5 y6 y7 y8 y9 y10 y11 y12 y13,LeO (ddilaw38_LeaseTaken.j1 k y0 y1 y2 y3 y4 y5 y6 y7 y8 y9 y10 y11 y12 y13) (ddilaw38_LeaseTaken.j1 (k + 1) y0 y1 y2 y3 y4 y5 y6 y7 y8 y9 y10 y11 y12 y13)) ∧ (∀ y0 y1 y2 y3 y4 y5 y6 y7 y8 y9 y10 y11,LeO (ddilaw38_LeaseTaken.j2 k y0 y1 y2 y3 y4 y5 y6 y7 y8 y9 y10 y11) (ddilaw38_LeaseTaken.j2 (k + 1) y0 y1 y2 y3 y4 y5 y6 y7 y8 y9 y10 y11)) ∧ (∀ y0 y1 y2 y3,LeO (ddilaw38_LeaseTaken.j3 k y0 y1 y2 y3) (ddilaw38_LeaseTaken.j3 (k + 1) y0 y1 y2 y3))
 | 0 => ⟨fun _ _ _ _ _ _ _ _ _ _ _ _ _ r h => by simp [ddilaw38_LeaseTaken.l0] at h,fun _ _ _ _ _ _ _ _ _ _ _ _ _ _ r h => by simp [ddilaw38_LeaseTaken.j1] at h,fun _ _ _ _ _ _ _ _ _ _ _ _ r h => by simp [ddilaw38_LeaseTaken.j2] at h,fun _ _ _ _ r h => by simp [ddilaw38_LeaseTaken.j3] at h⟩
 | k + 1 => by
  obtain ⟨ih0,ih1,ih2,ih3⟩ := ddilaw38_LeaseTaken.mono_l k
  refine ⟨?_,?_,?_,?_⟩
  ·intro y0 y1 y2 y3 y4 y5 y6 y7 y8 y9 y10 y11 y12
   unfold ddilaw38_LeaseTaken.l0
   repeat' first
   | (with_reducible exact ih0 _ _ _ _ _ _ _ _ _ _ _ _ _)
   | (with_reducible exact ih1 _ _ _ _ _ _ _ _ _ _ _ _ _ _)
   | (with_reducible exact ih2 _ _ _ _ _ _ _ _ _ _ _ _)
   | (with_reducible exact ih3 _ _ _ _)
   | (with_reducible exact ddilaw38_awake.mono _)
   | (with_reducible exact ddiref38_Client.mono _ _)
   | (with_reducible exact lease_Check.mono _ _)
   | (with_reducible exact lease_Free.mono _ _ _ _ _ _ _)
   | (with_reducible exact lease_Offer.mono _ _ _ _ _ _ _ _)
   | (with_reducible exact lease_Taken.mono _ _ _ _)
   | (with_reducible exact LeO.refl _)
   | (with_reducible exact LeO.none _)
   | (with_reducible refine LeO.ite ?_ ?_)
   | (with_reducible refine LeO.bind ?_ (fun _ => ?_))
  ·intro y0 y1 y2 y3 y4 y5 y6 y7 y8 y9 y10 y11 y12 y13
   unfold ddilaw38_LeaseTaken.j1
   repeat' first
   | (with_reducible exact ih0 _ _ _ _ _ _ _ _ _ _ _ _ _)
   | (with_reducible exact ih1 _ _ _ _ _ _ _ _ _ _ _ _ _ _)
   | (with_reducible exact ih2 _ _ _ _ _ _ _ _ _ _ _ _)
   | (with_reducible exact ih3 _ _ _ _)
   | (with_reducible exact ddilaw38_awake.mono _)
   | (with_reducible exact ddiref38_Client.mono _ _)
   | (with_reducible exact lease_Check.mono _ _)
   | (with_reducible exact lease_Free.mono _ _ _ _ _ _ _)
   | (with_reducible exact lease_Offer.mono _ _ _ _ _ _ _ _)
   | (with_reducible exact lease_Taken.mono _ _ _ _)
   | (with_reducible exact LeO.refl _)
   | (with_reducible exact LeO.none _)
   | (with_reducible refine LeO.ite ?_ ?_)
   | (with_reducible refine LeO.bind ?_ (fun _ => ?_))
  ·intro y0 y1 y2 y3 y4 y5 y6 y7 y8 y9 y10 y11
   unfold ddilaw38_LeaseTaken.j2
   repeat' first
   | (with_reducible exact ih0 _ _ _ _ _ _ _ _ _ _ _ _ _)
   | (with_reducible exact ih1 _ _ _ _ _ _ _ _ _ _ _ _ _ _)
   | (with_reducible exact ih2 _ _ _ _ _ _ _ _ _ _ _ _)
   | (with_reducible exact ih3 _ _ _ _)
   | (with_reducible exact ddilaw38_awake.mono _)
   | (with_reducible exact ddiref38_Client.mono _ _)
   | (with_reducible exact lease_Check.mono _ _)
   | (with_reducible exact lease_Free.mono _ _ _ _ _ _ _)
   | (with_reducible exact lease_Offer.mono _ _ _ _ _ _ _ _)
   | (with_reducible exact lease_Taken.mono _ _ _ _)
   | (with_reducible exact LeO.refl _)
   | (with_reducible exact LeO.none _)
   | (with_reducible refine LeO.ite ?_ ?_)
   | (with_reducible refine LeO.bind ?_ (fun _ => ?_))
  ·intro y0 y1 y2 y3
   unfold ddilaw38_LeaseTaken.j3
   repeat' first
   | (with_reducible exact ih0 _ _ _ _ _ _ _ _ _ _ _ _ _)
   | (with_reducible exact ih1 _ _ _ _ _ _ _ _ _ _ _ _ _ _)
   | (with_reducible exact ih2 _ _ _ _ _ _ _ _ _ _ _ _)
   | (with_reducible exact ih3 _ _ _ _)
   | (with_reducible exact ddilaw38_awake.mono _)
   | (with_reducible exact ddiref38_Client.mono _ _)
   | (with_reducible exact lease_Check.mono _ _)
   | (with_reducible exact lease_Free.mono _ _ _ _ _ _ _)
   | (with_reducible exact lease_Offer.mono _ _ _ _ _ _ _ _)
   | (with_reducible exact lease_Taken.mono _ _ _ _)
   | (with_reducible exact LeO.refl _)
   | (with_reducible exact LeO.none _)
   | (with_reducible refine LeO.ite ?_ ?_)
   | (with_reducible refine LeO.bind ?_ (fun _ => ?_))
theorem ddilaw38_LeaseTaken.mono : ∀ a0 a1 a2 a3 a4 a5 a6 a7 a8 k,LeO (ddilaw38_LeaseTaken.f k a0 a1 a2 a3 a4 a5 a6 a7 a8) (ddilaw38_LeaseTaken.f (k + 1) a0 a1 a2 a3 a4 a5 a6 a7 a8) := by
 intro a0 a1 a2 a3 a4 a5 a6 a7 a8 k
 obtain ⟨ih0,ih1,ih2,ih3⟩ := ddilaw38_LeaseTaken.mono_l k
 unfold ddilaw38_LeaseTaken.f
 repeat' first
   | (with_reducible exact ih0 _ _ _ _ _ _ _ _ _ _ _ _ _)
   | (with_reducible exact ih1 _ _ _ _ _ _ _ _ _ _ _ _ _ _)
   | (with_reducible exact ih2 _ _ _ _ _ _ _ _ _ _ _ _)
   | (with_reducible exact ih3 _ _ _ _)
   | (with_reducible exact ddilaw38_awake.mono _)
   | (with_reducible exact ddiref38_Client.mono _ _)
   | (with_reducible exact lease_Check.mono _ _)
   | (with_reducible exact lease_Free.mono _ _ _ _ _ _ _)
   | (with_reducible exact lease_Offer.mono _ _ _ _ _ _ _ _)
   | (with_reducible exact lease_Taken.mono _ _ _ _)
   | (with_reducible exact LeO.refl _)
   | (with_reducible exact LeO.none _)
   | (with_reducible refine LeO.ite ?_ ?_)
   | (with_reducible refine LeO.bind ?_ (fun _ => ?_))
/-- THE ONE PURE STATEMENT of ddilaw38_LeaseTaken: ours. -/
def ddilaw38_LeaseTaken.Pure : Prop := ∀ (l0 : List (S41)) (a1_0 : Bool) (a1_1 : Int) (a1_2 : Int) (a1_3 : ByteArray) (a1_4 : ByteArray) (a1_5 : Int) (a1_6 : Int) (a1_7 : Int),(l0.length * 88 ≤ 140737488351232 ∧ l0.length ≤ maxLen ∧ ∀ y0_ ∈ l0,okS41 y0_) → okS31 (⟨(⟨a1_0,a1_1,a1_2⟩ : S29),a1_3,a1_4,a1_5,a1_6,a1_7⟩ : S31) → ∃ k,ddilaw38_LeaseTaken.f k l0 a1_0 a1_1 a1_2 a1_3 a1_4 a1_5 a1_6 a1_7 = some true
end Go.Proofs.YtonpcojdpfmbkaaDoor.QA
