import Derived.Test.YtpcjablkjaiapaaDoorQAxo
import Derived.Test.YtpcjablkjaiapaaDoorCards
import Derived.Test.YtpcjablkjaiapaaDoorTie
import Derived.Test.YtpcjablkjaiapaaDoorRows
import Derived.Test.YtpcjablkjaiapaaDoorXO
import Derived.Test.YtpcjablkjaiapaaDoorQAx50
import Derived.Test.YtpcjablkjaiapaaDoorPureFailoverApart
import Derived.SevenTiedAt
import Derived.Lay
import Derived.MakeChecks
import Derived.LaidHandle
import Derived.WalkKit
import Derived.ProofKit
import Derived.OpenShut
import Derived.ShutString
import Derived.ChangeOld
import Derived.Below
import Derived.SizedLaws
import Derived.Carry
-- Written by this session's own program (wip/xprint) out of the translation; Lean checks it.
namespace Go.Proofs.YtpcjablkjaiapaaDoor.failoverApart
open Go.ChangeShapes Go.WideShapes Go.ChangeAt Go.RowKit
open Go.ChangeMaps (open_string shut_string)
open Go.Proofs.YtpcjablkjaiapaaDoor.QA
set_option linter.unusedVariables false
theorem own : ownKnob Tryd.prog.godebug = none := by kernel_rfl
theorem laidOut : laidOutB Tryd.prog = true := by kernel_rfl
set_option maxRecDepth 100000
theorem met (os : Os) (args : Array Value) : laidMetH Tryd.prog Rows.failoverApartRow.laid ((World.laidAll Tryd.prog os Rows.failoverApartRow.laid).forCall (fun _ _ => 0) ⟨#[], args, []⟩).memory := by
  rw [MakeChecks.laidMetH_plain _ _ _ (by kernel_rfl)]
  exact laidMet_laidAll _ (by kernel_rfl) (by kernel_rfl)
theorem shaped (os : Os) (args : Array Value) : ((World.laidAll Tryd.prog os Rows.failoverApartRow.laid).forCall (fun _ _ => 0) ⟨#[], args, []⟩).Shaped Tryd.prog := World.shaped_of_ZipB (by kernel_rfl) (by kernel_rfl)
set_option maxRecDepth 100000 in
theorem lifted (os : Os) (started : os.Started) (H : Type) (enc : TypeId × Value → H) :
    ReturnsInHanded {} Tryd.checked os 5 .any (fun w args => (Rows.failoverApartSpec.pre enc Tryd.prog Tryd.f5 Rows.failoverApartRow.domain false w args ∧ laidMetH Tryd.prog Rows.failoverApartRow.laid w) ∧ sizedMet enc Tryd.prog Tryd.f5 (OpenSpec.ofChange Rows.failoverApartSpec) false w args) (Rows.failoverApartSpec.post enc Tryd.prog Tryd.f5 false true false false) := by
  refine returnsInHanded_of_change_and (C := Tryd.checked) (X := fun w _ => laidMetH Tryd.prog Rows.failoverApartRow.laid w) (fun _ _ _ hh h => h.of_heap hh) own started (by kernel_rfl) Tryd.func5
    (ChangeSpec.witness_shaped (enc := enc) (C := Tryd.checked) (os := os) (X := fun w _ => laidMetH Tryd.prog Rows.failoverApartRow.laid w) false (World.laidAll Tryd.prog os Rows.failoverApartRow.laid) #[.agg #[.bool false, .int .i64 0, .int .i64 0, .int .i64 0], .agg #[.bool false, .int .i64 0, .int .i64 0, .int .i64 0], .agg #[.bool false, .int .u64 0, .int .u64 0, .int .i64 0, .string ByteArray.empty, .slice none 0 0, .slice none 0 0, .slice none 0 0, .int .i64 0], .agg #[.bool false, .int .u64 0, .int .u64 0, .int .i64 0]] 8 (World.laidAll_os _ _ _) (shaped os _) (by kernel_rfl) (by kernel_rfl) (by kernel_rfl) (met os _)) ?_
  intro W base args ds gs before hval0 hW hcnd hsz0 _ _
  have hsz : (DataW.weightsEach Tryd.prog (Tryd.f5.params.toList ++ Rows.failoverApartSpec.plain.varTypes Tryd.prog) (ds ++ gs)).all (· ≤ reachBytes) = true := hsz0
  have hval : ∀ (j : Nat) t v, Tryd.f5.params[j]? = some t → args[j]? = some v → Value.okWide Tryd.prog W .any base t v := hval0
  have hW' := hW
  obtain ⟨p, q, hA0, hV, rfl, hfz, hnd⟩ := hW
  have hA : DataW.TrodAll enc Tryd.prog W 0 (fun _ => true) true Tryd.f5.params.toList args.toList ds p := hA0
  rw [Tryd.params5] at hA hval hsz
  obtain ⟨v0, vs0, d0, ds0, p0, q0, hargs, rfl, rfl, h0, r0⟩ := trodAll_cons hA
  obtain ⟨v1, vs1, d1, ds1, p1, q1, rfl, rfl, rfl, h1, r1⟩ := trodAll_cons r0
  obtain ⟨v2, vs2, d2, ds2, p2, q2, rfl, rfl, rfl, h2, r2⟩ := trodAll_cons r1
  obtain ⟨v3, vs3, d3, ds3, p3, q3, rfl, rfl, rfl, h3, r3⟩ := trodAll_cons r2
  obtain ⟨rfl, rfl, rfl⟩ := trodAll_nil r3
  obtain rfl : args = #[v0, v1, v2, v3] := by cases args; simp_all
  obtain ⟨rfl, rfl⟩ := trodVars_none hV
  have k0 := h0
  have lt0 : ∀ x ∈ p0, x.block < W.heap.size := by obtain ⟨m, hm⟩ := k0; exact DataW.trod_lt m _ _ _ hm
  have z0 := XO.weights_of hsz (j := 0) (t := 37) rfl rfl
  obtain ⟨cs0, b0, rfl, hK0, w0⟩ := XO.open_struct oS37 Tryd.underlying37 (hval 0 37 v0 rfl rfl) h0 z0
  obtain rfl := k37_open hK0
  have k1 := h1
  have lt1 : ∀ x ∈ p1, x.block < W.heap.size := by obtain ⟨m, hm⟩ := k1; exact DataW.trod_lt m _ _ _ hm
  have z1 := XO.weights_of hsz (j := 1) (t := 37) rfl rfl
  obtain ⟨cs1, b1, rfl, hK1, w1⟩ := XO.open_struct oS37 Tryd.underlying37 (hval 1 37 v1 rfl rfl) h1 z1
  obtain rfl := k37_open hK1
  have k2 := h2
  have lt2 : ∀ x ∈ p2, x.block < W.heap.size := by obtain ⟨m, hm⟩ := k2; exact DataW.trod_lt m _ _ _ hm
  have z2 := XO.weights_of hsz (j := 2) (t := 46) rfl rfl
  obtain ⟨cs2, b2, rfl, hK2, w2⟩ := XO.open_struct oS46 Tryd.underlying46 (hval 2 46 v2 rfl rfl) h2 z2
  obtain ⟨A2_5, c2_5, A2_6, c2_6, A2_7, c2_7, rfl, hc2_5, hr2_5, hc2_6, hr2_6, hc2_7, hr2_7⟩ := k46_open hK2
  have k3 := h3
  have lt3 : ∀ x ∈ p3, x.block < W.heap.size := by obtain ⟨m, hm⟩ := k3; exact DataW.trod_lt m _ _ _ hm
  have z3 := XO.weights_of hsz (j := 3) (t := 48) rfl rfl
  obtain ⟨cs3, b3, rfl, hK3, w3⟩ := XO.open_struct oS48 Tryd.underlying48 (hval 3 48 v3 rfl rfl) h3 z3
  obtain rfl := k48_open hK3
  clear hA0 hval0 hsz0 hsz
  refine (QA.ddilaw44_FailoverApart.walk Pure.FailoverApart b0.f0 b0.f1 b0.f2 b0.f3 b1.f0 b1.f1 b1.f2 b1.f3 b2.f0.f0.f0 b2.f0.f0.f1 b2.f0.f0.f2 b2.f0.f1 b2.f1 A2_5 c2_5 b2.f2 A2_6 c2_6 b2.f3 A2_7 c2_7 b2.f4 b2.f5 b3.f0.f0 b3.f0.f1 b3.f0.f2 b3.f1 W hr2_5 hc2_5 hr2_6 hc2_6 hr2_7 hc2_7 w0 w1 w2 w3).mono fun e W' ⟨he, bel⟩ => ?_
  subst he
  exact ⟨_, rfl, _, _, _, [], _, [], hW', trodAll_mk1 (shut_bool Tryd.underlying4 _), (trodAll_cons_mk (Below.trod laidOut (by kernel_rfl) (of_decide_eq_true (by kernel_rfl)) k0 bel lt0) (trodAll_cons_mk (Below.trod laidOut (by kernel_rfl) (of_decide_eq_true (by kernel_rfl)) k1 bel lt1) (trodAll_cons_mk (Below.trod laidOut (by kernel_rfl) (of_decide_eq_true (by kernel_rfl)) k2 bel lt2) (trodAll_cons_mk (Below.trod laidOut (by kernel_rfl) (of_decide_eq_true (by kernel_rfl)) k3 bel lt3) trodAll_mk0)))), rfl, bel.frame _, fun h => by cases h⟩
theorem over : Rows.failoverApartRow.holds Tryd.pinned (OpenSpec.ofChange Rows.failoverApartSpec) :=
  OpenClaim.holds_of_wide 5 Tryd.f5 rfl rfl rfl rfl rfl rfl rfl ⟨rfl, rfl, rfl, rfl, rfl⟩ rfl rfl rfl rfl rfl (by kernel_rfl) Tryd.func5 (by kernel_rfl)
    (of_decide_eq_true (by kernel_rfl)) (by unfold Func.isWrapper; first | (rw [if_pos (by decide +kernel)]; kernel_rfl) | (rw [if_neg (by decide +kernel)]; exact ⟨rfl, rfl⟩))
    (fun os started H enc _ => lifted os started H enc)
theorem proved : Rows.FailoverApartCardSaid :=
  Claim7.holds_tied_plain_at .later [] [.data, .pinned] true (true, "aa8044f9b76838f6e8a00eb3e9055ef060b9e28e7db4643b466088c4dbcc1e0f") false
    over (fun _ h => by cases h) (by kernel_rfl) (fun _ h => by cases h) failoverApart_row_tie rfl ⟨rfl, rfl⟩ (by kernel_rfl) rfl
    (fun f fn hf hfn => by
      obtain rfl : f = 5 := Option.some.inj ((show Tryd.prog.funcNamed "ddi/ddilaw44.FailoverApart" = some 5 by kernel_rfl).symm.trans hf) |>.symm
      obtain rfl : fn = Tryd.f5 := (Option.some.inj (Tryd.func5.symm.trans hfn)).symm
      exact ⟨by kernel_rfl, fun j t ht => by
        rw [Tryd.params5] at ht
        rcases j with _ | _ | _ | _ | j
        · have h3 : t = 37 := by simpa using ht.symm
          subst h3
          exact (show Tryd.prog.wantsStandIn 37 = false by kernel_rfl)
        · have h3 : t = 37 := by simpa using ht.symm
          subst h3
          exact (show Tryd.prog.wantsStandIn 37 = false by kernel_rfl)
        · have h3 : t = 46 := by simpa using ht.symm
          subst h3
          exact (show Tryd.prog.wantsStandIn 46 = false by kernel_rfl)
        · have h3 : t = 48 := by simpa using ht.symm
          subst h3
          exact (show Tryd.prog.wantsStandIn 48 = false by kernel_rfl)
        · simp at ht⟩)
    (by kernel_rfl)
#print axioms proved
end Go.Proofs.YtpcjablkjaiapaaDoor.failoverApart
namespace Go.Proofs.YtpcjablkjaiapaaDoor
/-- The row, under a short name, for the claim. -/
theorem failoverApart_holds : Rows.FailoverApartCardSaid := failoverApart.proved
end Go.Proofs.YtpcjablkjaiapaaDoor
