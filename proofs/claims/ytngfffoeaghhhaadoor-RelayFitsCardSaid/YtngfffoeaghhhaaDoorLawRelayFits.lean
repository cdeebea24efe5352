import Derived.Test.YtngfffoeaghhhaaDoorQAxo
import Derived.Test.YtngfffoeaghhhaaDoorCards
import Derived.Test.YtngfffoeaghhhaaDoorTie
import Derived.Test.YtngfffoeaghhhaaDoorRows
import Derived.Test.YtngfffoeaghhhaaDoorXO
import Derived.Test.YtngfffoeaghhhaaDoorQAx31
import Derived.Test.YtngfffoeaghhhaaDoorPureRelayFits
import Derived.SevenTiedAt
import Derived.Lay
import Derived.MakeChecks
import Derived.LaidHandle
import Derived.WalkKit
import Derived.ProofKit
import Derived.OpenShut
import Derived.ShutString
import Derived.ChangeOld
import Derived.Below
import Derived.SizedLaws
import Derived.Carry
-- Written by this session's own program (wip/xprint) out of the translation; Lean checks it.
namespace Go.Proofs.YtngfffoeaghhhaaDoor.relayFits
open Go.ChangeShapes Go.WideShapes Go.ChangeAt Go.RowKit
open Go.ChangeMaps (open_string shut_string)
open Go.Proofs.YtngfffoeaghhhaaDoor.QA
set_option linter.unusedVariables false
theorem own : ownKnob Tryd.prog.godebug = none := by kernel_rfl
theorem laidOut : laidOutB Tryd.prog = true := by kernel_rfl
set_option maxRecDepth 100000
theorem met (os : Os) (args : Array Value) : laidMetH Tryd.prog Rows.relayFitsRow.laid ((World.laidAll Tryd.prog os Rows.relayFitsRow.laid).forCall (fun _ _ => 0) ⟨#[], args, []⟩).memory := by
  rw [MakeChecks.laidMetH_plain _ _ _ (by kernel_rfl)]
  exact laidMet_laidAll _ (by kernel_rfl) (by kernel_rfl)
theorem shaped (os : Os) (args : Array Value) : ((World.laidAll Tryd.prog os Rows.relayFitsRow.laid).forCall (fun _ _ => 0) ⟨#[], args, []⟩).Shaped Tryd.prog := World.shaped_of_ZipB (by kernel_rfl) (by kernel_rfl)
set_option maxRecDepth 100000 in
theorem lifted (os : Os) (started : os.Started) (H : Type) (enc : TypeId × Value → H) :
    ReturnsInHanded {} Tryd.checked os 6 .any (fun w args => (Rows.relayFitsSpec.pre enc Tryd.prog Tryd.f6 Rows.relayFitsRow.domain false w args ∧ laidMetH Tryd.prog Rows.relayFitsRow.laid w) ∧ sizedMet enc Tryd.prog Tryd.f6 (OpenSpec.ofChange Rows.relayFitsSpec) false w args) (Rows.relayFitsSpec.post enc Tryd.prog Tryd.f6 false true false false) := by
  refine returnsInHanded_of_change_and (C := Tryd.checked) (X := fun w _ => laidMetH Tryd.prog Rows.relayFitsRow.laid w) (fun _ _ _ hh h => h.of_heap hh) own started (by kernel_rfl) Tryd.func6
    (ChangeSpec.witness_shaped (enc := enc) (C := Tryd.checked) (os := os) (X := fun w _ => laidMetH Tryd.prog Rows.relayFitsRow.laid w) false (World.laidAll Tryd.prog os Rows.relayFitsRow.laid) #[.slice none 0 0, .agg #[.int .i64 0, .int .i64 0, .int .i64 0, .string ByteArray.empty, .bool false, .int .u64 0, .int .u64 0, .bool false, .int .u64 0, .int .u64 0, .bool false, .int .u64 0, .int .u64 0, .bool false, .slice none 0 0], .agg #[.bool false, .int .u64 0, .int .u64 0]] 8 (World.laidAll_os _ _ _) (shaped os _) (by kernel_rfl) (by kernel_rfl) (by kernel_rfl) (met os _)) ?_
  intro W base args ds gs before hval0 hW hcnd hsz0 _ _
  have hsz : (DataW.weightsEach Tryd.prog (Tryd.f6.params.toList ++ Rows.relayFitsSpec.plain.varTypes Tryd.prog) (ds ++ gs)).all (· ≤ reachBytes) = true := hsz0
  have hval : ∀ (j : Nat) t v, Tryd.f6.params[j]? = some t → args[j]? = some v → Value.okWide Tryd.prog W .any base t v := hval0
  have hW' := hW
  obtain ⟨p, q, hA0, hV, rfl, hfz, hnd⟩ := hW
  have hA : DataW.TrodAll enc Tryd.prog W 0 (fun _ => true) true Tryd.f6.params.toList args.toList ds p := hA0
  rw [Tryd.params6] at hA hval hsz
  obtain ⟨v0, vs0, d0, ds0, p0, q0, hargs, rfl, rfl, h0, r0⟩ := trodAll_cons hA
  obtain ⟨v1, vs1, d1, ds1, p1, q1, rfl, rfl, rfl, h1, r1⟩ := trodAll_cons r0
  obtain ⟨v2, vs2, d2, ds2, p2, q2, rfl, rfl, rfl, h2, r2⟩ := trodAll_cons r1
  obtain ⟨rfl, rfl, rfl⟩ := trodAll_nil r2
  obtain rfl : args = #[v0, v1, v2] := by cases args; simp_all
  obtain ⟨rfl, rfl⟩ := trodVars_none hV
  have k0 := h0
  have lt0 : ∀ x ∈ p0, x.block < W.heap.size := by obtain ⟨m, hm⟩ := k0; exact DataW.trod_lt m _ _ _ hm
  have z0 := XO.weights_of hsz (j := 0) (t := 37) rfl rfl
  obtain ⟨A0, c0, l0, rfl, hc0, hr0, w0⟩ := XO.open_slice (XO.Opens.slice (B := 128) Tryd.underlying37 (by kernel_rfl) (by kernel_rfl) oS49) Tryd.underlying37 (hval 0 37 v0 rfl rfl) h0 z0
  have k1 := h1
  have lt1 : ∀ x ∈ p1, x.block < W.heap.size := by obtain ⟨m, hm⟩ := k1; exact DataW.trod_lt m _ _ _ hm
  have z1 := XO.weights_of hsz (j := 1) (t := 27) rfl rfl
  obtain ⟨cs1, b1, rfl, hK1, w1⟩ := XO.open_struct oS27 Tryd.underlying27 (hval 1 27 v1 rfl rfl) h1 z1
  obtain ⟨A1_14, c1_14, rfl, hc1_14, hr1_14⟩ := k27_open hK1
  have k2 := h2
  have lt2 : ∀ x ∈ p2, x.block < W.heap.size := by obtain ⟨m, hm⟩ := k2; exact DataW.trod_lt m _ _ _ hm
  have z2 := XO.weights_of hsz (j := 2) (t := 24) rfl rfl
  obtain ⟨cs2, b2, rfl, hK2, w2⟩ := XO.open_struct oS24 Tryd.underlying24 (hval 2 24 v2 rfl rfl) h2 z2
  obtain rfl := k24_open hK2
  clear hA0 hval0 hsz0 hsz
  refine (QA.ddilaw39_RelayFits.walk Pure.RelayFits A0 c0 l0 b1.f0 b1.f1 b1.f2 b1.f3 b1.f4.f0 b1.f4.f1 b1.f4.f2 b1.f5.f0 b1.f5.f1 b1.f5.f2 b1.f6.f0 b1.f6.f1 b1.f6.f2 b1.f7 A1_14 c1_14 b1.f8 b2.f0 b2.f1 b2.f2 W hr0 hc0 hr1_14 hc1_14 w0 w1 w2).mono fun e W' ⟨he, bel⟩ => ?_
  subst he
  exact ⟨_, rfl, _, _, _, [], _, [], hW', trodAll_mk1 (shut_bool Tryd.underlying4 _), (trodAll_cons_mk (Below.trod laidOut (by kernel_rfl) (of_decide_eq_true (by kernel_rfl)) k0 bel lt0) (trodAll_cons_mk (Below.trod laidOut (by kernel_rfl) (of_decide_eq_true (by kernel_rfl)) k1 bel lt1) (trodAll_cons_mk (Below.trod laidOut (by kernel_rfl) (of_decide_eq_true (by kernel_rfl)) k2 bel lt2) trodAll_mk0))), rfl, bel.frame _, fun h => by cases h⟩
theorem over : Rows.relayFitsRow.holds Tryd.pinned (OpenSpec.ofChange Rows.relayFitsSpec) :=
  OpenClaim.holds_of_wide 6 Tryd.f6 rfl rfl rfl rfl rfl rfl rfl ⟨rfl, rfl, rfl, rfl, rfl⟩ rfl rfl rfl rfl rfl (by kernel_rfl) Tryd.func6 (by kernel_rfl)
    (of_decide_eq_true (by kernel_rfl)) (by unfold Func.isWrapper; first | (rw [if_pos (by decide +kernel)]; kernel_rfl) | (rw [if_neg (by decide +kernel)]; exact ⟨rfl, rfl⟩))
    (fun os started H enc _ => lifted os started H enc)
theorem proved : Rows.RelayFitsCardSaid :=
  Claim7.holds_tied_plain_at .later [] [.data, .pinned] true (true, "43ef937e98154ba4cfc559c5a4c09c901d0d8247ac928349369ef8434c4b1bdc") false
    over (fun _ h => by cases h) (by kernel_rfl) (fun _ h => by cases h) relayFits_row_tie rfl ⟨rfl, rfl⟩ (by kernel_rfl) rfl
    (fun f fn hf hfn => by
      obtain rfl : f = 6 := Option.some.inj ((show Tryd.prog.funcNamed "ddi/ddilaw39.RelayFits" = some 6 by kernel_rfl).symm.trans hf) |>.symm
      obtain rfl : fn = Tryd.f6 := (Option.some.inj (Tryd.func6.symm.trans hfn)).symm
      exact ⟨by kernel_rfl, fun j t ht => by
        rw [Tryd.params6] at ht
        rcases j with _ | _ | _ | j
        · have h3 : t = 37 := by simpa using ht.symm
          subst h3
          exact (show Tryd.prog.wantsStandIn 37 = false by kernel_rfl)
        · have h3 : t = 27 := by simpa using ht.symm
          subst h3
          exact (show Tryd.prog.wantsStandIn 27 = false by kernel_rfl)
        · have h3 : t = 24 := by simpa using ht.symm
          subst h3
          exact (show Tryd.prog.wantsStandIn 24 = false by kernel_rfl)
        · simp at ht⟩)
    (by kernel_rfl)
#print axioms proved
end Go.Proofs.YtngfffoeaghhhaaDoor.relayFits
namespace Go.Proofs.YtngfffoeaghhhaaDoor
/-- The row, under a short name, for the claim. -/
theorem relayFits_holds : Rows.RelayFitsCardSaid := relayFits.proved
end Go.Proofs.YtngfffoeaghhhaaDoor
