import Derived.Test.YtikhpegamnnabaaDoorQAxo
import Derived.Test.YtikhpegamnnabaaDoorCards
import Derived.Test.YtikhpegamnnabaaDoorTie
import Derived.Test.YtikhpegamnnabaaDoorRows
import Derived.Test.YtikhpegamnnabaaDoorXO
import Derived.Test.YtikhpegamnnabaaDoorQAx38
import Derived.Test.YtikhpegamnnabaaDoorPureLeasefilePuts
import Derived.SevenTiedAt
import Derived.Lay
import Derived.MakeChecks
import Derived.LaidHandle
import Derived.WalkKit
import Derived.ProofKit
import Derived.OpenShut
import Derived.ShutString
import Derived.ChangeOld
import Derived.Below
import Derived.SizedLaws
import Derived.Carry
-- Written by this session's own program (wip/xprint) out of the translation; Lean checks it.
namespace Go.Proofs.YtikhpegamnnabaaDoor.leasefilePuts
open Go.ChangeShapes Go.WideShapes Go.ChangeAt Go.RowKit
open Go.ChangeMaps (open_string shut_string)
open Go.Proofs.YtikhpegamnnabaaDoor.QA
set_option linter.unusedVariables false
theorem own : ownKnob Tryd.prog.godebug = none := by kernel_rfl
theorem laidOut : laidOutB Tryd.prog = true := by kernel_rfl
set_option maxRecDepth 100000
theorem met (os : Os) (args : Array Value) : laidMetH Tryd.prog Rows.leasefilePutsRow.laid ((World.laidAll Tryd.prog os Rows.leasefilePutsRow.laid).forCall (fun _ _ => 0) ⟨#[], args, []⟩).memory := by
  rw [MakeChecks.laidMetH_plain _ _ _ (by kernel_rfl)]
  exact laidMet_laidAll _ (by kernel_rfl) (by kernel_rfl)
theorem shaped (os : Os) (args : Array Value) : ((World.laidAll Tryd.prog os Rows.leasefilePutsRow.laid).forCall (fun _ _ => 0) ⟨#[], args, []⟩).Shaped Tryd.prog := World.shaped_of_ZipB (by kernel_rfl) (by kernel_rfl)
set_option maxRecDepth 100000 in
theorem lifted (os : Os) (started : os.Started) (H : Type) (enc : TypeId × Value → H) :
    ReturnsInHanded {} Tryd.checked os 5 .any (fun w args => (Rows.leasefilePutsSpec.pre enc Tryd.prog Tryd.f5 Rows.leasefilePutsRow.domain false w args ∧ laidMetH Tryd.prog Rows.leasefilePutsRow.laid w) ∧ sizedMet enc Tryd.prog Tryd.f5 (OpenSpec.ofChange Rows.leasefilePutsSpec) false w args) (Rows.leasefilePutsSpec.post enc Tryd.prog Tryd.f5 false true false false) := by
  refine returnsInHanded_of_change_and (C := Tryd.checked) (X := fun w _ => laidMetH Tryd.prog Rows.leasefilePutsRow.laid w) (fun _ _ _ hh h => h.of_heap hh) own started (by kernel_rfl) Tryd.func5
    (ChangeSpec.witness_shaped (enc := enc) (C := Tryd.checked) (os := os) (X := fun w _ => laidMetH Tryd.prog Rows.leasefilePutsRow.laid w) false (World.laidAll Tryd.prog os Rows.leasefilePutsRow.laid) #[.slice none 0 0, .agg #[.bool false, .int .u64 0, .int .u64 0, .string ByteArray.empty, .int .i64 0, .int .i64 0, .int .i64 0, .string ByteArray.empty, .int .i64 0]] 8 (World.laidAll_os _ _ _) (shaped os _) (by kernel_rfl) (by kernel_rfl) (by kernel_rfl) (met os _)) ?_
  intro W base args ds gs before hval0 hW hcnd hsz0 _ _
  have hsz : (DataW.weightsEach Tryd.prog (Tryd.f5.params.toList ++ Rows.leasefilePutsSpec.plain.varTypes Tryd.prog) (ds ++ gs)).all (· ≤ reachBytes) = true := hsz0
  have hval : ∀ (j : Nat) t v, Tryd.f5.params[j]? = some t → args[j]? = some v → Value.okWide Tryd.prog W .any base t v := hval0
  have hW' := hW
  obtain ⟨p, q, hA0, hV, rfl, hfz, hnd⟩ := hW
  have hA : DataW.TrodAll enc Tryd.prog W 0 (fun _ => true) true Tryd.f5.params.toList args.toList ds p := hA0
  rw [Tryd.params5] at hA hval hsz
  obtain ⟨v0, vs0, d0, ds0, p0, q0, hargs, rfl, rfl, h0, r0⟩ := trodAll_cons hA
  obtain ⟨v1, vs1, d1, ds1, p1, q1, rfl, rfl, rfl, h1, r1⟩ := trodAll_cons r0
  obtain ⟨rfl, rfl, rfl⟩ := trodAll_nil r1
  obtain rfl : args = #[v0, v1] := by cases args; simp_all
  obtain ⟨rfl, rfl⟩ := trodVars_none hV
  have k0 := h0
  have lt0 : ∀ x ∈ p0, x.block < W.heap.size := by obtain ⟨m, hm⟩ := k0; exact DataW.trod_lt m _ _ _ hm
  have z0 := XO.weights_of hsz (j := 0) (t := 35) rfl rfl
  obtain ⟨A0, c0, l0, rfl, hc0, hr0, w0⟩ := XO.open_slice (XO.Opens.slice (B := 88) Tryd.underlying35 (by kernel_rfl) (by kernel_rfl) oS26) Tryd.underlying35 (hval 0 35 v0 rfl rfl) h0 z0
  have k1 := h1
  have lt1 : ∀ x ∈ p1, x.block < W.heap.size := by obtain ⟨m, hm⟩ := k1; exact DataW.trod_lt m _ _ _ hm
  have z1 := XO.weights_of hsz (j := 1) (t := 26) rfl rfl
  obtain ⟨cs1, b1, rfl, hK1, w1⟩ := XO.open_struct oS26 Tryd.underlying26 (hval 1 26 v1 rfl rfl) h1 z1
  obtain rfl := k26_open hK1
  clear hA0 hval0 hsz0 hsz
  refine (QA.ddilaw45_LeasefilePuts.walk Pure.LeasefilePuts A0 c0 l0 b1.f0.f0 b1.f0.f1 b1.f0.f2 b1.f1 b1.f2 b1.f3 b1.f4 b1.f5 b1.f6 W hr0 hc0 w0 w1).mono fun e W' ⟨he, bel⟩ => ?_
  subst he
  exact ⟨_, rfl, _, _, _, [], _, [], hW', trodAll_mk1 (shut_bool Tryd.underlying4 _), (trodAll_cons_mk (Below.trod laidOut (by kernel_rfl) (of_decide_eq_true (by kernel_rfl)) k0 bel lt0) (trodAll_cons_mk (Below.trod laidOut (by kernel_rfl) (of_decide_eq_true (by kernel_rfl)) k1 bel lt1) trodAll_mk0)), rfl, bel.frame _, fun h => by cases h⟩
theorem over : Rows.leasefilePutsRow.holds Tryd.pinned (OpenSpec.ofChange Rows.leasefilePutsSpec) :=
  OpenClaim.holds_of_wide 5 Tryd.f5 rfl rfl rfl rfl rfl rfl rfl ⟨rfl, rfl, rfl, rfl, rfl⟩ rfl rfl rfl rfl rfl (by kernel_rfl) Tryd.func5 (by kernel_rfl)
    (of_decide_eq_true (by kernel_rfl)) (by unfold Func.isWrapper; first | (rw [if_pos (by decide +kernel)]; kernel_rfl) | (rw [if_neg (by decide +kernel)]; exact ⟨rfl, rfl⟩))
    (fun os started H enc _ => lifted os started H enc)
theorem proved : Rows.LeasefilePutsCardSaid :=
  Claim7.holds_tied_plain_at .later [] [.data, .pinned] true (true, "53ab1c93e46a2901059bfa6eaa64e25b1e948e282f8ee6456541c0a9bcaa6209") false
    over (fun _ h => by cases h) (by kernel_rfl) (fun _ h => by cases h) leasefilePuts_row_tie rfl ⟨rfl, rfl⟩ (by kernel_rfl) rfl
    (fun f fn hf hfn => by
      obtain rfl : f = 5 := Option.some.inj ((show Tryd.prog.funcNamed "ddi/ddilaw45.LeasefilePuts" = some 5 by kernel_rfl).symm.trans hf) |>.symm
      obtain rfl : fn = Tryd.f5 := (Option.some.inj (Tryd.func5.symm.trans hfn)).symm
      exact ⟨by kernel_rfl, fun j t ht => by
        rw [Tryd.params5] at ht
        rcases j with _ | _ | j
        · have h3 : t = 35 := by simpa using ht.symm
          subst h3
          exact (show Tryd.prog.wantsStandIn 35 = false by kernel_rfl)
        · have h3 : t = 26 := by simpa using ht.symm
          subst h3
          exact (show Tryd.prog.wantsStandIn 26 = false by kernel_rfl)
        · simp at ht⟩)
    (by kernel_rfl)
#print axioms proved
end Go.Proofs.YtikhpegamnnabaaDoor.leasefilePuts
namespace Go.Proofs.YtikhpegamnnabaaDoor
/-- The row, under a short name, for the claim. -/
theorem leasefilePuts_holds : Rows.LeasefilePutsCardSaid := leasefilePuts.proved
end Go.Proofs.YtikhpegamnnabaaDoor
