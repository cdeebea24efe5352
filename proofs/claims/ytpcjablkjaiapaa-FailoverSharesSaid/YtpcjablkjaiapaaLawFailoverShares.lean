import Derived.Test.YtpcjablkjaiapaaQAxo
import Derived.Test.YtpcjablkjaiapaaRows
import Derived.Test.YtpcjablkjaiapaaXO
import Derived.Test.YtpcjablkjaiapaaQAx35
import Derived.Test.YtpcjablkjaiapaaPureFailoverShares
import Derived.WalkKit
import Derived.ProofKit
import Derived.OpenShut
import Derived.ShutString
import Derived.ChangeOld
import Derived.Below
import Derived.SizedLaws
import Derived.Carry
-- Written by this session's own program (wip/xprint) out of the translation; Lean checks it.
namespace Go.Proofs.Ytpcjablkjaiapaa.failoverShares
open Go.ChangeShapes Go.WideShapes Go.ChangeAt Go.RowKit
open Go.ChangeMaps (open_string shut_string)
open Go.Proofs.Ytpcjablkjaiapaa.QA
set_option linter.unusedVariables false
theorem own : ownKnob Try.prog.godebug = none := by kernel_rfl
theorem laidOut : laidOutB Try.prog = true := by kernel_rfl
set_option maxRecDepth 100000 in
theorem lifted (os : Os) (started : os.Started) (H : Type) (enc : TypeId × Value → H) :
    ReturnsInHanded {} Try.checked os 3 .any (Rows.failoverSharesSpec.pre6 enc Try.prog Try.f3 Rows.failoverSharesRow.domain false) (Rows.failoverSharesSpec.post enc Try.prog Try.f3 false true false false) := by
  refine returnsInHanded_of_change_sized (C := Try.checked) own started (by kernel_rfl) Try.func3
    (ChangeSpec.witness6 (enc := enc) (C := Try.checked) false ⟨#[], #[.agg #[.bool false, .int .i64 0, .int .i64 0, .int .i64 0], .agg #[.bool false, .int .u64 0, .int .u64 0, .int .i64 0, .string ByteArray.empty, .slice none 0 0, .slice none 0 0, .slice none 0 0, .int .i64 0], .agg #[.bool false, .int .u64 0, .int .u64 0, .int .i64 0]], []⟩ 8 (by kernel_rfl) (by kernel_rfl) (by kernel_rfl) (by kernel_rfl)) ?_
  intro W base args ds gs before hval0 hW hcnd hsz0 _
  have hsz : (DataW.weightsEach Try.prog (Try.f3.params.toList ++ Rows.failoverSharesSpec.plain.varTypes Try.prog) (ds ++ gs)).all (· ≤ reachBytes) = true := hsz0
  have hval : ∀ (j : Nat) t v, Try.f3.params[j]? = some t → args[j]? = some v → Value.okWide Try.prog W .any base t v := hval0
  have hW' := hW
  obtain ⟨p, q, hA0, hV, rfl, hfz, hnd⟩ := hW
  have hA : DataW.TrodAll enc Try.prog W 0 (fun _ => true) true Try.f3.params.toList args.toList ds p := hA0
  rw [Try.params3] at hA hval hsz
  obtain ⟨v0, vs0, d0, ds0, p0, q0, hargs, rfl, rfl, h0, r0⟩ := trodAll_cons hA
  obtain ⟨v1, vs1, d1, ds1, p1, q1, rfl, rfl, rfl, h1, r1⟩ := trodAll_cons r0
  obtain ⟨v2, vs2, d2, ds2, p2, q2, rfl, rfl, rfl, h2, r2⟩ := trodAll_cons r1
  obtain ⟨rfl, rfl, rfl⟩ := trodAll_nil r2
  obtain rfl : args = #[v0, v1, v2] := by cases args; simp_all
  obtain ⟨rfl, rfl⟩ := trodVars_none hV
  have k0 := h0
  have lt0 : ∀ x ∈ p0, x.block < W.heap.size := by obtain ⟨m, hm⟩ := k0; exact DataW.trod_lt m _ _ _ hm
  have z0 := XO.weights_of hsz (j := 0) (t := 23) rfl rfl
  obtain ⟨cs0, b0, rfl, hK0, w0⟩ := XO.open_struct oS23 Try.underlying23 (hval 0 23 v0 rfl rfl) h0 z0
  obtain rfl := k23_open hK0
  have k1 := h1
  have lt1 : ∀ x ∈ p1, x.block < W.heap.size := by obtain ⟨m, hm⟩ := k1; exact DataW.trod_lt m _ _ _ hm
  have z1 := XO.weights_of hsz (j := 1) (t := 33) rfl rfl
  obtain ⟨cs1, b1, rfl, hK1, w1⟩ := XO.open_struct oS33 Try.underlying33 (hval 1 33 v1 rfl rfl) h1 z1
  obtain ⟨A1_5, c1_5, A1_6, c1_6, A1_7, c1_7, rfl, hc1_5, hr1_5, hc1_6, hr1_6, hc1_7, hr1_7⟩ := k33_open hK1
  have k2 := h2
  have lt2 : ∀ x ∈ p2, x.block < W.heap.size := by obtain ⟨m, hm⟩ := k2; exact DataW.trod_lt m _ _ _ hm
  have z2 := XO.weights_of hsz (j := 2) (t := 35) rfl rfl
  obtain ⟨cs2, b2, rfl, hK2, w2⟩ := XO.open_struct oS35 Try.underlying35 (hval 2 35 v2 rfl rfl) h2 z2
  obtain rfl := k35_open hK2
  clear hA0 hval0 hsz0 hsz
  refine (QA.ddilaw44_FailoverShares.walk Pure.FailoverShares b0.f0 b0.f1 b0.f2 b0.f3 b1.f0.f0.f0 b1.f0.f0.f1 b1.f0.f0.f2 b1.f0.f1 b1.f1 A1_5 c1_5 b1.f2 A1_6 c1_6 b1.f3 A1_7 c1_7 b1.f4 b1.f5 b2.f0.f0 b2.f0.f1 b2.f0.f2 b2.f1 W hr1_5 hc1_5 hr1_6 hc1_6 hr1_7 hc1_7 w0 w1 w2).mono fun e W' ⟨he, bel⟩ => ?_
  subst he
  exact ⟨_, rfl, _, _, _, [], _, [], hW', trodAll_mk1 (shut_bool Try.underlying4 _), (trodAll_cons_mk (Below.trod laidOut (by kernel_rfl) (of_decide_eq_true (by kernel_rfl)) k0 bel lt0) (trodAll_cons_mk (Below.trod laidOut (by kernel_rfl) (of_decide_eq_true (by kernel_rfl)) k1 bel lt1) (trodAll_cons_mk (Below.trod laidOut (by kernel_rfl) (of_decide_eq_true (by kernel_rfl)) k2 bel lt2) trodAll_mk0))), rfl, bel.frame _, fun h => by cases h⟩
theorem over : Rows.failoverSharesRow.holds Try.pinned (OpenSpec.ofChange Rows.failoverSharesSpec) :=
  OpenClaim.holds_of_wide 3 Try.f3 rfl rfl rfl rfl rfl rfl rfl ⟨rfl, rfl, rfl, rfl, rfl⟩ rfl rfl rfl rfl rfl (by kernel_rfl) Try.func3 (by kernel_rfl)
    (of_decide_eq_true (by kernel_rfl)) (by unfold Func.isWrapper; first | (rw [if_pos (by decide +kernel)]; kernel_rfl) | (rw [if_neg (by decide +kernel)]; exact ⟨rfl, rfl⟩))
    (fun os started H enc _ => lifted os started H enc)
theorem proved : Rows.FailoverSharesSaid := over
#print axioms proved
end Go.Proofs.Ytpcjablkjaiapaa.failoverShares
namespace Go.Proofs.Ytpcjablkjaiapaa
/-- The row, under a short name, for the claim. -/
theorem failoverShares_holds : Rows.FailoverSharesSaid := failoverShares.proved
end Go.Proofs.Ytpcjablkjaiapaa
