import Derived.Test.YtioopjondjfchaaQAxo
import Derived.Test.YtioopjondjfchaaRows
import Derived.Test.YtioopjondjfchaaXO
import Derived.Test.YtioopjondjfchaaQAx19
import Derived.Test.YtioopjondjfchaaPureProbeStarts
import Derived.WalkKit
import Derived.ProofKit
import Derived.OpenShut
import Derived.ShutString
import Derived.ChangeOld
import Derived.Below
import Derived.SizedLaws
import Derived.Carry
-- Written by this session's own program (wip/xprint) out of the translation; Lean checks it.
namespace Go.Proofs.Ytioopjondjfchaa.probeStarts
open Go.ChangeShapes Go.WideShapes Go.ChangeAt Go.RowKit
open Go.ChangeMaps (open_string shut_string)
open Go.Proofs.Ytioopjondjfchaa.QA
set_option linter.unusedVariables false
theorem own : ownKnob Try.prog.godebug = none := by kernel_rfl
theorem laidOut : laidOutB Try.prog = true := by kernel_rfl
set_option maxRecDepth 100000 in
theorem lifted (os : Os) (started : os.Started) (H : Type) (enc : TypeId × Value → H) :
    ReturnsInHanded {} Try.checked os 5 .any (Rows.probeStartsSpec.pre6 enc Try.prog Try.f5 Rows.probeStartsRow.domain false) (Rows.probeStartsSpec.post enc Try.prog Try.f5 false true false false) := by
  refine returnsInHanded_of_change_sized (C := Try.checked) own started (by kernel_rfl) Try.func5
    (ChangeSpec.witness6 (enc := enc) (C := Try.checked) false ⟨#[], #[.slice none 0 0, .agg #[.int .u8 0, .bool false, .int .u64 0, .int .u64 0, .int .i64 0, .int .i64 0, .int .i64 0, .string ByteArray.empty, .bool false, .int .u64 0, .int .u64 0, .bool false, .int .u64 0, .int .u64 0, .bool false, .int .u64 0, .int .u64 0, .bool false, .slice none 0 0, .int .i64 0, .int .i64 0], .agg #[.bool false, .int .u64 0, .int .u64 0]], []⟩ 8 (by kernel_rfl) (by kernel_rfl) (by kernel_rfl) (by kernel_rfl)) ?_
  intro W base args ds gs before hval0 hW hcnd hsz0 _
  have hsz : (DataW.weightsEach Try.prog (Try.f5.params.toList ++ Rows.probeStartsSpec.plain.varTypes Try.prog) (ds ++ gs)).all (· ≤ reachBytes) = true := hsz0
  have hval : ∀ (j : Nat) t v, Try.f5.params[j]? = some t → args[j]? = some v → Value.okWide Try.prog W .any base t v := hval0
  have hW' := hW
  obtain ⟨p, q, hA0, hV, rfl, hfz, hnd⟩ := hW
  have hA : DataW.TrodAll enc Try.prog W 0 (fun _ => true) true Try.f5.params.toList args.toList ds p := hA0
  rw [Try.params5] at hA hval hsz
  obtain ⟨v0, vs0, d0, ds0, p0, q0, hargs, rfl, rfl, h0, r0⟩ := trodAll_cons hA
  obtain ⟨v1, vs1, d1, ds1, p1, q1, rfl, rfl, rfl, h1, r1⟩ := trodAll_cons r0
  obtain ⟨v2, vs2, d2, ds2, p2, q2, rfl, rfl, rfl, h2, r2⟩ := trodAll_cons r1
  obtain ⟨rfl, rfl, rfl⟩ := trodAll_nil r2
  obtain rfl : args = #[v0, v1, v2] := by cases args; simp_all
  obtain ⟨rfl, rfl⟩ := trodVars_none hV
  have k0 := h0
  have lt0 : ∀ x ∈ p0, x.block < W.heap.size := by obtain ⟨m, hm⟩ := k0; exact DataW.trod_lt m _ _ _ hm
  have z0 := XO.weights_of hsz (j := 0) (t := 22) rfl rfl
  obtain ⟨A0, c0, l0, rfl, hc0, hr0, w0⟩ := XO.open_slice (XO.Opens.slice (B := 192) Try.underlying22 (by kernel_rfl) (by kernel_rfl) oS33) Try.underlying22 (hval 0 22 v0 rfl rfl) h0 z0
  have k1 := h1
  have lt1 : ∀ x ∈ p1, x.block < W.heap.size := by obtain ⟨m, hm⟩ := k1; exact DataW.trod_lt m _ _ _ hm
  have z1 := XO.weights_of hsz (j := 1) (t := 43) rfl rfl
  obtain ⟨cs1, b1, rfl, hK1, w1⟩ := XO.open_struct oS43 Try.underlying43 (hval 1 43 v1 rfl rfl) h1 z1
  obtain ⟨A1_18, c1_18, rfl, hc1_18, hr1_18⟩ := k43_open hK1
  have k2 := h2
  have lt2 : ∀ x ∈ p2, x.block < W.heap.size := by obtain ⟨m, hm⟩ := k2; exact DataW.trod_lt m _ _ _ hm
  have z2 := XO.weights_of hsz (j := 2) (t := 28) rfl rfl
  obtain ⟨cs2, b2, rfl, hK2, w2⟩ := XO.open_struct oS28 Try.underlying28 (hval 2 28 v2 rfl rfl) h2 z2
  obtain rfl := k28_open hK2
  clear hA0 hval0 hsz0 hsz
  refine (QA.ddilaw40_ProbeStarts.walk Pure.ProbeStarts A0 c0 l0 b1.f0 b1.f1.f0 b1.f1.f1 b1.f1.f2 b1.f2.f0 b1.f2.f1 b1.f2.f2 b1.f2.f3 b1.f2.f4.f0 b1.f2.f4.f1 b1.f2.f4.f2 b1.f2.f5.f0 b1.f2.f5.f1 b1.f2.f5.f2 b1.f2.f6.f0 b1.f2.f6.f1 b1.f2.f6.f2 b1.f2.f7 A1_18 c1_18 b1.f2.f8 b1.f3 b1.f4 b2.f0 b2.f1 b2.f2 W hr0 hc0 hr1_18 hc1_18 w0 w1 w2).mono fun e W' ⟨he, bel⟩ => ?_
  subst he
  exact ⟨_, rfl, _, _, _, [], _, [], hW', trodAll_mk1 (shut_bool Try.underlying4 _), (trodAll_cons_mk (Below.trod laidOut (by kernel_rfl) (of_decide_eq_true (by kernel_rfl)) k0 bel lt0) (trodAll_cons_mk (Below.trod laidOut (by kernel_rfl) (of_decide_eq_true (by kernel_rfl)) k1 bel lt1) (trodAll_cons_mk (Below.trod laidOut (by kernel_rfl) (of_decide_eq_true (by kernel_rfl)) k2 bel lt2) trodAll_mk0))), rfl, bel.frame _, fun h => by cases h⟩
theorem over : Rows.probeStartsRow.holds Try.pinned (OpenSpec.ofChange Rows.probeStartsSpec) :=
  OpenClaim.holds_of_wide 5 Try.f5 rfl rfl rfl rfl rfl rfl rfl ⟨rfl, rfl, rfl, rfl, rfl⟩ rfl rfl rfl rfl rfl (by kernel_rfl) Try.func5 (by kernel_rfl)
    (of_decide_eq_true (by kernel_rfl)) (by unfold Func.isWrapper; first | (rw [if_pos (by decide +kernel)]; kernel_rfl) | (rw [if_neg (by decide +kernel)]; exact ⟨rfl, rfl⟩))
    (fun os started H enc _ => lifted os started H enc)
theorem proved : Rows.ProbeStartsSaid := over
#print axioms proved
end Go.Proofs.Ytioopjondjfchaa.probeStarts
namespace Go.Proofs.Ytioopjondjfchaa
/-- The row, under a short name, for the claim. -/
theorem probeStarts_holds : Rows.ProbeStartsSaid := probeStarts.proved
end Go.Proofs.Ytioopjondjfchaa
