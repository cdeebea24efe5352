-- Written by this session's own program (wip/xprint) out of the translation; Lean checks it.
import Derived.Test.YtonpcojdpfmbkaaDoorQAd1
import Derived.Test.YtonpcojdpfmbkaaDoorQAx0
import Derived.Test.YtonpcojdpfmbkaaDoorQAx10
import Derived.Test.YtonpcojdpfmbkaaDoorQAx16
import Derived.Test.YtonpcojdpfmbkaaDoorQAx29
import Derived.Test.YtonpcojdpfmbkaaDoorXO
namespace Go.Proofs.YtonpcojdpfmbkaaDoor.QA
open Go.RowKit Go.Proofs.YtonpcojdpfmbkaaDoorW.PrintWords Go.Proofs.YtonpcojdpfmbkaaDoorW.PrintLast Go.Proofs.YtonpcojdpfmbkaaDoorW.PrintMore
attribute [local go_sem] max2_int min2_int max_two min_two max_three min_three max_four min_four   -- for this text's walks alone
attribute [local go_sem high] Go.Proofs.YtonpcojdpfmbkaaDoor.XW.cell_setCell_lit
set_option linter.unusedVariables false
set_option linter.unusedSimpArgs false
/-! ### ddilaw38_LeaseChecks: function 3 -/
set_option maxHeartbeats 8000000 in
set_option maxRecDepth 100000 in
theorem ddilaw38_LeaseChecks.calls (k : Nat) (A0 : Option Addr) (c0 : Nat) (l0 : List (S41)) (r : Bool) (w : World) (hr0 : Kd.C k41 w A0 l0.length l0) (hc0 : l0.length ≤ c0) (h : ddilaw38_LeaseChecks.f k l0 = some r) (hT_ : r = true) :
  Calls Tryd.prog 3 #[.slice A0 l0.length c0] w fun e w' => e = .returned (.bool r) ∧ Below w.heap.size w w' := by
 have HR0 := Aside0.mk hr0;have HC0 := Aside0.mk hc0;clear hr0 hc0;have HB := Aside0.mk (Below.refl w.heap.size w);have H : ((lease_Check.f k l0).bind fun t399 => ((ddiref38_Check.f k l0).bind fun t400 => (if t399 = t400 then ((ddilaw38_awake.f k).bind fun t401 => (some t401)) else (some false)))) = some r := h;clear h;replace H := Option.bind_eq_some_iff.mp H;obtain ⟨t399,A20,H⟩ := H;(try dsimp only at H);have A2 := Aside0.mk A20;clear A20;replace H := Option.bind_eq_some_iff.mp H;obtain ⟨t400,A30,H⟩ := H;replace H : (if t399 = t400 then ((ddilaw38_awake.f k).bind fun t401 => (some t401)) else (some false)) = some r := H;have A3 := Aside0.mk A30;clear A30;by_cases c4 : t399 = t400
 ·rw [if_pos c4] at H;have c4b0 := beq_iff_eq.mpr c4;have c4b1 := bne_eq_false_iff_eq.mpr c4;clear c4;replace H := Option.bind_eq_some_iff.mp H;obtain ⟨t401,A50,H⟩ := H;replace H : (some t401) = some r := H;have A5 := Aside0.mk A50;clear A50;obtain rfl := Option.some.inj H;go_enter Tryd.func3,Tryd.ntmps3;go_wp2_with (first | ((with_reducible refine gate_callee (f := 10) rfl ?_);refine XR.gL 4 Tryd.func10 #[.slice A0 l0.length c0] ?_;(with_reducible refine (lease_Check.calls k _ _ l0 t399 _ ?side1 ?side2 A2.out).mono ?_);(case side1 => repeat (first | exact HR0.out | (with_reducible refine Kd.C_alloc ?_ _) | (with_reducible refine Kd.C_drewN ?_ _) | (with_reducible refine Kd.C_drew ?_)));(case side2 => exact HC0.out);rintro e w6 ⟨rfl,hb⟩;refine ⟨_,rfl,?_⟩;replace HB := Aside0.mk (XR.bB HB.out hb);(try clear hb)) | ((with_reducible refine gate_callee (f := 11) rfl ?_);refine XR.gL 6 Tryd.func11 #[.slice A0 l0.length c0] ?_;(with_reducible refine (ddiref38_Check.calls k _ _ l0 t400 _ ?side1 ?side2 A3.out).mono ?_);(case side1 => exact XR.lC (Kd.C_below HR0.out HB.out));(case side2 => exact HC0.out);rintro e w7 ⟨rfl,hb⟩;refine ⟨_,rfl,?_⟩;replace HB := Aside0.mk (XR.bB HB.out hb);(try clear hb)) | (go_at_call 12;(with_reducible refine (ddilaw38_awake.calls k  t401 _ A5.out (by first | assumption | rfl | simp_all)).mono ?_);rintro e w8 ⟨rfl,hb⟩;replace HB := Aside0.mk (XR.bB HB.out hb);(try clear hb)));go_ret;exact XR.re HB.out
 ·rw [if_neg c4] at H;have c4b0 := beq_eq_false_iff_ne.mpr c4;have c4b1 := bne_iff_ne.mpr c4;exact absurd (Option.some.inj H) (by rw [hT_];decide)
theorem ddilaw38_LeaseChecks.walk (P : ddilaw38_LeaseChecks.Pure) (A0 : Option Addr) (c0 : Nat) (l0 : List (S41)) (w : World) (hr0 : Kd.C k41 w A0 l0.length l0) (hc0 : l0.length ≤ c0) (w0 : (l0.length * 88 ≤ 140737488351232 ∧ l0.length ≤ maxLen ∧ ∀ y0_ ∈ l0,okS41 y0_)) :
  Calls Tryd.prog 3 #[.slice A0 l0.length c0] w fun e w' => e = .returned (.bool true) ∧ Below w.heap.size w w' := by
 obtain ⟨k,h⟩ := P l0 w0;refine (ddilaw38_LeaseChecks.calls k A0 c0 l0 true w hr0 hc0 h rfl).mono ?_;rintro e w' ⟨rfl,hd⟩;exact ⟨rfl,hd⟩
end Go.Proofs.YtonpcojdpfmbkaaDoor.QA
