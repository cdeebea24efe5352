import Derived.Test.YtonpcojdpfmbkaaDoorQAd4
import Derived.Test.YtonpcojdpfmbkaaDoorQAx0
import Derived.Test.YtonpcojdpfmbkaaDoorQAx4
import Derived.Test.YtonpcojdpfmbkaaDoorQAx11
import Derived.Test.YtonpcojdpfmbkaaDoorQAx19
import Derived.Test.YtonpcojdpfmbkaaDoorQAx26
import Derived.Test.YtonpcojdpfmbkaaDoorQAx39
import Derived.Test.YtonpcojdpfmbkaaDoorQAx32
import Derived.Test.YtonpcojdpfmbkaaDoorQAx35
namespace Go.Proofs.YtonpcojdpfmbkaaDoor.QA
open Go.RowKit Go.Proofs.YtonpcojdpfmbkaaDoorW.PrintWords Go.Proofs.YtonpcojdpfmbkaaDoorW.PrintLast Go.Proofs.YtonpcojdpfmbkaaDoorW.PrintMore
attribute [local go_sem] max2_int min2_int max_two min_two max_three min_three max_four min_four   -- for this text's walks alone
attribute [local go_sem high] Go.Proofs.YtonpcojdpfmbkaaDoor.XW.cell_setCell_lit
set_option linter.unusedVariables false
set_option linter.unusedSimpArgs false
set_option maxHeartbeats 8000000 in
set_option maxRecDepth 100000 in
theorem ddiref38_Later.calls (a0 : Int) (a1 : Int) (r : Int) (w : World) (h : ddiref38_Later.f a0 a1 = some r) :
  Calls Tryd.prog 53 #[.int .i64 a0,.int .i64 a1] w fun e w' => e = .returned (.int .i64 r) ∧ Drawn0 w w' := by
 have H : (if a1 > (wrap64 (4294967295 - a0)) then (some 4294967295) else (some (wrap64 (a0 + a1)))) = some r := h;clear h;by_cases c3 : a1 > (wrap64 (4294967295 - a0))
 ·rw [if_pos c3] at H;have c3b0 := decide_eq_true c3;clear c3;obtain rfl := Option.some.inj H;go_enter Tryd.func53,Tryd.ntmps53;go_wp2;go_ret;exact ⟨by first | rfl | (simp;done) | (simp [*];done),by repeat (first | exact Drawn0.refl _ | apply Drawn0.step)⟩
 ·rw [if_neg c3] at H;have c3b0 := decide_eq_false c3;clear c3;obtain rfl := Option.some.inj H;go_enter Tryd.func53,Tryd.ntmps53;go_wp2;go_ret;exact ⟨by first | rfl | (simp;done) | (simp [*];done),by repeat (first | exact Drawn0.refl _ | apply Drawn0.step)⟩
end Go.Proofs.YtonpcojdpfmbkaaDoor.QA
