import Derived.Test.YtonpcojdpfmbkaaDoorQAd1
import Derived.Test.YtonpcojdpfmbkaaDoorQAx0
import Derived.Test.YtonpcojdpfmbkaaDoorQAx13
namespace Go.Proofs.YtonpcojdpfmbkaaDoor.QA
open Go.RowKit Go.Proofs.YtonpcojdpfmbkaaDoorW.PrintWords Go.Proofs.YtonpcojdpfmbkaaDoorW.PrintLast Go.Proofs.YtonpcojdpfmbkaaDoorW.PrintMore
attribute [local go_sem] max2_int min2_int max_two min_two max_three min_three max_four min_four   -- for this text's walks alone
attribute [local go_sem high] Go.Proofs.YtonpcojdpfmbkaaDoor.XW.cell_setCell_lit
set_option linter.unusedVariables false
set_option linter.unusedSimpArgs false
set_option maxHeartbeats 8000000 in
set_option maxRecDepth 100000 in
theorem ddiref01_Valid.calls (k : Nat) (a0 : ByteArray) (r : Bool) (w : World) (h : ddiref01_Valid.f k a0 = some r) :
  Calls Tryd.prog 55 #[.string a0] w fun e w' => e = .returned (.bool r) ∧ Below w.heap.size w w' := by
 have HB := Aside0.mk (Below.refl w.heap.size w);have H : ((ddiref01_split.f k a0).bind fun bt154 => (some bt154.2)) = some r := h;clear h;replace H := Option.bind_eq_some_iff.mp H;obtain ⟨⟨t154,t155⟩,A20,H⟩ := H;replace H : (some t155) = some r := H;have A2 := Aside0.mk A20;clear A20;obtain rfl := Option.some.inj H;go_enter Tryd.func55,Tryd.ntmps55;go_wp2_with (first | ((with_reducible refine gate_callee (f := 67) rfl ?_);refine XR.gL 7 Tryd.func67 #[.string a0] ?_;(refine (ddiref01_split.calls k a0 t154 t155 _ A2.out).mono ?_);rintro e w3 ⟨_,rfl,ho0,hb⟩;refine ⟨_,rfl,?_⟩;have HO157 := Aside0.mk (Kd.R_lower ho0 (below_size (XR.lB HB.out)));replace HB := Aside0.mk (XR.bB HB.out hb);(try clear hb);(try clear ho0)));go_ret;exact XR.re HB.out
end Go.Proofs.YtonpcojdpfmbkaaDoor.QA
