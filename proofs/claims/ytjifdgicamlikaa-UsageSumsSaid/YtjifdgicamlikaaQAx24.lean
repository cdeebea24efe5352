import Derived.Test.YtjifdgicamlikaaQAd1
import Derived.Test.YtjifdgicamlikaaQAx0
namespace Go.Proofs.Ytjifdgicamlikaa.QA
open Go.RowKit Go.Proofs.YtjifdgicamlikaaW.PrintWords Go.Proofs.YtjifdgicamlikaaW.PrintLast Go.Proofs.YtjifdgicamlikaaW.PrintMore
attribute [local go_sem] max2_int min2_int max_two min_two max_three min_three max_four min_four
attribute [local go_sem high] Go.Proofs.Ytjifdgicamlikaa.XW.cell_setCell_lit
set_option linter.unusedVariables false
set_option linter.unusedSimpArgs false
set_option maxHeartbeats 8000000 in
set_option maxRecDepth 100000 in
theorem ddilaw48_four.calls (a0 : Int) (a1 : Int) (r1 : Bool) (r2 : Int) (r3 : Int) (r4 : Int) (w : World) (h : ddilaw48_four.f a0 a1 = some (r1,r2,r3,r4)) :
  Calls Try.prog 25 #[.int .u64 a0,.int .i64 a1] w fun e w' => e = .returned (.agg #[.bool r1,.int .u64 r2,.int .u64 r3,.int .i64 r4]) ∧ Below w.heap.size w w' := by
 have hu31 := Try.underlying31;have hu29 := Try.underlying29;have HB := Aside0.mk (Below.refl w.heap.size w);have H : (some (false,0,a0,a1)) = some (r1,r2,r3,r4) := h;clear h;simp only [Option.some.injEq,Prod.mk.injEq] at H;obtain ⟨rfl,rfl,rfl,rfl⟩ := H;go_enter Try.func25,Try.ntmps25;go_wp2_with (first | ((with_reducible refine gate_dst (N := 4) rfl ?_);refine XR.bx 4 31 #[.bool false,.int .u64 0,.int .u64 0,.int .i64 0] ?_;intro gb294 hg w3 hbox hb;have BK294 := Aside0.mk (hbox);have GW294 := Aside0.mk (XR.ge hg HB.out);have GE294 := GW294;replace HB := Aside0.mk (XR.bB HB.out hb);clear hb hbox hg;obtain ⟨Y4_0,Y4_1,Y4_2,Y4_3⟩ := XR.c4 BK294.out;obtain ⟨Z4_0,Z4_1,Z4_2,Z4_3⟩ := XR.f4 BK294.out));refine bodyPost_ret (results_cell_row rfl _ _ gb294 31 #[.bool false,.int .u64 0,.int .u64 a0,.int .i64 a1] (0,0) _ rfl (by first | exact XR.lb (XR.p4 BK294.out) | exact XR.p4 (XR.lb BK294.out)) Try.underlying31 rfl (by kernel_rfl)) rfl ?_;exact XR.re HB.out
end Go.Proofs.Ytjifdgicamlikaa.QA
