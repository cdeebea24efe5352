-- Written by this session's own program (wip/xprint) out of the translation; Lean checks it.
import Derived.Test.YtonpcojdpfmbkaaDoorQAd1
import Derived.Test.YtonpcojdpfmbkaaDoorQAx0
import Derived.Test.YtonpcojdpfmbkaaDoorQAx3
namespace Go.Proofs.YtonpcojdpfmbkaaDoor.QA
open Go.RowKit Go.Proofs.YtonpcojdpfmbkaaDoorW.PrintWords Go.Proofs.YtonpcojdpfmbkaaDoorW.PrintLast Go.Proofs.YtonpcojdpfmbkaaDoorW.PrintMore
attribute [local go_sem] max2_int min2_int max_two min_two max_three min_three max_four min_four   -- for this text's walks alone
attribute [local go_sem high] Go.Proofs.YtonpcojdpfmbkaaDoor.XW.cell_setCell_lit
set_option linter.unusedVariables false
set_option linter.unusedSimpArgs false
-- NOT PRINTED: function 68 (slices_BinarySearchFunc)
/-! ### lease_place_1: function 69 -/
set_option maxHeartbeats 8000000 in
set_option maxRecDepth 100000 in
theorem lease_place_1.calls (k : Nat) (a0_0 : Bool) (a0_1 : Int) (a0_2 : Int) (a0_3 : ByteArray) (a0_4 : Int) (a0_5 : Int) (a0_6 : Int) (a0_7 : ByteArray) (a0_8 : Int) (a1_0 : Bool) (a1_1 : Int) (a1_2 : Int) (r : Int) (w : World) (h : lease_place_1.f k a0_0 a0_1 a0_2 a0_3 a0_4 a0_5 a0_6 a0_7 a0_8 a1_0 a1_1 a1_2 = some r) :
  Calls Tryd.prog 69 #[.agg #[.bool a0_0,.int .u64 a0_1,.int .u64 a0_2,.string a0_3,.int .i64 a0_4,.int .i64 a0_5,.int .i64 a0_6,.string a0_7,.int .i64 a0_8],.agg #[.bool a1_0,.int .u64 a1_1,.int .u64 a1_2]] w fun e w' => e = .returned (.int .i64 r) ∧ Below w.heap.size w w' := by
 have hu41 := Tryd.underlying41;have hu29 := Tryd.underlying29;have HB := Aside0.mk (Below.refl w.heap.size w);have H : ((addr_Compare.f k a0_0 a0_1 a0_2 a1_0 a1_1 a1_2).bind fun t174 => (some t174)) = some r := h;clear h;replace H := Option.bind_eq_some_iff.mp H;obtain ⟨t174,A30,H⟩ := H;replace H : (some t174) = some r := H;have A3 := Aside0.mk A30;clear A30;obtain rfl := Option.some.inj H;go_enter Tryd.func69,Tryd.ntmps69;go_wp2_with (first | ((with_reducible refine gate_dst (N := 2) rfl ?_);refine XR.bx 2 41 #[.bool a0_0,.int .u64 a0_1,.int .u64 a0_2,.string a0_3,.int .i64 a0_4,.int .i64 a0_5,.int .i64 a0_6,.string a0_7,.int .i64 a0_8] ?_;intro gb172 hg w4 hbox hb;have BK172 := Aside0.mk (hbox);have GW172 := Aside0.mk (XR.ge hg HB.out);have GE172 := GW172;replace HB := Aside0.mk (XR.bB HB.out hb);clear hb hbox hg) | ((with_reducible refine gate_dst (N := 3) rfl ?_);refine XR.bx 3 29 #[.bool a1_0,.int .u64 a1_1,.int .u64 a1_2] ?_;intro gb173 hg w5 hbox hb;have BK173 := Aside0.mk (hbox);have GW173 := Aside0.mk (XR.ge hg HB.out);have GE173 := GW173;have NB172_173 := Aside0.mk (XR.ne hg BK172.out);have NB173_172 := Aside0.mk (XR.en hg BK172.out);replace BK172 := Aside0.mk (XR.bb BK172.out hb);replace HB := Aside0.mk (below_step (XR.sB HB.out) hb);clear hb hbox hg;have hnb6 := NB172_173.out;have hnc6 := NB173_172.out;obtain ⟨Y7_0,Y7_1,Y7_2,Y7_3,Y7_4,Y7_5,Y7_6,Y7_7,Y7_8⟩ := XR.c9 BK172.out;obtain ⟨Z7_0,Z7_1,Z7_2,Z7_3,Z7_4,Z7_5,Z7_6,Z7_7,Z7_8⟩ := XR.f9 BK172.out;obtain ⟨Y8_0,Y8_1,Y8_2⟩ := XR.c3 BK173.out;obtain ⟨Z8_0,Z8_1,Z8_2⟩ := XR.f3 BK173.out) | ((with_reducible refine gate_callee (f := 38) rfl ?_);refine XR.gL 8 Tryd.func38 #[.agg #[.bool a0_0,.int .u64 a0_1,.int .u64 a0_2],.agg #[.bool a1_0,.int .u64 a1_1,.int .u64 a1_2]] ?_;(with_reducible refine (addr_Compare.calls k a0_0 a0_1 a0_2 a1_0 a1_1 a1_2 t174 _ A3.out).mono ?_);rintro e w9 ⟨rfl,hb⟩;refine ⟨_,rfl,?_⟩;replace BK172 := Aside0.mk (XR.bb BK172.out hb);replace BK173 := Aside0.mk (XR.bb BK173.out hb);replace HB := Aside0.mk (below_step (XR.sB HB.out) hb);(try clear hb)));go_ret;exact XR.re HB.out
end Go.Proofs.YtonpcojdpfmbkaaDoor.QA
