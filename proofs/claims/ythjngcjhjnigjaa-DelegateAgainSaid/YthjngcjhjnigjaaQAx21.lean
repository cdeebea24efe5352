import Derived.Test.YthjngcjhjnigjaaQAd1
import Derived.Test.YthjngcjhjnigjaaQAx0
import Derived.Test.YthjngcjhjnigjaaQAx3
import Derived.Test.YthjngcjhjnigjaaQAx7
import Derived.Test.YthjngcjhjnigjaaXL
import Derived.Test.YthjngcjhjnigjaaQAx1
import Derived.Test.YthjngcjhjnigjaaQAx20
namespace Go.Proofs.Ythjngcjhjnigjaa.QA
open Go.RowKit Go.Proofs.YthjngcjhjnigjaaW.PrintWords Go.Proofs.YthjngcjhjnigjaaW.PrintLast Go.Proofs.YthjngcjhjnigjaaW.PrintMore
attribute [local go_sem] max2_int min2_int max_two min_two max_three min_three max_four min_four
attribute [local go_sem high] Go.Proofs.Ythjngcjhjnigjaa.XW.cell_setCell_lit
set_option linter.unusedVariables false
set_option linter.unusedSimpArgs false
attribute [local go_sem high] eqA61 eqA70
set_option maxHeartbeats 8000000 in
set_option maxRecDepth 100000 in
theorem delegate_Assign_1.calls (a0_0 : Bool) (a0_1 : Int) (a0_2 : Int) (a0_3 : Int) (a0_4 : ByteArray) (a0_5 : Int) (g1_0 : Nat) (a1_0 : ByteArray) (r : Bool) (w : World) (hb1_0 : w.heap[g1_0]? = some (.cells #[.string a1_0] 9 (0,0))) (h : delegate_Assign_1.f a0_0 a0_1 a0_2 a0_3 a0_4 a0_5 a1_0 = some r) :
  Calls Try.prog 47 #[.agg #[.bool a0_0,.int .u64 a0_1,.int .u64 a0_2,.int .i64 a0_3,.string a0_4,.int .i64 a0_5],.pointer (some ⟨g1_0,0,none⟩)] w fun e w' => e = .returned (.bool r) ∧ Below w.heap.size w w' := by
 have hu61 := Try.underlying61;have BK700100 := Aside0.mk hb1_0;clear hb1_0;have HB := Aside0.mk (Below.refl w.heap.size w);have H : (some (a0_4.toList == a1_0.toList)) = some r := h;clear h;obtain rfl := Option.some.inj H;go_enter Try.func47,Try.ntmps47;go_wp2_with (first | ((with_reducible refine gate_dst (N := 2) rfl ?_);refine XR.bx 2 61 #[.bool a0_0,.int .u64 a0_1,.int .u64 a0_2,.int .i64 a0_3,.string a0_4,.int .i64 a0_5] ?_;intro gb270 hg w3 hbox hb;have BK270 := Aside0.mk (hbox);have GW270 := Aside0.mk (XR.ge hg HB.out);have GE270 := GW270;have NB700100_270 := Aside0.mk ((by rw [hg];exact Nat.ne_of_lt (blk_lt (g := g1_0) (o := .cells #[.string a1_0] 9 (0,0)) (XR.lb BK700100.out)) : g1_0 ≠ gb270));have NB270_700100 := Aside0.mk ((by rw [hg];exact Nat.ne_of_gt (blk_lt (g := g1_0) (o := .cells #[.string a1_0] 9 (0,0)) (XR.lb BK700100.out)) : gb270 ≠ g1_0));replace BK700100 := Aside0.mk (blk_below (g := g1_0) (o := .cells #[.string a1_0] 9 (0,0)) (XR.lb BK700100.out) hb);replace HB := Aside0.mk (below_step (XR.sB HB.out) hb);clear hb hbox hg;have hnb4 := NB270_700100.out;have hnc4 := NB700100_270.out;obtain ⟨Y5_0,Y5_1,Y5_2,Y5_3,Y5_4,Y5_5⟩ := XR.c6 BK270.out;obtain ⟨Z5_0,Z5_1,Z5_2,Z5_3,Z5_4,Z5_5⟩ := XR.f6 BK270.out;have Y6_0 : w3.cell? ⟨g1_0,0,none⟩ = some (.string a1_0) := (blk_cell BK700100.out 0).trans rfl;have Z6_0 := blk_frozen BK700100.out 0));go_ret;exact XR.re HB.out
end Go.Proofs.Ythjngcjhjnigjaa.QA
