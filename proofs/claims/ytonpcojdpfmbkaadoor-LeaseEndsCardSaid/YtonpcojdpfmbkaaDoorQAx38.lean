import Derived.Test.YtonpcojdpfmbkaaDoorQAd4
import Derived.Test.YtonpcojdpfmbkaaDoorQAx0
import Derived.Test.YtonpcojdpfmbkaaDoorQAx35
namespace Go.Proofs.YtonpcojdpfmbkaaDoor.QA
open Go.RowKit Go.Proofs.YtonpcojdpfmbkaaDoorW.PrintWords Go.Proofs.YtonpcojdpfmbkaaDoorW.PrintLast Go.Proofs.YtonpcojdpfmbkaaDoorW.PrintMore
attribute [local go_sem] max2_int min2_int max_two min_two max_three min_three max_four min_four   -- for this text's walks alone
attribute [local go_sem high] Go.Proofs.YtonpcojdpfmbkaaDoor.XW.cell_setCell_lit
set_option linter.unusedVariables false
set_option linter.unusedSimpArgs false
set_option maxHeartbeats 8000000 in
set_option maxRecDepth 100000 in
theorem ddiref38_lowest.calls (k : Nat) (A0 : Option Addr) (c0 : Nat) (l0 : List (S41)) (a1 : Int) (r : Int) (w : World) (hr0 : Kd.C k41 w A0 l0.length l0) (hc0 : l0.length ≤ c0) (h : ddiref38_lowest.f k l0 a1 = some r) :
  Calls Tryd.prog 66 #[.slice A0 l0.length c0,.int .i64 a1] w fun e w' => e = .returned (.int .i64 r) ∧ Below w.heap.size w w' := by
 have hu41 := Tryd.underlying41;have HR0 := Aside0.mk hr0;have HC0 := Aside0.mk hc0;clear hr0 hc0;have HB := Aside0.mk (Below.refl w.heap.size w);have H : (ddiref38_lowest.l0 k l0 a1 0) = some r := h;clear h;have H' := Aside0.mk H;clear H;go_enter Tryd.func66,Tryd.ntmps66;go_wp2;go_loopg [5] k (fun kq v5 w' => ∃ (x5_1 : Int),v5 = .int .i64 x5_1 ∧ Aside0 (ddiref38_lowest.l0 kq l0 a1 x5_1 = some r) ∧ Aside0 (kq ≤ k) ∧ Aside0 (Below w.heap.size w w'))
 case atStart => exact ⟨(0),XR.rf,H',⟨Nat.le_refl _⟩,⟨XR.sB HB.out⟩⟩
 case round =>
  clear H';(try clear p2);obtain ⟨x5_1,rfl,HA,HK1,HB⟩ := hrel
  cases gk with
  | zero => exact absurd HA.out (by simp [ddiref38_lowest.l0])
  | succ k1 =>
   have H := HA.out;clear HA;simp only [ddiref38_lowest.l0] at H;by_cases c3 : x5_1 < (l0.length : Int)
   ·rw [if_pos c3] at H;have c3b0 := decide_eq_true c3;clear c3;by_cases c4 : 0 ≤ x5_1
    ·rw [if_pos c4] at H;have c4b0 := decide_eq_true c4;clear c4;replace H := Option.bind_eq_some_iff.mp H;obtain ⟨t533,A50,H⟩ := H;(try dsimp only at H);have A5 := Aside0.mk A50;clear A50;by_cases c6 : t533 = true
     ·subst c6;rw [if_pos rfl] at H;(try dsimp only at H);have H' := Aside0.mk H;clear H;have p532 : 0 ≤ (x5_1 : Int) := XR.od;have q532 : x5_1 < (l0.length : Int) := XR.od;obtain ⟨ad532,e532,hx532_0,hx532_1,hx532_2,hx532_3,hx532_4,hx532_5,hx532_6,hx532_7,hx532_8⟩ := at_T41 (Kd.C_below HR0.out HB.out) x5_1 p532 q532
      cases e532
      replace p532 := eq_true p532;replace q532 := eq_true q532;go_wp2_with (first | ((with_reducible refine gate_callee (f := 52) rfl ?_);refine XR.gL 17 Tryd.func52 #[.agg #[.bool ((rd_T41 l0 x5_1).f0.f0),.int .u64 ((rd_T41 l0 x5_1).f0.f1),.int .u64 ((rd_T41 l0 x5_1).f0.f2),.string ((rd_T41 l0 x5_1).f1),.int .i64 ((rd_T41 l0 x5_1).f2),.int .i64 ((rd_T41 l0 x5_1).f3),.int .i64 ((rd_T41 l0 x5_1).f4),.string ((rd_T41 l0 x5_1).f5),.int .i64 ((rd_T41 l0 x5_1).f6)],.int .i64 a1] ?_;(with_reducible refine (ddiref38_Force.calls ((rd_T41 l0 x5_1).f0.f0) ((rd_T41 l0 x5_1).f0.f1) ((rd_T41 l0 x5_1).f0.f2) ((rd_T41 l0 x5_1).f1) ((rd_T41 l0 x5_1).f2) ((rd_T41 l0 x5_1).f3) ((rd_T41 l0 x5_1).f4) ((rd_T41 l0 x5_1).f5) ((rd_T41 l0 x5_1).f6) a1 true _ A5.out).mono ?_);rintro e w7 ⟨rfl,hb⟩;refine ⟨_,rfl,?_⟩;replace HB := Aside0.mk (XR.bB HB.out hb);(try clear hb)));go_roundg k1
      case measure => have := HK1.out;omega
      case rel => exact ⟨(wrap64 (x5_1 + 1)),XR.rf,H',⟨by have := HK1.out;omega⟩,⟨XR.sB HB.out⟩⟩
     ·replace c6 := Bool.eq_false_iff.mpr c6;subst c6;rw [if_neg (show ¬ (false = true) by decide)] at H;(try dsimp only at H);obtain rfl := Option.some.inj H;have p532 : 0 ≤ (x5_1 : Int) := XR.od;have q532 : x5_1 < (l0.length : Int) := XR.od;obtain ⟨ad532,e532,hx532_0,hx532_1,hx532_2,hx532_3,hx532_4,hx532_5,hx532_6,hx532_7,hx532_8⟩ := at_T41 (Kd.C_below HR0.out HB.out) x5_1 p532 q532
      cases e532
      replace p532 := eq_true p532;replace q532 := eq_true q532;go_wp2_with (first | ((with_reducible refine gate_callee (f := 52) rfl ?_);refine XR.gL 17 Tryd.func52 #[.agg #[.bool ((rd_T41 l0 x5_1).f0.f0),.int .u64 ((rd_T41 l0 x5_1).f0.f1),.int .u64 ((rd_T41 l0 x5_1).f0.f2),.string ((rd_T41 l0 x5_1).f1),.int .i64 ((rd_T41 l0 x5_1).f2),.int .i64 ((rd_T41 l0 x5_1).f3),.int .i64 ((rd_T41 l0 x5_1).f4),.string ((rd_T41 l0 x5_1).f5),.int .i64 ((rd_T41 l0 x5_1).f6)],.int .i64 a1] ?_;(with_reducible refine (ddiref38_Force.calls ((rd_T41 l0 x5_1).f0.f0) ((rd_T41 l0 x5_1).f0.f1) ((rd_T41 l0 x5_1).f0.f2) ((rd_T41 l0 x5_1).f1) ((rd_T41 l0 x5_1).f2) ((rd_T41 l0 x5_1).f3) ((rd_T41 l0 x5_1).f4) ((rd_T41 l0 x5_1).f5) ((rd_T41 l0 x5_1).f6) a1 false _ A5.out).mono ?_);rintro e w8 ⟨rfl,hb⟩;refine ⟨_,rfl,?_⟩;replace HB := Aside0.mk (XR.bB HB.out hb);(try clear hb)));go_ret;exact XR.re HB.out
    ·rw [if_neg c4] at H;exact absurd H (by simp)
   ·rw [if_neg c3] at H;have c3b0 := decide_eq_false c3;clear c3;obtain rfl := Option.some.inj H;go_wp2;go_ret;exact XR.re HB.out
end Go.Proofs.YtonpcojdpfmbkaaDoor.QA
