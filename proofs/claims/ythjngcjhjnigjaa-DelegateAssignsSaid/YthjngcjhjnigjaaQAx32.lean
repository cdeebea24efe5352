import Derived.Test.YthjngcjhjnigjaaQAd2
import Derived.Test.YthjngcjhjnigjaaQAx0
import Derived.Test.YthjngcjhjnigjaaQAx1
namespace Go.Proofs.Ythjngcjhjnigjaa.QA
open Go.RowKit Go.Proofs.YthjngcjhjnigjaaW.PrintWords Go.Proofs.YthjngcjhjnigjaaW.PrintLast Go.Proofs.YthjngcjhjnigjaaW.PrintMore
attribute [local go_sem] max2_int min2_int max_two min_two max_three min_three max_four min_four
attribute [local go_sem high] Go.Proofs.Ythjngcjhjnigjaa.XW.cell_setCell_lit
set_option linter.unusedVariables false
set_option linter.unusedSimpArgs false
attribute [local go_sem high] eqA26
set_option maxHeartbeats 8000000 in
set_option maxRecDepth 100000 in
theorem ddiref43_taken.calls (k : Nat) (A0 : Option Addr) (c0 : Nat) (l0 : List (S70)) (a1_0 : Bool) (a1_1 : Int) (a1_2 : Int) (a1_3 : Int) (r : Bool) (w : World) (hr0 : Kd.C k70 w A0 l0.length l0) (hc0 : l0.length ≤ c0) (h : ddiref43_taken.f k l0 a1_0 a1_1 a1_2 a1_3 = some r) :
  Calls Try.prog 68 #[.slice A0 l0.length c0,.agg #[.bool a1_0,.int .u64 a1_1,.int .u64 a1_2,.int .i64 a1_3]] w fun e w' => e = .returned (.bool r) ∧ Below w.heap.size w w' := by
 have hu26 := Try.underlying26;have HR0 := Aside0.mk hr0;have HC0 := Aside0.mk hc0;clear hr0 hc0;have HB := Aside0.mk (Below.refl w.heap.size w);have H : (ddiref43_taken.l0 k l0 0 a1_0 a1_1 a1_2 a1_3) = some r := h;clear h;have H' := Aside0.mk H;clear H;go_enter Try.func68,Try.ntmps68;go_wp2_with (first | ((with_reducible refine gate_dst (N := 3) rfl ?_);refine XR.bx 3 26 #[.bool a1_0,.int .u64 a1_1,.int .u64 a1_2,.int .i64 a1_3] ?_;intro gb418 hg w3 hbox hb;have BK418 := Aside0.mk (hbox);have GW418 := Aside0.mk (XR.ge hg HB.out);have GE418 := GW418;replace HB := Aside0.mk (XR.bB HB.out hb);clear hb hbox hg))
 repeat (go_quiet (first | ((with_reducible refine gate_dst (N := 3) rfl ?_);refine XR.bx 3 26 #[.bool a1_0,.int .u64 a1_1,.int .u64 a1_2,.int .i64 a1_3] ?_;intro gb418 hg w3 hbox hb;have BK418 := Aside0.mk (hbox);have GW418 := Aside0.mk (XR.ge hg HB.out);have GE418 := GW418;replace HB := Aside0.mk (XR.bB HB.out hb);clear hb hbox hg));try go_wp2_with (first | ((with_reducible refine gate_dst (N := 3) rfl ?_);refine XR.bx 3 26 #[.bool a1_0,.int .u64 a1_1,.int .u64 a1_2,.int .i64 a1_3] ?_;intro gb418 hg w3 hbox hb;have BK418 := Aside0.mk (hbox);have GW418 := Aside0.mk (XR.ge hg HB.out);have GE418 := GW418;replace HB := Aside0.mk (XR.bB HB.out hb);clear hb hbox hg)))
 go_loopg [5] k (fun kq v5 w' => ∃ (x5_1 : Int),v5 = .int .i64 x5_1 ∧ Aside0 (ddiref43_taken.l0 kq l0 x5_1 a1_0 a1_1 a1_2 a1_3 = some r) ∧ Aside0 (kq ≤ k) ∧ Aside0 (w'.heap[gb418]? = some (.cells #[.bool a1_0,.int .u64 a1_1,.int .u64 a1_2,.int .i64 a1_3] 26 (0,0))) ∧ Aside0 (Below w.heap.size w w'))
 case atStart => exact ⟨(0),XR.rf,H',⟨Nat.le_refl _⟩,(XR.fb BK418.out),⟨XR.sB HB.out⟩⟩
 case round =>
  clear H';(try clear p2);obtain ⟨x5_1,rfl,HA,HK1,BK418,HB⟩ := hrel
  cases gk with
  | zero => exact absurd HA.out (by simp [ddiref43_taken.l0])
  | succ k1 =>
   have H := HA.out;clear HA;simp only [ddiref43_taken.l0] at H;by_cases c4 : x5_1 < (l0.length : Int)
   ·rw [if_pos c4] at H;have c4b0 := decide_eq_true c4;clear c4;by_cases c5 : 0 ≤ x5_1
    ·rw [if_pos c5] at H;have c5b0 := decide_eq_true c5;clear c5;by_cases c6 : ((((rd_T70 l0 x5_1).f0.f0.f0) == a1_0 && (((rd_T70 l0 x5_1).f0.f0.f1) == a1_1 && (((rd_T70 l0 x5_1).f0.f0.f2) == a1_2))) && (((rd_T70 l0 x5_1).f0.f1) == a1_3)) = true
     ·rw [if_pos c6] at H;have c6b0 : ((((rd_T70 l0 x5_1).f0.f0.f0) == a1_0 && (((rd_T70 l0 x5_1).f0.f0.f1) == a1_1 && (((rd_T70 l0 x5_1).f0.f0.f2) == a1_2))) && (((rd_T70 l0 x5_1).f0.f1) == a1_3)) = true := c6;clear c6;obtain rfl := Option.some.inj H;have p419 : 0 ≤ (x5_1 : Int) := XR.od;have q419 : x5_1 < (l0.length : Int) := XR.od;obtain ⟨ad419,e419,hx419_0,hx419_1,hx419_2,hx419_3,hx419_4,hx419_5⟩ := at_T70 (Kd.C_below HR0.out HB.out) x5_1 p419 q419
      cases e419
      replace p419 := eq_true p419;replace q419 := eq_true q419;obtain ⟨Y7_0,Y7_1,Y7_2,Y7_3⟩ := XR.c4 BK418.out;obtain ⟨Z7_0,Z7_1,Z7_2,Z7_3⟩ := XR.f4 BK418.out;go_wp2
      repeat (go_quiet (fail);try go_wp2)
      go_ret;exact XR.re HB.out
     ·rw [if_neg c6] at H;have c6b0 : ((((rd_T70 l0 x5_1).f0.f0.f0) == a1_0 && (((rd_T70 l0 x5_1).f0.f0.f1) == a1_1 && (((rd_T70 l0 x5_1).f0.f0.f2) == a1_2))) && (((rd_T70 l0 x5_1).f0.f1) == a1_3)) = false := by simpa using c6
      clear c6;have H' := Aside0.mk H;clear H;have p419 : 0 ≤ (x5_1 : Int) := XR.od;have q419 : x5_1 < (l0.length : Int) := XR.od;obtain ⟨ad419,e419,hx419_0,hx419_1,hx419_2,hx419_3,hx419_4,hx419_5⟩ := at_T70 (Kd.C_below HR0.out HB.out) x5_1 p419 q419
      cases e419
      replace p419 := eq_true p419;replace q419 := eq_true q419;obtain ⟨Y8_0,Y8_1,Y8_2,Y8_3⟩ := XR.c4 BK418.out;obtain ⟨Z8_0,Z8_1,Z8_2,Z8_3⟩ := XR.f4 BK418.out;go_wp2
      repeat (go_quiet (fail);try go_wp2)
      go_roundg k1
      case measure => have := HK1.out;omega
      case rel => exact ⟨(wrap64 (x5_1 + 1)),XR.rf,H',⟨by have := HK1.out;omega⟩,(XR.fb BK418.out),⟨XR.sB HB.out⟩⟩
    ·rw [if_neg c5] at H;exact absurd H (by simp)
   ·rw [if_neg c4] at H;have c4b0 := decide_eq_false c4;clear c4;obtain rfl := Option.some.inj H;go_wp2
    repeat (go_quiet (fail);try go_wp2)
    go_ret;exact XR.re HB.out
end Go.Proofs.Ythjngcjhjnigjaa.QA
