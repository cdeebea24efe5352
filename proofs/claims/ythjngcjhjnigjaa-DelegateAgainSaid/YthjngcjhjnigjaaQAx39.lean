import Derived.Test.YthjngcjhjnigjaaQAd3
import Derived.Test.YthjngcjhjnigjaaQAx0
import Derived.Test.YthjngcjhjnigjaaQAx3
namespace Go.Proofs.Ythjngcjhjnigjaa.QA
open Go.RowKit Go.Proofs.YthjngcjhjnigjaaW.PrintWords Go.Proofs.YthjngcjhjnigjaaW.PrintLast Go.Proofs.YthjngcjhjnigjaaW.PrintMore
attribute [local go_sem] max2_int min2_int max_two min_two max_three min_three max_four min_four
attribute [local go_sem high] Go.Proofs.Ythjngcjhjnigjaa.XW.cell_setCell_lit
set_option linter.unusedVariables false
set_option linter.unusedSimpArgs false
attribute [local go_sem high] eqA61
set_option maxHeartbeats 8000000 in
set_option maxRecDepth 100000 in
theorem ddilaw43_equal.calls (k : Nat) (A0 : Option Addr) (c0 : Nat) (l0 : List (S61)) (A1 : Option Addr) (c1 : Nat) (l1 : List (S61)) (r : Bool) (w : World) (hr0 : Kd.C k61 w A0 l0.length l0) (hc0 : l0.length ≤ c0) (hr1 : Kd.C k61 w A1 l1.length l1) (hc1 : l1.length ≤ c1) (h : ddilaw43_equal.f k l0 l1 = some r) :
  Calls Try.prog 24 #[.slice A0 l0.length c0,.slice A1 l1.length c1] w fun e w' => e = .returned (.bool r) ∧ Drawn0 w w' := by
 have hu61 := Try.underlying61;have HR0 := Aside0.mk hr0;have HC0 := Aside0.mk hc0;clear hr0 hc0;have HR1 := Aside0.mk hr1;have HC1 := Aside0.mk hc1;clear hr1 hc1;have H : (if (l0.length : Int) = (l1.length : Int) then (ddilaw43_equal.l0 k l0 l1 (l0.length : Int) 0) else (some false)) = some r := h;clear h;by_cases c3 : (l0.length : Int) = (l1.length : Int)
 ·rw [if_pos c3] at H;have c3b0 := beq_iff_eq.mpr c3;have c3b1 := bne_eq_false_iff_eq.mpr c3;have c3b2 : (l0.length == l1.length) = true := by first | simpa using c3 | (simp at c3 ⊢;omega)
  clear c3;have H' := Aside0.mk H;clear H;go_enter Try.func24,Try.ntmps24;go_wp2
  repeat (go_quiet (fail);try go_wp2)
  go_loopg [13] k (fun kq v13 w' => ∃ (x13_1 : Int),v13 = .int .i64 x13_1 ∧ Aside0 (ddilaw43_equal.l0 kq l0 l1 (l0.length : Int) x13_1 = some r) ∧ Aside0 (kq ≤ k) ∧ Drawn0 w w')
  case atStart => exact ⟨(0),XR.rf,H',⟨Nat.le_refl _⟩,by repeat (first | exact Drawn0.refl _ | apply Drawn0.step)⟩
  case round =>
   clear H';(try clear c1);(try clear c2);(try clear p2);(try clear c3);(try clear c3b0);(try clear c3b1);(try clear c3b2);obtain ⟨x13_1,rfl,HA,HK1,⟨m1,rfl⟩⟩ := hrel
   cases gk with
   | zero => exact absurd HA.out (by simp [ddilaw43_equal.l0])
   | succ k1 =>
    have H := HA.out;clear HA;simp only [ddilaw43_equal.l0] at H;by_cases c4 : x13_1 < (l0.length : Int)
    ·rw [if_pos c4] at H;have c4b0 := decide_eq_true c4;clear c4;by_cases c5 : 0 ≤ x13_1
     ·rw [if_pos c5] at H;have c5b0 := decide_eq_true c5;clear c5;by_cases c6 : x13_1 < (l0.length : Int)
      ·rw [if_pos c6] at H;have c6b0 := decide_eq_true c6;clear c6;by_cases c7 : x13_1 < (l1.length : Int)
       ·rw [if_pos c7] at H;have c7b0 := decide_eq_true c7;clear c7;by_cases c8 : (((!(((rd_T61 l0 x13_1).f0.f0.f0) == ((rd_T61 l1 x13_1).f0.f0.f0)) || (!(((rd_T61 l0 x13_1).f0.f0.f1) == ((rd_T61 l1 x13_1).f0.f0.f1)) || (!(((rd_T61 l0 x13_1).f0.f0.f2) == ((rd_T61 l1 x13_1).f0.f0.f2))))) || (!(((rd_T61 l0 x13_1).f0.f1) == ((rd_T61 l1 x13_1).f0.f1)))) || (!((((rd_T61 l0 x13_1).f1).toList) == (((rd_T61 l1 x13_1).f1).toList)) || (!(((rd_T61 l0 x13_1).f2) == ((rd_T61 l1 x13_1).f2))))) = true
        ·rw [if_pos c8] at H;have c8b0 : (((!(((rd_T61 l0 x13_1).f0.f0.f0) == ((rd_T61 l1 x13_1).f0.f0.f0)) || (!(((rd_T61 l0 x13_1).f0.f0.f1) == ((rd_T61 l1 x13_1).f0.f0.f1)) || (!(((rd_T61 l0 x13_1).f0.f0.f2) == ((rd_T61 l1 x13_1).f0.f0.f2))))) || (!(((rd_T61 l0 x13_1).f0.f1) == ((rd_T61 l1 x13_1).f0.f1)))) || (!((((rd_T61 l0 x13_1).f1).toList) == (((rd_T61 l1 x13_1).f1).toList)) || (!(((rd_T61 l0 x13_1).f2) == ((rd_T61 l1 x13_1).f2))))) = true := c8;clear c8;obtain rfl := Option.some.inj H;have p526 : 0 ≤ (x13_1 : Int) := XR.od;have q526 : x13_1 < (l0.length : Int) := XR.od;obtain ⟨ad526,e526,hx526_0,hx526_1,hx526_2,hx526_3,hx526_4,hx526_5⟩ := at_T61 HR0.out x13_1 p526 q526
         cases e526
         replace p526 := eq_true p526;replace q526 := eq_true q526;have p527 : 0 ≤ (x13_1 : Int) := XR.od;have q527 : x13_1 < (l1.length : Int) := XR.od;obtain ⟨ad527,e527,hx527_0,hx527_1,hx527_2,hx527_3,hx527_4,hx527_5⟩ := at_T61 HR1.out x13_1 p527 q527
         cases e527
         replace p527 := eq_true p527;replace q527 := eq_true q527;go_wp2
         repeat (go_quiet (fail);try go_wp2)
         go_ret;exact ⟨by first | rfl | (simp;done) | (simp [*];done),by repeat (first | exact Drawn0.refl _ | apply Drawn0.step)⟩
        ·rw [if_neg c8] at H;have c8b0 : (((!(((rd_T61 l0 x13_1).f0.f0.f0) == ((rd_T61 l1 x13_1).f0.f0.f0)) || (!(((rd_T61 l0 x13_1).f0.f0.f1) == ((rd_T61 l1 x13_1).f0.f0.f1)) || (!(((rd_T61 l0 x13_1).f0.f0.f2) == ((rd_T61 l1 x13_1).f0.f0.f2))))) || (!(((rd_T61 l0 x13_1).f0.f1) == ((rd_T61 l1 x13_1).f0.f1)))) || (!((((rd_T61 l0 x13_1).f1).toList) == (((rd_T61 l1 x13_1).f1).toList)) || (!(((rd_T61 l0 x13_1).f2) == ((rd_T61 l1 x13_1).f2))))) = false := by simpa using c8
         clear c8;have H' := Aside0.mk H;clear H;have p526 : 0 ≤ (x13_1 : Int) := XR.od;have q526 : x13_1 < (l0.length : Int) := XR.od;obtain ⟨ad526,e526,hx526_0,hx526_1,hx526_2,hx526_3,hx526_4,hx526_5⟩ := at_T61 HR0.out x13_1 p526 q526
         cases e526
         replace p526 := eq_true p526;replace q526 := eq_true q526;have p527 : 0 ≤ (x13_1 : Int) := XR.od;have q527 : x13_1 < (l1.length : Int) := XR.od;obtain ⟨ad527,e527,hx527_0,hx527_1,hx527_2,hx527_3,hx527_4,hx527_5⟩ := at_T61 HR1.out x13_1 p527 q527
         cases e527
         replace p527 := eq_true p527;replace q527 := eq_true q527;go_wp2
         repeat (go_quiet (fail);try go_wp2)
         go_roundg k1
         case measure => have := HK1.out;omega
         case rel => exact ⟨(wrap64 (x13_1 + 1)),XR.rf,H',⟨by have := HK1.out;omega⟩,by repeat (first | exact Drawn0.refl _ | apply Drawn0.step)⟩
       ·rw [if_neg c7] at H;exact absurd H (by simp)
      ·rw [if_neg c6] at H;exact absurd H (by simp)
     ·rw [if_neg c5] at H;exact absurd H (by simp)
    ·rw [if_neg c4] at H;have c4b0 := decide_eq_false c4;clear c4;obtain rfl := Option.some.inj H;go_wp2
     repeat (go_quiet (fail);try go_wp2)
     go_ret;exact ⟨by first | rfl | (simp;done) | (simp [*];done),by repeat (first | exact Drawn0.refl _ | apply Drawn0.step)⟩
 ·rw [if_neg c3] at H;have c3b0 := beq_eq_false_iff_ne.mpr c3;have c3b1 := bne_iff_ne.mpr c3;have c3b2 : (l0.length == l1.length) = false := by first | simpa using c3 | (simp at c3 ⊢;omega)
  obtain rfl := Option.some.inj H;go_enter Try.func24,Try.ntmps24;go_wp2
  repeat (go_quiet (fail);try go_wp2)
  go_ret;exact ⟨by first | rfl | (simp;done) | (simp [*];done),by repeat (first | exact Drawn0.refl _ | apply Drawn0.step)⟩
end Go.Proofs.Ythjngcjhjnigjaa.QA
