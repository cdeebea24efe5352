import Derived.Test.YtngfffoeaghhhaaDoorQAd1
import Derived.Test.YtngfffoeaghhhaaDoorQAx0
import Derived.Test.YtngfffoeaghhhaaDoorQAx9
namespace Go.Proofs.YtngfffoeaghhhaaDoor.QA
open Go.RowKit Go.Proofs.YtngfffoeaghhhaaDoorW.PrintWords Go.Proofs.YtngfffoeaghhhaaDoorW.PrintLast Go.Proofs.YtngfffoeaghhhaaDoorW.PrintMore
attribute [local go_sem] max2_int min2_int max_two min_two max_three min_three max_four min_four
attribute [local go_sem high] Go.Proofs.YtngfffoeaghhhaaDoor.XW.cell_setCell_lit
set_option linter.unusedVariables false
set_option linter.unusedSimpArgs false
set_option maxHeartbeats 8000000 in
set_option maxRecDepth 100000 in
theorem ddiref35_Valid.calls (k : Nat) (A0 : Option Addr) (c0 : Nat) (l0 : List (S59)) (r : Bool) (w : World) (hr0 : Kd.C k59 w A0 l0.length l0) (hc0 : l0.length ≤ c0) (h : ddiref35_Valid.f k l0 = some r) :
  Calls Tryd.prog 30 #[.slice A0 l0.length c0] w fun e w' => e = .returned (.bool r) ∧ Drawn0 w w' := by
 have HR0 := Aside0.mk hr0;have HC0 := Aside0.mk hc0;clear hr0 hc0;have H : (if (l0.length : Int) > 32 then (some false) else (ddiref35_Valid.l0 k l0 0 0)) = some r := h;clear h;by_cases c2 : (l0.length : Int) > 32
 ·rw [if_pos c2] at H;have c2b0 := decide_eq_true c2;have c2b1 : decide (32 < l0.length) = true := decide_eq_true (by omega);clear c2;obtain rfl := Option.some.inj H;go_enter Tryd.func30,Tryd.ntmps30;go_wp2;go_ret;exact ⟨by first | rfl | (simp;done) | (simp [*];done),by repeat (first | exact Drawn0.refl _ | apply Drawn0.step)⟩
 ·rw [if_neg c2] at H;have c2b0 := decide_eq_false c2;have c2b1 : decide (32 < l0.length) = false := decide_eq_false (by omega);clear c2;have H' := Aside0.mk H;clear H;go_enter Tryd.func30,Tryd.ntmps30;go_wp2;go_loopg [3,4] k (fun kq v3 v4 w' => ∃ (x3_1 : Int) (x4_1 : Int),v3 = .int .i64 x3_1 ∧ v4 = .int .i64 x4_1 ∧ Aside0 (ddiref35_Valid.l0 kq l0 x3_1 x4_1 = some r) ∧ Aside0 (kq ≤ k) ∧ Drawn0 w w')
  case atStart => exact ⟨(0),(0),XR.rf,XR.rf,H',⟨Nat.le_refl _⟩,by repeat (first | exact Drawn0.refl _ | apply Drawn0.step)⟩
  case round =>
   clear H';(try clear c2);(try clear c2b0);(try clear c2b1);(try clear p2);obtain ⟨x3_1,x4_1,rfl,rfl,HA,HK1,⟨m1,rfl⟩⟩ := hrel
   cases gk with
   | zero => exact absurd HA.out (by simp [ddiref35_Valid.l0])
   | succ k1 =>
    have H := HA.out;clear HA;simp only [ddiref35_Valid.l0] at H;by_cases c3 : x4_1 < (l0.length : Int)
    ·rw [if_pos c3] at H;have c3b0 := decide_eq_true c3;clear c3;by_cases c4 : 0 ≤ x4_1
     ·rw [if_pos c4] at H;have c4b0 := decide_eq_true c4;clear c4;have HC5 := Aside0.mk H;clear H;have p158 : 0 ≤ (x4_1 : Int) := XR.od;have q158 : x4_1 < (l0.length : Int) := XR.od;obtain ⟨ad158,e158,hx158_0,hx158_1⟩ := at_T59 HR0.out x4_1 p158 q158
      cases e158
      replace p158 := eq_true p158;replace q158 := eq_true q158;go_upto_region 8 with (fail);go_cut [55] (fun v55 wc => ∃ (kq : Nat) (x55_4 : Bool),v55 = .bool x55_4 ∧ Aside0 (ddiref35_Valid.j1 kq l0 (wrap64 (x3_1 + (((rd_T59 l0 x4_1).f1).size : Int))) x4_1 x55_4 = some r) ∧ Aside0 (kq ≤ k1) ∧ Drawn0 w wc)
      case first =>
       have H := HC5.out;clear HC5;by_cases c6 : ((rd_T59 l0 x4_1).f0) < 1
       ·rw [if_pos c6] at H;have c6b0 := decide_eq_true c6;clear c6;(first | rw [c6b0] | (simp only [i64_w,i32_w];rw [c6b0]) | skip);have H' := Aside0.mk H;clear H;have p159 : 0 ≤ (x4_1 : Int) := XR.od;have q159 : x4_1 < (l0.length : Int) := XR.od;obtain ⟨ad159,e159,hx159_0,hx159_1⟩ := at_T59 HR0.out x4_1 p159 q159;obtain rfl : ad158 = ad159 := (by injection e159);replace p159 := eq_true p159;replace q159 := eq_true q159;go_wp2
        first | go_meet | ((refine Met.intro ?_);go_step;(try simp only [c3b0,c4b0,c6b0]);(repeat apply Exists.intro);refine ⟨?rel,rfl⟩)
        case rel => exact ⟨_,(true),XR.rf,(by first | exact H' | (have h_ := H';simp only [c3b0,c4b0,c6b0] at h_;exact h_)),(XR.ok HK1.out),by repeat (first | exact Drawn0.refl _ | apply Drawn0.step)⟩
       ·rw [if_neg c6] at H;have c6b0 := decide_eq_false c6;clear c6;(first | rw [c6b0] | (simp only [i64_w,i32_w];rw [c6b0]) | skip);by_cases c7 : ((rd_T59 l0 x4_1).f0) > 254
        ·rw [if_pos c7] at H;have c7b0 := decide_eq_true c7;clear c7;have H' := Aside0.mk H;clear H;have p159 : 0 ≤ (x4_1 : Int) := XR.od;have q159 : x4_1 < (l0.length : Int) := XR.od;obtain ⟨ad159,e159,hx159_0,hx159_1⟩ := at_T59 HR0.out x4_1 p159 q159;obtain rfl : ad158 = ad159 := (by injection e159);replace p159 := eq_true p159;replace q159 := eq_true q159;have p160 : 0 ≤ (x4_1 : Int) := XR.od;have q160 : x4_1 < (l0.length : Int) := XR.od;obtain ⟨ad160,e160,hx160_0,hx160_1⟩ := at_T59 HR0.out x4_1 p160 q160;obtain rfl : ad158 = ad160 := (by injection e160);replace p160 := eq_true p160;replace q160 := eq_true q160;go_wp2
         first | go_meet | ((refine Met.intro ?_);go_step;(try simp only [c3b0,c4b0,c6b0,c7b0]);(repeat apply Exists.intro);refine ⟨?rel,rfl⟩)
         case rel => exact ⟨_,(true),XR.rf,(by first | exact H' | (have h_ := H';simp only [c3b0,c4b0,c6b0,c7b0] at h_;exact h_)),(XR.ok HK1.out),by repeat (first | exact Drawn0.refl _ | apply Drawn0.step)⟩
        ·rw [if_neg c7] at H;have c7b0 := decide_eq_false c7;clear c7;by_cases c8 : (((rd_T59 l0 x4_1).f1).size : Int) > 1024
         ·rw [if_pos c8] at H;have c8b0 := decide_eq_true c8;have c8b1 : decide (1024 < ((rd_T59 l0 x4_1).f1).size) = true := decide_eq_true (by omega);clear c8;have H' := Aside0.mk H;clear H;have p159 : 0 ≤ (x4_1 : Int) := XR.od;have q159 : x4_1 < (l0.length : Int) := XR.od;obtain ⟨ad159,e159,hx159_0,hx159_1⟩ := at_T59 HR0.out x4_1 p159 q159;obtain rfl : ad158 = ad159 := (by injection e159);replace p159 := eq_true p159;replace q159 := eq_true q159;have p160 : 0 ≤ (x4_1 : Int) := XR.od;have q160 : x4_1 < (l0.length : Int) := XR.od;obtain ⟨ad160,e160,hx160_0,hx160_1⟩ := at_T59 HR0.out x4_1 p160 q160;obtain rfl : ad158 = ad160 := (by injection e160);replace p160 := eq_true p160;replace q160 := eq_true q160;have p161 : 0 ≤ (x4_1 : Int) := XR.od;have q161 : x4_1 < (l0.length : Int) := XR.od;obtain ⟨ad161,e161,hx161_0,hx161_1⟩ := at_T59 HR0.out x4_1 p161 q161;obtain rfl : ad158 = ad161 := (by injection e161);replace p161 := eq_true p161;replace q161 := eq_true q161;go_wp2
          first | go_meet | ((refine Met.intro ?_);go_step;(try simp only [c3b0,c4b0,c6b0,c7b0,c8b0]);(repeat apply Exists.intro);refine ⟨?rel,rfl⟩)
          case rel => exact ⟨_,(true),XR.rf,(by first | exact H' | (have h_ := H';simp only [c3b0,c4b0,c6b0,c7b0,c8b0] at h_;exact h_)),(XR.ok HK1.out),by repeat (first | exact Drawn0.refl _ | apply Drawn0.step)⟩
         ·rw [if_neg c8] at H;have c8b0 := decide_eq_false c8;have c8b1 : decide (1024 < ((rd_T59 l0 x4_1).f1).size) = false := decide_eq_false (by omega);clear c8;replace H := Option.bind_eq_some_iff.mp H;obtain ⟨t163,A90,H⟩ := H;(try dsimp only at H);have A9 := Aside0.mk A90;clear A90;have H' := Aside0.mk H;clear H;have p159 : 0 ≤ (x4_1 : Int) := XR.od;have q159 : x4_1 < (l0.length : Int) := XR.od;obtain ⟨ad159,e159,hx159_0,hx159_1⟩ := at_T59 HR0.out x4_1 p159 q159;obtain rfl : ad158 = ad159 := (by injection e159);replace p159 := eq_true p159;replace q159 := eq_true q159;have p160 : 0 ≤ (x4_1 : Int) := XR.od;have q160 : x4_1 < (l0.length : Int) := XR.od;obtain ⟨ad160,e160,hx160_0,hx160_1⟩ := at_T59 HR0.out x4_1 p160 q160;obtain rfl : ad158 = ad160 := (by injection e160);replace p160 := eq_true p160;replace q160 := eq_true q160;have p161 : 0 ≤ (x4_1 : Int) := XR.od;have q161 : x4_1 < (l0.length : Int) := XR.od;obtain ⟨ad161,e161,hx161_0,hx161_1⟩ := at_T59 HR0.out x4_1 p161 q161;obtain rfl : ad158 = ad161 := (by injection e161);replace p161 := eq_true p161;replace q161 := eq_true q161;have p162 : 0 ≤ (x4_1 : Int) := XR.od;have q162 : x4_1 < (l0.length : Int) := XR.od;obtain ⟨ad162,e162,hx162_0,hx162_1⟩ := at_T59 HR0.out x4_1 p162 q162;obtain rfl : ad158 = ad162 := (by injection e162);replace p162 := eq_true p162;replace q162 := eq_true q162;go_wp2_with (first | (go_at_call 46;(with_reducible refine (ddiref35_index.calls k1 _ _ l0 ((rd_T59 l0 x4_1).f0) t163 _ ?side1 ?side2 A9.out).mono ?_);(case side1 => repeat (first | exact HR0.out | (with_reducible refine Kd.C_alloc ?_ _) | (with_reducible refine Kd.C_drewN ?_ _) | (with_reducible refine Kd.C_drew ?_)));(case side2 => exact HC0.out);rintro e w' ⟨rfl,⟨nd,rfl⟩⟩))
          first | go_meet | ((refine Met.intro ?_);go_step;(try simp only [c3b0,c4b0,c6b0,c7b0,c8b0]);(repeat apply Exists.intro);refine ⟨?rel,rfl⟩)
          case rel => exact ⟨_,((t163 != x4_1)),XR.rf,(by first | exact H' | (have h_ := H';simp only [c3b0,c4b0,c6b0,c7b0,c8b0] at h_;exact h_)),(XR.ok HK1.out),by repeat (first | exact Drawn0.refl _ | apply Drawn0.step)⟩
      case rest =>
       clear HC5;(try clear p1);(try clear q1);(try clear hx1);(try clear c2);(try clear c2b0);(try clear c2b1);(try clear p2);(try clear c3);(try clear c3b0);(try clear c4);(try clear c4b0);(try clear c6);(try clear c6b0);(try clear p6);(try clear c7);(try clear c7b0);(try clear c8);(try clear c8b0);(try clear c8b1);(try clear hx158_0);(try clear hx158_1);(try clear hx159_0);(try clear hx159_1);(try clear hx160_0);(try clear hx160_1);(try clear hx161_0);(try clear hx161_1);(try clear hx162_0);(try clear hx162_1);(try clear p158);(try clear p159);(try clear p160);(try clear p161);(try clear p162);(try clear p2);(try clear q158);(try clear q159);(try clear q160);(try clear q161);(try clear q162);obtain ⟨kq,x55_4,rfl,HA,HJ4,⟨mc4,rfl⟩⟩ := hcut
       cases kq with
       | zero => exact absurd HA.out (by simp [ddiref35_Valid.j1])
       | succ kj4 =>
        have H := HA.out;clear HA;simp only [ddiref35_Valid.j1] at H;by_cases c10 : x55_4 = true
        ·subst c10;rw [if_pos rfl] at H;(try dsimp only at H);obtain rfl := Option.some.inj H;go_wp2;go_ret;exact ⟨by first | rfl | (simp;done) | (simp [*];done),by repeat (first | exact Drawn0.refl _ | apply Drawn0.step)⟩
        ·replace c10 := Bool.eq_false_iff.mpr c10;subst c10;rw [if_neg (show ¬ (false = true) by decide)] at H;(try dsimp only at H);have H' := Aside0.mk H;clear H;go_wp2;go_roundg kj4
         case measure => have := HK1.out;have := HJ4.out;omega
         case rel => exact ⟨((wrap64 (x3_1 + (((rd_T59 l0 x4_1).f1).size : Int)))),(wrap64 (x4_1 + 1)),XR.rf,XR.rf,H',⟨by have := HK1.out;have := HJ4.out;omega⟩,by repeat (first | exact Drawn0.refl _ | apply Drawn0.step)⟩
     ·rw [if_neg c4] at H;exact absurd H (by simp)
    ·rw [if_neg c3] at H;have c3b0 := decide_eq_false c3;clear c3;obtain rfl := Option.some.inj H;go_wp2;go_ret;exact ⟨by first | rfl | (simp;done) | (simp [*];done),by repeat (first | exact Drawn0.refl _ | apply Drawn0.step)⟩
end Go.Proofs.YtngfffoeaghhhaaDoor.QA
