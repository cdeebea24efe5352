import Derived.Test.YtpcjablkjaiapaaQAd
import Derived.Test.YtpcjablkjaiapaaQAx0
namespace Go.Proofs.Ytpcjablkjaiapaa.QA
open Go.RowKit Go.Proofs.YtpcjablkjaiapaaW.PrintWords Go.Proofs.YtpcjablkjaiapaaW.PrintLast Go.Proofs.YtpcjablkjaiapaaW.PrintMore
attribute [local go_sem] max2_int min2_int max_two min_two max_three min_three max_four min_four   -- for this text's walks alone
attribute [local go_sem high] Go.Proofs.Ytpcjablkjaiapaa.XW.cell_setCell_lit
set_option linter.unusedVariables false
set_option linter.unusedSimpArgs false
set_option maxHeartbeats 8000000 in
set_option maxRecDepth 100000 in
theorem ddiref35_index.calls (k : Nat) (A0 : Option Addr) (c0 : Nat) (l0 : List (S57)) (a1 : Int) (r : Int) (w : World) (hr0 : Kd.C k57 w A0 l0.length l0) (hc0 : l0.length ≤ c0) (h : ddiref35_index.f k l0 a1 = some r) :
  Calls Try.prog 61 #[.slice A0 l0.length c0,.int .i64 a1] w fun e w' => e = .returned (.int .i64 r) ∧ Drawn0 w w' := by
 have HR0 := Aside0.mk hr0;have HC0 := Aside0.mk hc0;clear hr0 hc0;have H : (ddiref35_index.l0 k l0 a1 0) = some r := h;clear h;have H' := Aside0.mk H;clear H;go_enter Try.func61,Try.ntmps61;go_wp2;go_loopg [5] k (fun kq v5 w' => ∃ (x5_1 : Int),v5 = .int .i64 x5_1 ∧ Aside0 (ddiref35_index.l0 kq l0 a1 x5_1 = some r) ∧ Aside0 (kq ≤ k) ∧ Drawn0 w w')
 case atStart => exact ⟨(0),XR.rf,H',⟨Nat.le_refl _⟩,by repeat (first | exact Drawn0.refl _ | apply Drawn0.step)⟩
 case round =>
  clear H';(try clear p2);obtain ⟨x5_1,rfl,HA,HK1,⟨m1,rfl⟩⟩ := hrel
  cases gk with
  | zero => exact absurd HA.out (by simp [ddiref35_index.l0])
  | succ k1 =>
   have H := HA.out;clear HA;simp only [ddiref35_index.l0] at H;by_cases c3 : x5_1 < (l0.length : Int)
   ·rw [if_pos c3] at H;have c3b0 := decide_eq_true c3;clear c3;by_cases c4 : 0 ≤ x5_1
    ·rw [if_pos c4] at H;have c4b0 := decide_eq_true c4;clear c4;by_cases c5 : ((rd_T57 l0 x5_1).f0) = a1
     ·rw [if_pos c5] at H;have c5b0 := beq_iff_eq.mpr c5;have c5b1 := bne_eq_false_iff_eq.mpr c5;clear c5;obtain rfl := Option.some.inj H;have p368 : 0 ≤ (x5_1 : Int) := XR.od;have q368 : x5_1 < (l0.length : Int) := XR.od;obtain ⟨ad368,e368,hx368_0,hx368_1⟩ := at_T57 HR0.out x5_1 p368 q368
      cases e368
      replace p368 := eq_true p368;replace q368 := eq_true q368;go_wp2;go_ret;exact ⟨by first | rfl | (simp;done) | (simp [*];done),by repeat (first | exact Drawn0.refl _ | apply Drawn0.step)⟩
     ·rw [if_neg c5] at H;have c5b0 := beq_eq_false_iff_ne.mpr c5;have c5b1 := bne_iff_ne.mpr c5;have H' := Aside0.mk H;clear H;have p368 : 0 ≤ (x5_1 : Int) := XR.od;have q368 : x5_1 < (l0.length : Int) := XR.od;obtain ⟨ad368,e368,hx368_0,hx368_1⟩ := at_T57 HR0.out x5_1 p368 q368
      cases e368
      replace p368 := eq_true p368;replace q368 := eq_true q368;go_wp2;go_roundg k1
      case measure => have := HK1.out;omega
      case rel => exact ⟨(wrap64 (x5_1 + 1)),XR.rf,H',⟨by have := HK1.out;omega⟩,by repeat (first | exact Drawn0.refl _ | apply Drawn0.step)⟩
    ·rw [if_neg c4] at H;exact absurd H (by simp)
   ·rw [if_neg c3] at H;have c3b0 := decide_eq_false c3;clear c3;obtain rfl := Option.some.inj H;go_wp2;go_ret;exact ⟨by first | rfl | (simp;done) | (simp [*];done),by repeat (first | exact Drawn0.refl _ | apply Drawn0.step)⟩
set_option maxHeartbeats 8000000 in
set_option maxRecDepth 100000 in
theorem ddiref35_Valid.calls (k : Nat) (A0 : Option Addr) (c0 : Nat) (l0 : List (S57)) (r : Bool) (w : World) (hr0 : Kd.C k57 w A0 l0.length l0) (hc0 : l0.length ≤ c0) (h : ddiref35_Valid.f k l0 = some r) :
  Calls Try.prog 31 #[.slice A0 l0.length c0] w fun e w' => e = .returned (.bool r) ∧ Drawn0 w w' := by
 have HR0 := Aside0.mk hr0;have HC0 := Aside0.mk hc0;clear hr0 hc0;have H : (if (l0.length : Int) > 32 then (some false) else (ddiref35_Valid.l0 k l0 0 0)) = some r := h;clear h;by_cases c2 : (l0.length : Int) > 32
 ·rw [if_pos c2] at H;have c2b0 := decide_eq_true c2;have c2b1 : decide (32 < l0.length) = true := decide_eq_true (by omega);clear c2;obtain rfl := Option.some.inj H;go_enter Try.func31,Try.ntmps31;go_wp2;go_ret;exact ⟨by first | rfl | (simp;done) | (simp [*];done),by repeat (first | exact Drawn0.refl _ | apply Drawn0.step)⟩
 ·rw [if_neg c2] at H;have c2b0 := decide_eq_false c2;have c2b1 : decide (32 < l0.length) = false := decide_eq_false (by omega);clear c2;have H' := Aside0.mk H;clear H;go_enter Try.func31,Try.ntmps31;go_wp2;go_loopg [3,4] k (fun kq v3 v4 w' => ∃ (x3_1 : Int) (x4_1 : Int),v3 = .int .i64 x3_1 ∧ v4 = .int .i64 x4_1 ∧ Aside0 (ddiref35_Valid.l0 kq l0 x3_1 x4_1 = some r) ∧ Aside0 (kq ≤ k) ∧ Drawn0 w w')
  case atStart => exact ⟨(0),(0),XR.rf,XR.rf,H',⟨Nat.le_refl _⟩,by repeat (first | exact Drawn0.refl _ | apply Drawn0.step)⟩
  case round =>
   clear H';(try clear c2);(try clear c2b0);(try clear c2b1);(try clear p2);obtain ⟨x3_1,x4_1,rfl,rfl,HA,HK1,⟨m1,rfl⟩⟩ := hrel
   cases gk with
   | zero => exact absurd HA.out (by simp [ddiref35_Valid.l0])
   | succ k1 =>
    have H := HA.out;clear HA;simp only [ddiref35_Valid.l0] at H;by_cases c3 : x4_1 < (l0.length : Int)
    ·rw [if_pos c3] at H;have c3b0 := decide_eq_true c3;clear c3;by_cases c4 : 0 ≤ x4_1
     ·rw [if_pos c4] at H;have c4b0 := decide_eq_true c4;clear c4;have HC5 := Aside0.mk H;clear H;have p369 : 0 ≤ (x4_1 : Int) := XR.od;have q369 : x4_1 < (l0.length : Int) := XR.od;obtain ⟨ad369,e369,hx369_0,hx369_1⟩ := at_T57 HR0.out x4_1 p369 q369
      cases e369
      replace p369 := eq_true p369;replace q369 := eq_true q369;go_upto_region 8 with (fail);go_cut [55] (fun v55 wc => ∃ (kq : Nat) (x55_4 : Bool),v55 = .bool x55_4 ∧ Aside0 (ddiref35_Valid.j1 kq l0 (wrap64 (x3_1 + (((rd_T57 l0 x4_1).f1).size : Int))) x4_1 x55_4 = some r) ∧ Aside0 (kq ≤ k1) ∧ Drawn0 w wc)
      case first =>
       have H := HC5.out;clear HC5;by_cases c6 : ((rd_T57 l0 x4_1).f0) < 1
       ·rw [if_pos c6] at H;have c6b0 := decide_eq_true c6;clear c6;(first | rw [c6b0] | (simp only [i64_w,i32_w];rw [c6b0]) | skip);have H' := Aside0.mk H;clear H;have p370 : 0 ≤ (x4_1 : Int) := XR.od;have q370 : x4_1 < (l0.length : Int) := XR.od;obtain ⟨ad370,e370,hx370_0,hx370_1⟩ := at_T57 HR0.out x4_1 p370 q370;obtain rfl : ad369 = ad370 := (by injection e370);replace p370 := eq_true p370;replace q370 := eq_true q370;go_wp2
        first | go_meet | ((refine Met.intro ?_);go_step;(try simp only [c3b0,c4b0,c6b0]);(repeat apply Exists.intro);refine ⟨?rel,rfl⟩)
        case rel => exact ⟨_,(true),XR.rf,(by first | exact H' | (have h_ := H';simp only [c3b0,c4b0,c6b0] at h_;exact h_)),(XR.ok HK1.out),by repeat (first | exact Drawn0.refl _ | apply Drawn0.step)⟩
       ·rw [if_neg c6] at H;have c6b0 := decide_eq_false c6;clear c6;(first | rw [c6b0] | (simp only [i64_w,i32_w];rw [c6b0]) | skip);by_cases c7 : ((rd_T57 l0 x4_1).f0) > 254
        ·rw [if_pos c7] at H;have c7b0 := decide_eq_true c7;clear c7;have H' := Aside0.mk H;clear H;have p370 : 0 ≤ (x4_1 : Int) := XR.od;have q370 : x4_1 < (l0.length : Int) := XR.od;obtain ⟨ad370,e370,hx370_0,hx370_1⟩ := at_T57 HR0.out x4_1 p370 q370;obtain rfl : ad369 = ad370 := (by injection e370);replace p370 := eq_true p370;replace q370 := eq_true q370;have p371 : 0 ≤ (x4_1 : Int) := XR.od;have q371 : x4_1 < (l0.length : Int) := XR.od;obtain ⟨ad371,e371,hx371_0,hx371_1⟩ := at_T57 HR0.out x4_1 p371 q371;obtain rfl : ad369 = ad371 := (by injection e371);replace p371 := eq_true p371;replace q371 := eq_true q371;go_wp2
         first | go_meet | ((refine Met.intro ?_);go_step;(try simp only [c3b0,c4b0,c6b0,c7b0]);(repeat apply Exists.intro);refine ⟨?rel,rfl⟩)
         case rel => exact ⟨_,(true),XR.rf,(by first | exact H' | (have h_ := H';simp only [c3b0,c4b0,c6b0,c7b0] at h_;exact h_)),(XR.ok HK1.out),by repeat (first | exact Drawn0.refl _ | apply Drawn0.step)⟩
        ·rw [if_neg c7] at H;have c7b0 := decide_eq_false c7;clear c7;by_cases c8 : (((rd_T57 l0 x4_1).f1).size : Int) > 1024
         ·rw [if_pos c8] at H;have c8b0 := decide_eq_true c8;have c8b1 : decide (1024 < ((rd_T57 l0 x4_1).f1).size) = true := decide_eq_true (by omega);clear c8;have H' := Aside0.mk H;clear H;have p370 : 0 ≤ (x4_1 : Int) := XR.od;have q370 : x4_1 < (l0.length : Int) := XR.od;obtain ⟨ad370,e370,hx370_0,hx370_1⟩ := at_T57 HR0.out x4_1 p370 q370;obtain rfl : ad369 = ad370 := (by injection e370);replace p370 := eq_true p370;replace q370 := eq_true q370;have p371 : 0 ≤ (x4_1 : Int) := XR.od;have q371 : x4_1 < (l0.length : Int) := XR.od;obtain ⟨ad371,e371,hx371_0,hx371_1⟩ := at_T57 HR0.out x4_1 p371 q371;obtain rfl : ad369 = ad371 := (by injection e371);replace p371 := eq_true p371;replace q371 := eq_true q371;have p372 : 0 ≤ (x4_1 : Int) := XR.od;have q372 : x4_1 < (l0.length : Int) := XR.od;obtain ⟨ad372,e372,hx372_0,hx372_1⟩ := at_T57 HR0.out x4_1 p372 q372;obtain rfl : ad369 = ad372 := (by injection e372);replace p372 := eq_true p372;replace q372 := eq_true q372;go_wp2
          first | go_meet | ((refine Met.intro ?_);go_step;(try simp only [c3b0,c4b0,c6b0,c7b0,c8b0]);(repeat apply Exists.intro);refine ⟨?rel,rfl⟩)
          case rel => exact ⟨_,(true),XR.rf,(by first | exact H' | (have h_ := H';simp only [c3b0,c4b0,c6b0,c7b0,c8b0] at h_;exact h_)),(XR.ok HK1.out),by repeat (first | exact Drawn0.refl _ | apply Drawn0.step)⟩
         ·rw [if_neg c8] at H;have c8b0 := decide_eq_false c8;have c8b1 : decide (1024 < ((rd_T57 l0 x4_1).f1).size) = false := decide_eq_false (by omega);clear c8;replace H := Option.bind_eq_some_iff.mp H;obtain ⟨t374,A90,H⟩ := H;(try dsimp only at H);have A9 := Aside0.mk A90;clear A90;have H' := Aside0.mk H;clear H;have p370 : 0 ≤ (x4_1 : Int) := XR.od;have q370 : x4_1 < (l0.length : Int) := XR.od;obtain ⟨ad370,e370,hx370_0,hx370_1⟩ := at_T57 HR0.out x4_1 p370 q370;obtain rfl : ad369 = ad370 := (by injection e370);replace p370 := eq_true p370;replace q370 := eq_true q370;have p371 : 0 ≤ (x4_1 : Int) := XR.od;have q371 : x4_1 < (l0.length : Int) := XR.od;obtain ⟨ad371,e371,hx371_0,hx371_1⟩ := at_T57 HR0.out x4_1 p371 q371;obtain rfl : ad369 = ad371 := (by injection e371);replace p371 := eq_true p371;replace q371 := eq_true q371;have p372 : 0 ≤ (x4_1 : Int) := XR.od;have q372 : x4_1 < (l0.length : Int) := XR.od;obtain ⟨ad372,e372,hx372_0,hx372_1⟩ := at_T57 HR0.out x4_1 p372 q372;obtain rfl : ad369 = ad372 := (by injection e372);replace p372 := eq_true p372;replace q372 := eq_true q372;have p373 : 0 ≤ (x4_1 : Int) := XR.od;have q373 : x4_1 < (l0.length : Int) := XR.od;obtain ⟨ad373,e373,hx373_0,hx373_1⟩ := at_T57 HR0.out x4_1 p373 q373;obtain rfl : ad369 = ad373 := (by injection e373);replace p373 := eq_true p373;replace q373 := eq_true q373;go_wp2_with (first | (go_at_call 61;(with_reducible refine (ddiref35_index.calls k1 _ _ l0 ((rd_T57 l0 x4_1).f0) t374 _ ?side1 ?side2 A9.out).mono ?_);(case side1 => repeat (first | exact HR0.out | (with_reducible refine Kd.C_alloc ?_ _) | (with_reducible refine Kd.C_drewN ?_ _) | (with_reducible refine Kd.C_drew ?_)));(case side2 => exact HC0.out);rintro e w' ⟨rfl,⟨nd,rfl⟩⟩))
          first | go_meet | ((refine Met.intro ?_);go_step;(try simp only [c3b0,c4b0,c6b0,c7b0,c8b0]);(repeat apply Exists.intro);refine ⟨?rel,rfl⟩)
          case rel => exact ⟨_,((t374 != x4_1)),XR.rf,(by first | exact H' | (have h_ := H';simp only [c3b0,c4b0,c6b0,c7b0,c8b0] at h_;exact h_)),(XR.ok HK1.out),by repeat (first | exact Drawn0.refl _ | apply Drawn0.step)⟩
      case rest =>
       clear HC5;(try clear c2);(try clear c2b0);(try clear c2b1);(try clear p2);(try clear c3);(try clear c3b0);(try clear p3);(try clear q3);(try clear hx3);(try clear c4);(try clear c4b0);(try clear c6);(try clear c6b0);(try clear p6);(try clear c7);(try clear c7b0);(try clear c8);(try clear c8b0);(try clear c8b1);(try clear hx369_0);(try clear hx369_1);(try clear hx370_0);(try clear hx370_1);(try clear hx371_0);(try clear hx371_1);(try clear hx372_0);(try clear hx372_1);(try clear hx373_0);(try clear hx373_1);(try clear p2);(try clear p369);(try clear p370);(try clear p371);(try clear p372);(try clear p373);(try clear q369);(try clear q370);(try clear q371);(try clear q372);(try clear q373);obtain ⟨kq,x55_4,rfl,HA,HJ4,⟨mc4,rfl⟩⟩ := hcut
       cases kq with
       | zero => exact absurd HA.out (by simp [ddiref35_Valid.j1])
       | succ kj4 =>
        have H := HA.out;clear HA;simp only [ddiref35_Valid.j1] at H;by_cases c10 : x55_4 = true
        ·subst c10;rw [if_pos rfl] at H;(try dsimp only at H);obtain rfl := Option.some.inj H;go_wp2;go_ret;exact ⟨by first | rfl | (simp;done) | (simp [*];done),by repeat (first | exact Drawn0.refl _ | apply Drawn0.step)⟩
        ·replace c10 := Bool.eq_false_iff.mpr c10;subst c10;rw [if_neg (show ¬ (false = true) by decide)] at H;(try dsimp only at H);have H' := Aside0.mk H;clear H;go_wp2;go_roundg kj4
         case measure => have := HK1.out;have := HJ4.out;omega
         case rel => exact ⟨((wrap64 (x3_1 + (((rd_T57 l0 x4_1).f1).size : Int)))),(wrap64 (x4_1 + 1)),XR.rf,XR.rf,H',⟨by have := HK1.out;have := HJ4.out;omega⟩,by repeat (first | exact Drawn0.refl _ | apply Drawn0.step)⟩
     ·rw [if_neg c4] at H;exact absurd H (by simp)
    ·rw [if_neg c3] at H;have c3b0 := decide_eq_false c3;clear c3;obtain rfl := Option.some.inj H;go_wp2;go_ret;exact ⟨by first | rfl | (simp;done) | (simp [*];done),by repeat (first | exact Drawn0.refl _ | apply Drawn0.step)⟩
end Go.Proofs.Ytpcjablkjaiapaa.QA
