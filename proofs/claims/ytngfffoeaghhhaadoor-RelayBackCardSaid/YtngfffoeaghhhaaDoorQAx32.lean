import Derived.Test.YtngfffoeaghhhaaDoorQAd
import Derived.Test.YtngfffoeaghhhaaDoorQAx0
namespace Go.Proofs.YtngfffoeaghhhaaDoor.QA
open Go.RowKit Go.Proofs.YtngfffoeaghhhaaDoorW.PrintWords Go.Proofs.YtngfffoeaghhhaaDoorW.PrintLast Go.Proofs.YtngfffoeaghhhaaDoorW.PrintMore
attribute [local go_sem] max2_int min2_int max_two min_two max_three min_three max_four min_four   -- for this text's walks alone
attribute [local go_sem high] Go.Proofs.YtngfffoeaghhhaaDoor.XW.cell_setCell_lit
set_option linter.unusedVariables false
set_option linter.unusedSimpArgs false
set_option maxHeartbeats 8000000 in
set_option maxRecDepth 100000 in
theorem dhcp_operation.calls (k : Nat) (a0 : Int) (r : Int) (w : World) (h : dhcp_operation.f k a0 = some r) :
  Calls Tryd.prog 41 #[.int .i64 a0] w fun e w' => e = .returned (.int .u8 r) ∧ Drawn0 w w' := by
 have H : (if a0 = 1 then (dhcp_operation.j0 k a0 (a0 == 1)) else (if a0 = 3 then (dhcp_operation.j0 k a0 (a0 == 3)) else (if a0 = 4 then (dhcp_operation.j0 k a0 (a0 == 4)) else (if a0 = 7 then (dhcp_operation.j0 k a0 (a0 == 7)) else (dhcp_operation.j0 k a0 (a0 == 8)))))) = some r := h;clear h;have HC2 := Aside0.mk H;clear H;go_enter Tryd.func41,Tryd.ntmps41;go_upto_if 4 with (fail);go_cut [4] (fun v4 wc => ∃ (kq : Nat) (x4_1 : Bool),v4 = .bool x4_1 ∧ Aside0 (dhcp_operation.j0 kq a0 x4_1 = some r) ∧ Aside0 (kq ≤ k) ∧ Drawn0 w wc)
 case first =>
  have H := HC2.out;clear HC2;by_cases c3 : a0 = 1
  ·rw [if_pos c3] at H;have c3b0 := beq_iff_eq.mpr c3;have c3b1 := bne_eq_false_iff_eq.mpr c3;clear c3;(first | rw [c3b0] | (simp only [i64_w,i32_w];rw [c3b0]) | skip);have H' := Aside0.mk H;clear H;go_wp2
   first | go_meet | ((refine Met.intro ?_);go_step;(try simp only [c3b0]);(repeat apply Exists.intro);refine ⟨?rel,rfl⟩)
   case rel => exact ⟨_,((a0 == 1)),XR.rf,H',XR.om,by repeat (first | exact Drawn0.refl _ | apply Drawn0.step)⟩
  ·rw [if_neg c3] at H;have c3b0 := beq_eq_false_iff_ne.mpr c3;have c3b1 := bne_iff_ne.mpr c3;(first | rw [c3b0] | (simp only [i64_w,i32_w];rw [c3b0]) | skip);by_cases c4 : a0 = 3
   ·rw [if_pos c4] at H;have c4b0 := beq_iff_eq.mpr c4;have c4b1 := bne_eq_false_iff_eq.mpr c4;clear c4;have H' := Aside0.mk H;clear H;go_wp2
    first | go_meet | ((refine Met.intro ?_);go_step;(try simp only [c3b0,c4b0]);(repeat apply Exists.intro);refine ⟨?rel,rfl⟩)
    case rel => exact ⟨_,((a0 == 3)),XR.rf,H',XR.om,by repeat (first | exact Drawn0.refl _ | apply Drawn0.step)⟩
   ·rw [if_neg c4] at H;have c4b0 := beq_eq_false_iff_ne.mpr c4;have c4b1 := bne_iff_ne.mpr c4;by_cases c5 : a0 = 4
    ·rw [if_pos c5] at H;have c5b0 := beq_iff_eq.mpr c5;have c5b1 := bne_eq_false_iff_eq.mpr c5;clear c5;have H' := Aside0.mk H;clear H;go_wp2
     first | go_meet | ((refine Met.intro ?_);go_step;(try simp only [c3b0,c4b0,c5b0]);(repeat apply Exists.intro);refine ⟨?rel,rfl⟩)
     case rel => exact ⟨_,((a0 == 4)),XR.rf,H',XR.om,by repeat (first | exact Drawn0.refl _ | apply Drawn0.step)⟩
    ·rw [if_neg c5] at H;have c5b0 := beq_eq_false_iff_ne.mpr c5;have c5b1 := bne_iff_ne.mpr c5;by_cases c6 : a0 = 7
     ·rw [if_pos c6] at H;have c6b0 := beq_iff_eq.mpr c6;have c6b1 := bne_eq_false_iff_eq.mpr c6;clear c6;have H' := Aside0.mk H;clear H;go_wp2
      first | go_meet | ((refine Met.intro ?_);go_step;(try simp only [c3b0,c4b0,c5b0,c6b0]);(repeat apply Exists.intro);refine ⟨?rel,rfl⟩)
      case rel => exact ⟨_,((a0 == 7)),XR.rf,H',XR.om,by repeat (first | exact Drawn0.refl _ | apply Drawn0.step)⟩
     ·rw [if_neg c6] at H;have c6b0 := beq_eq_false_iff_ne.mpr c6;have c6b1 := bne_iff_ne.mpr c6;have H' := Aside0.mk H;clear H;go_wp2
      first | go_meet | ((refine Met.intro ?_);go_step;(try simp only [c3b0,c4b0,c5b0,c6b0]);(repeat apply Exists.intro);refine ⟨?rel,rfl⟩)
      case rel => exact ⟨_,((a0 == 8)),XR.rf,H',XR.om,by repeat (first | exact Drawn0.refl _ | apply Drawn0.step)⟩
 case rest =>
  clear HC2;(try clear p2);(try clear c3);(try clear c3b0);(try clear c3b1);(try clear c4);(try clear c4b0);(try clear c4b1);(try clear c5);(try clear c5b0);(try clear c5b1);(try clear c6);(try clear c6b0);(try clear c6b1);obtain ⟨kq,x4_1,rfl,HA,HJ1,⟨mc1,rfl⟩⟩ := hcut
  cases kq with
  | zero => exact absurd HA.out (by simp [dhcp_operation.j0])
  | succ kj1 =>
   have H := HA.out;clear HA;simp only [dhcp_operation.j0] at H;by_cases c7 : x4_1 = true
   ·subst c7;rw [if_pos rfl] at H;(try dsimp only at H);obtain rfl := Option.some.inj H;go_wp2;go_ret;exact ⟨by first | rfl | (simp;done) | (simp [*];done),by repeat (first | exact Drawn0.refl _ | apply Drawn0.step)⟩
   ·replace c7 := Bool.eq_false_iff.mpr c7;subst c7;rw [if_neg (show ¬ (false = true) by decide)] at H;(try dsimp only at H);have HC8 := Aside0.mk H;clear H;go_upto_if 10 with (fail);go_cut [10] (fun v10 wc => ∃ (kq : Nat) (x10_7 : Bool),v10 = .bool x10_7 ∧ Aside0 (dhcp_operation.j1 kq x10_7 = some r) ∧ Aside0 (kq ≤ kj1) ∧ Drawn0 w wc)
    case first =>
     have H := HC8.out;clear HC8;by_cases c9 : a0 = 2
     ·rw [if_pos c9] at H;have c9b0 := beq_iff_eq.mpr c9;have c9b1 := bne_eq_false_iff_eq.mpr c9;clear c9;(first | rw [c9b0] | (simp only [i64_w,i32_w];rw [c9b0]) | skip);have H' := Aside0.mk H;clear H;go_wp2
      first | go_meet | ((refine Met.intro ?_);go_step;(try simp only [c9b0]);(repeat apply Exists.intro);refine ⟨?rel,rfl⟩)
      case rel => exact ⟨_,((a0 == 2)),XR.rf,H',(XR.ok HJ1.out),by repeat (first | exact Drawn0.refl _ | apply Drawn0.step)⟩
     ·rw [if_neg c9] at H;have c9b0 := beq_eq_false_iff_ne.mpr c9;have c9b1 := bne_iff_ne.mpr c9;(first | rw [c9b0] | (simp only [i64_w,i32_w];rw [c9b0]) | skip);by_cases c10 : a0 = 5
      ·rw [if_pos c10] at H;have c10b0 := beq_iff_eq.mpr c10;have c10b1 := bne_eq_false_iff_eq.mpr c10;clear c10;have H' := Aside0.mk H;clear H;go_wp2
       first | go_meet | ((refine Met.intro ?_);go_step;(try simp only [c9b0,c10b0]);(repeat apply Exists.intro);refine ⟨?rel,rfl⟩)
       case rel => exact ⟨_,((a0 == 5)),XR.rf,H',(XR.ok HJ1.out),by repeat (first | exact Drawn0.refl _ | apply Drawn0.step)⟩
      ·rw [if_neg c10] at H;have c10b0 := beq_eq_false_iff_ne.mpr c10;have c10b1 := bne_iff_ne.mpr c10;have H' := Aside0.mk H;clear H;go_wp2
       first | go_meet | ((refine Met.intro ?_);go_step;(try simp only [c9b0,c10b0]);(repeat apply Exists.intro);refine ⟨?rel,rfl⟩)
       case rel => exact ⟨_,((a0 == 6)),XR.rf,H',(XR.ok HJ1.out),by repeat (first | exact Drawn0.refl _ | apply Drawn0.step)⟩
    case rest =>
     clear HC8;(try clear c1);(try clear p2);(try clear c3);(try clear c3b0);(try clear c3b1);(try clear c4);(try clear c4b0);(try clear c4b1);(try clear c5);(try clear c5b0);(try clear c5b1);(try clear c6);(try clear c6b0);(try clear c6b1);(try clear c7);(try clear c9);(try clear c9b0);(try clear c9b1);(try clear c10);(try clear c10b0);(try clear c10b1);(try clear p2);obtain ⟨kq,x10_7,rfl,HA,HJ7,⟨mc7,rfl⟩⟩ := hcut
     cases kq with
     | zero => exact absurd HA.out (by simp [dhcp_operation.j1])
     | succ kj7 =>
      have H := HA.out;clear HA;simp only [dhcp_operation.j1] at H;by_cases c11 : x10_7 = true
      ·subst c11;rw [if_pos rfl] at H;(try dsimp only at H);obtain rfl := Option.some.inj H;go_wp2;go_ret;exact ⟨by first | rfl | (simp;done) | (simp [*];done),by repeat (first | exact Drawn0.refl _ | apply Drawn0.step)⟩
      ·replace c11 := Bool.eq_false_iff.mpr c11;subst c11;rw [if_neg (show ¬ (false = true) by decide)] at H;(try dsimp only at H);obtain rfl := Option.some.inj H;go_wp2;go_ret;exact ⟨by first | rfl | (simp;done) | (simp [*];done),by repeat (first | exact Drawn0.refl _ | apply Drawn0.step)⟩
end Go.Proofs.YtngfffoeaghhhaaDoor.QA
