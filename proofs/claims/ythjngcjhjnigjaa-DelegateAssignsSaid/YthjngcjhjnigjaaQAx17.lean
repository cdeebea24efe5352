import Derived.Test.YthjngcjhjnigjaaQAd1
import Derived.Test.YthjngcjhjnigjaaQAx0
namespace Go.Proofs.Ythjngcjhjnigjaa.QA
open Go.RowKit Go.Proofs.YthjngcjhjnigjaaW.PrintWords Go.Proofs.YthjngcjhjnigjaaW.PrintLast Go.Proofs.YthjngcjhjnigjaaW.PrintMore
attribute [local go_sem] max2_int min2_int max_two min_two max_three min_three max_four min_four
attribute [local go_sem high] Go.Proofs.Ythjngcjhjnigjaa.XW.cell_setCell_lit
set_option linter.unusedVariables false
set_option linter.unusedSimpArgs false
set_option maxHeartbeats 8000000 in
set_option maxRecDepth 100000 in
theorem ddiref43_isClient.calls (k : Nat) (a0 : ByteArray) (r : Bool) (w : World) (h : ddiref43_isClient.f k a0 = some r) :
  Calls Try.prog 41 #[.string a0] w fun e w' => e = .returned (.bool r) ∧ Drawn0 w w' := by
 have H : (if (a0.size : Int) < 1 then (ddiref43_isClient.j0 k a0 true) else (ddiref43_isClient.j0 k a0 (decide ((a0.size : Int) > 32)))) = some r := h;clear h;have HC2 := Aside0.mk H;clear H;go_enter Try.func41,Try.ntmps41;go_upto_region 1 with (fail);go_cut [11] (fun v11 wc => ∃ (kq : Nat) (x11_1 : Bool),v11 = .bool x11_1 ∧ Aside0 (ddiref43_isClient.j0 kq a0 x11_1 = some r) ∧ Aside0 (kq ≤ k) ∧ Drawn0 w wc)
 case first =>
  have H := HC2.out;clear HC2;by_cases c3 : (a0.size : Int) < 1
  ·rw [if_pos c3] at H;have c3b0 := decide_eq_true c3;have c3b1 : decide (a0.size < 1) = true := decide_eq_true (by omega);clear c3;(first | rw [c3b0] | (simp only [i64_w,i32_w];rw [c3b0]) | skip);have H' := Aside0.mk H;clear H;go_wp2
   first | go_meet | ((refine Met.intro ?_);go_step;(try simp only [c3b0]);(repeat apply Exists.intro);refine ⟨?rel,rfl⟩)
   case rel => exact ⟨_,(true),XR.rf,(by first | exact H' | (have h_ := H';simp only [c3b0] at h_;exact h_)),XR.om,by repeat (first | exact Drawn0.refl _ | apply Drawn0.step)⟩
  ·rw [if_neg c3] at H;have c3b0 := decide_eq_false c3;have c3b1 : decide (a0.size < 1) = false := decide_eq_false (by omega);clear c3;(first | rw [c3b0] | (simp only [i64_w,i32_w];rw [c3b0]) | skip);have H' := Aside0.mk H;clear H;go_wp2
   first | go_meet | ((refine Met.intro ?_);go_step;(try simp only [c3b0]);(repeat apply Exists.intro);refine ⟨?rel,rfl⟩)
   case rel => exact ⟨_,(decide ((a0.size : Int) > 32)),XR.rf,(by first | exact H' | (have h_ := H';simp only [c3b0] at h_;exact h_)),XR.om,by repeat (first | exact Drawn0.refl _ | apply Drawn0.step)⟩
 case rest =>
  clear HC2;(try clear p2);(try clear c3);(try clear c3b0);(try clear c3b1);obtain ⟨kq,x11_1,rfl,HA,HJ1,⟨mc1,rfl⟩⟩ := hcut
  cases kq with
  | zero => exact absurd HA.out (by simp [ddiref43_isClient.j0])
  | succ kj1 =>
   have H := HA.out;clear HA;simp only [ddiref43_isClient.j0] at H;by_cases c4 : x11_1 = true
   ·subst c4;rw [if_pos rfl] at H;(try dsimp only at H);obtain rfl := Option.some.inj H;go_wp2;go_ret;exact ⟨by first | rfl | (simp;done) | (simp [*];done),by repeat (first | exact Drawn0.refl _ | apply Drawn0.step)⟩
   ·replace c4 := Bool.eq_false_iff.mpr c4;subst c4;rw [if_neg (show ¬ (false = true) by decide)] at H;(try dsimp only at H);have H' := Aside0.mk H;clear H;go_wp2;go_loopg [3] kj1 (fun kq v3 w' => ∃ (x3_2 : Int),v3 = .int .i64 x3_2 ∧ Aside0 (ddiref43_isClient.l0 kq a0 x3_2 = some r) ∧ Aside0 (kq ≤ kj1) ∧ Drawn0 w w')
    case atStart => exact ⟨(0),XR.rf,H',⟨Nat.le_refl _⟩,by repeat (first | exact Drawn0.refl _ | apply Drawn0.step)⟩
    case round =>
     clear H';(try clear c1);(try clear p2);(try clear c3);(try clear c3b0);(try clear c3b1);(try clear c4);(try clear p2);obtain ⟨x3_2,rfl,HA,HK2,⟨m2,rfl⟩⟩ := hrel
     cases gk with
     | zero => exact absurd HA.out (by simp [ddiref43_isClient.l0])
     | succ k2 =>
      have H := HA.out;clear HA;simp only [ddiref43_isClient.l0] at H;by_cases c5 : x3_2 < (a0.size : Int)
      ·rw [if_pos c5] at H;have c5b0 := decide_eq_true c5;clear c5;have HC6 := Aside0.mk H;clear H;go_upto_region 6 with (fail);go_cut [27] (fun v27 wc => ∃ (kq : Nat) (x27_5 : Bool),v27 = .bool x27_5 ∧ Aside0 (ddiref43_isClient.j2 kq a0 x3_2 x27_5 = some r) ∧ Aside0 (kq ≤ k2) ∧ Drawn0 w wc)
       case first =>
        have H := HC6.out;clear HC6;by_cases c7 : 0 ≤ x3_2
        ·rw [if_pos c7] at H;have c7b0 := decide_eq_true c7;clear c7;(first | rw [c7b0] | (simp only [i64_w,i32_w];rw [c7b0]) | skip);by_cases c9 : (bt a0 x3_2) < 33
         ·rw [if_pos c9] at H;have c9b0 := decide_eq_true c9;clear c9;have H' := Aside0.mk H;clear H;have p8 : 0 ≤ (x3_2 : Int) := XR.od;have q8 : x3_2 < (a0.size : Int) := XR.od;have hx8 := bt_at a0 x3_2;replace p8 := eq_true p8;replace q8 := eq_true q8;go_wp2
          first | go_meet | ((refine Met.intro ?_);go_step;(try simp only [c5b0,c7b0,c9b0]);(repeat apply Exists.intro);refine ⟨?rel,rfl⟩)
          case rel => exact ⟨_,(true),XR.rf,(by first | exact H' | (have h_ := H';simp only [c5b0,c7b0,c9b0] at h_;exact h_)),⟨by have := HJ1.out;have := HK2.out;first | omega | exact Nat.le_refl _⟩,by repeat (first | exact Drawn0.refl _ | apply Drawn0.step)⟩
         ·rw [if_neg c9] at H;have c9b0 := decide_eq_false c9;clear c9;have H' := Aside0.mk H;clear H;have p8 : 0 ≤ (x3_2 : Int) := XR.od;have q8 : x3_2 < (a0.size : Int) := XR.od;have hx8 := bt_at a0 x3_2;replace p8 := eq_true p8;replace q8 := eq_true q8;have p10 : 0 ≤ (x3_2 : Int) := XR.od;have q10 : x3_2 < (a0.size : Int) := XR.od;have hx10 := bt_at a0 x3_2;replace p10 := eq_true p10;replace q10 := eq_true q10;go_wp2
          first | go_meet | ((refine Met.intro ?_);go_step;(try simp only [c5b0,c7b0,c9b0]);(repeat apply Exists.intro);refine ⟨?rel,rfl⟩)
          case rel => exact ⟨_,(decide ((bt a0 x3_2) > 126)),XR.rf,(by first | exact H' | (have h_ := H';simp only [c5b0,c7b0,c9b0] at h_;exact h_)),⟨by have := HJ1.out;have := HK2.out;first | omega | exact Nat.le_refl _⟩,by repeat (first | exact Drawn0.refl _ | apply Drawn0.step)⟩
        ·rw [if_neg c7] at H;exact absurd H (by simp)
       case rest =>
        clear HC6;(try clear c1);(try clear p1);(try clear q1);(try clear hx1);(try clear p2);(try clear c3);(try clear c3b0);(try clear c3b1);(try clear c4);(try clear c5);(try clear c5b0);(try clear c7);(try clear c7b0);(try clear p8);(try clear q8);(try clear hx8);(try clear c9);(try clear c9b0);(try clear p10);(try clear q10);(try clear hx10);(try clear p10);(try clear p2);(try clear p8);(try clear q10);(try clear q8);obtain ⟨kq,x27_5,rfl,HA,HJ5,⟨mc5,rfl⟩⟩ := hcut
        cases kq with
        | zero => exact absurd HA.out (by simp [ddiref43_isClient.j2])
        | succ kj5 =>
         have H := HA.out;clear HA;simp only [ddiref43_isClient.j2] at H;by_cases c11 : x27_5 = true
         ·subst c11;rw [if_pos rfl] at H;(try dsimp only at H);obtain rfl := Option.some.inj H;go_wp2;go_ret;exact ⟨by first | rfl | (simp;done) | (simp [*];done),by repeat (first | exact Drawn0.refl _ | apply Drawn0.step)⟩
         ·replace c11 := Bool.eq_false_iff.mpr c11;subst c11;rw [if_neg (show ¬ (false = true) by decide)] at H;(try dsimp only at H);have H' := Aside0.mk H;clear H;go_wp2;go_roundg kj5
          case measure => have := HJ1.out;have := HK2.out;have := HJ5.out;omega
          case rel => exact ⟨(wrap64 (x3_2 + 1)),XR.rf,H',⟨by have := HJ1.out;have := HK2.out;have := HJ5.out;omega⟩,by repeat (first | exact Drawn0.refl _ | apply Drawn0.step)⟩
      ·rw [if_neg c5] at H;have c5b0 := decide_eq_false c5;clear c5;obtain rfl := Option.some.inj H;go_wp2;go_ret;exact ⟨by first | rfl | (simp;done) | (simp [*];done),by repeat (first | exact Drawn0.refl _ | apply Drawn0.step)⟩
end Go.Proofs.Ythjngcjhjnigjaa.QA
