import Derived.Test.YtikhpegamnnabaaDoorQAd1
import Derived.Test.YtikhpegamnnabaaDoorQAx0
namespace Go.Proofs.YtikhpegamnnabaaDoor.QA
open Go.RowKit Go.Proofs.YtikhpegamnnabaaDoorW.PrintWords Go.Proofs.YtikhpegamnnabaaDoorW.PrintLast Go.Proofs.YtikhpegamnnabaaDoorW.PrintMore
attribute [local go_sem] max2_int min2_int max_two min_two max_three min_three max_four min_four
attribute [local go_sem high] Go.Proofs.YtikhpegamnnabaaDoor.XW.cell_setCell_lit
set_option linter.unusedVariables false
set_option linter.unusedSimpArgs false
set_option maxHeartbeats 8000000 in
set_option maxRecDepth 100000 in
theorem dname_ordinary.calls (k : Nat) (a0 : ByteArray) (r : Bool) (w : World) (h : dname_ordinary.f k a0 = some r) :
  Calls Tryd.prog 86 #[.string a0] w fun e w' => e = .returned (.bool r) ∧ Drawn0 w w' := by
 have H : (if a0.toList = ([] : List UInt8) then (dname_ordinary.j0 k a0 true) else (dname_ordinary.j0 k a0 (decide ((a0.size : Int) > 63)))) = some r := h;clear h;have HC2 := Aside0.mk H;clear H;go_enter Tryd.func86,Tryd.ntmps86;go_upto_region 1 with (fail);go_cut [11] (fun v11 wc => ∃ (kq : Nat) (x11_1 : Bool),v11 = .bool x11_1 ∧ Aside0 (dname_ordinary.j0 kq a0 x11_1 = some r) ∧ Aside0 (kq ≤ k) ∧ Drawn0 w wc)
 case first =>
  have H := HC2.out;clear HC2;by_cases c3 : a0.toList = ([] : List UInt8)
  ·rw [if_pos c3] at H;have c3b0 := beq_iff_eq.mpr c3;have c3b1 := bne_eq_false_iff_eq.mpr c3;clear c3;(first | rw [c3b0] | (simp only [i64_w,i32_w];rw [c3b0]) | skip);have H' := Aside0.mk H;clear H;go_wp2
   first | go_meet | ((refine Met.intro ?_);go_step;(try simp only [c3b0]);(repeat apply Exists.intro);refine ⟨?rel,rfl⟩)
   case rel => exact ⟨_,(true),XR.rf,H',XR.om,by repeat (first | exact Drawn0.refl _ | apply Drawn0.step)⟩
  ·rw [if_neg c3] at H;have c3b0 := beq_eq_false_iff_ne.mpr c3;have c3b1 := bne_iff_ne.mpr c3;(first | rw [c3b0] | (simp only [i64_w,i32_w];rw [c3b0]) | skip);have H' := Aside0.mk H;clear H;go_wp2
   first | go_meet | ((refine Met.intro ?_);go_step;(try simp only [c3b0]);(repeat apply Exists.intro);refine ⟨?rel,rfl⟩)
   case rel => exact ⟨_,(decide ((a0.size : Int) > 63)),XR.rf,H',XR.om,by repeat (first | exact Drawn0.refl _ | apply Drawn0.step)⟩
 case rest =>
  clear HC2;(try clear p2);(try clear c3);(try clear c3b0);(try clear c3b1);obtain ⟨kq,x11_1,rfl,HA,HJ1,⟨mc1,rfl⟩⟩ := hcut
  cases kq with
  | zero => exact absurd HA.out (by simp [dname_ordinary.j0])
  | succ kj1 =>
   have H := HA.out;clear HA;simp only [dname_ordinary.j0] at H;by_cases c4 : x11_1 = true
   ·subst c4;rw [if_pos rfl] at H;(try dsimp only at H);obtain rfl := Option.some.inj H;go_wp2;go_ret;exact ⟨by first | rfl | (simp;done) | (simp [*];done),by repeat (first | exact Drawn0.refl _ | apply Drawn0.step)⟩
   ·replace c4 := Bool.eq_false_iff.mpr c4;subst c4;rw [if_neg (show ¬ (false = true) by decide)] at H;(try dsimp only at H);have H' := Aside0.mk H;clear H;go_wp2;go_loopg [14] kj1 (fun kq v14 w' => ∃ (x14_2 : Int),v14 = .int .i64 x14_2 ∧ Aside0 (dname_ordinary.l0 kq a0 (a0.size : Int) x14_2 = some r) ∧ Aside0 (kq ≤ kj1) ∧ Drawn0 w w')
    case atStart => exact ⟨(0),XR.rf,H',⟨Nat.le_refl _⟩,by repeat (first | exact Drawn0.refl _ | apply Drawn0.step)⟩
    case round =>
     clear H';(try clear c1);(try clear p2);(try clear c3);(try clear c3b0);(try clear c3b1);(try clear c4);(try clear p2);obtain ⟨x14_2,rfl,HA,HK2,⟨m2,rfl⟩⟩ := hrel
     cases gk with
     | zero => exact absurd HA.out (by simp [dname_ordinary.l0])
     | succ k2 =>
      have H := HA.out;clear HA;simp only [dname_ordinary.l0] at H;by_cases c5 : x14_2 < (a0.size : Int)
      ·rw [if_pos c5] at H;have c5b0 := decide_eq_true c5;clear c5;by_cases c6 : 0 ≤ x14_2
       ·rw [if_pos c6] at H;have c6b0 := decide_eq_true c6;clear c6;by_cases c7 : x14_2 < (a0.size : Int)
        ·rw [if_pos c7] at H;have c7b0 := decide_eq_true c7;clear c7;have HC9 := Aside0.mk H;clear H;have p8 : 0 ≤ (x14_2 : Int) := XR.od;have q8 : x14_2 < (a0.size : Int) := XR.od;have hx8 := bt_at a0 x14_2;replace p8 := eq_true p8;replace q8 := eq_true q8;go_upto_region 7 with (fail);go_cut [41] (fun v41 wc => ∃ (kq : Nat) (x41_8 : Bool),v41 = .bool x41_8 ∧ Aside0 (dname_ordinary.j2 kq a0 (a0.size : Int) x14_2 x41_8 = some r) ∧ Aside0 (kq ≤ k2) ∧ Drawn0 w wc)
         case first =>
          have H := HC9.out;clear HC9;by_cases c10 : (bt a0 x14_2) < 97
          ·rw [if_pos c10] at H;have c10b0 := decide_eq_true c10;clear c10;(first | rw [c10b0] | (simp only [i64_w,i32_w];rw [c10b0]) | skip);by_cases c11 : (bt a0 x14_2) < 48
           ·rw [if_pos c11] at H;have c11b0 := decide_eq_true c11;clear c11;by_cases c12 : (bt a0 x14_2) = 45
            ·rw [if_pos c12] at H;have c12b0 := beq_iff_eq.mpr c12;have c12b1 := bne_eq_false_iff_eq.mpr c12;clear c12;have H' := Aside0.mk H;clear H;go_wp2
             first | go_meet | ((refine Met.intro ?_);go_step;(try simp only [c5b0,c6b0,c7b0,c10b0,c11b0,c12b0]);(repeat apply Exists.intro);refine ⟨?rel,rfl⟩)
             case rel => exact ⟨_,(false),XR.rf,(by first | exact H' | (have h_ := H';simp only [c5b0,c6b0,c7b0,c10b0,c11b0,c12b0] at h_;exact h_)),⟨by have := HJ1.out;have := HK2.out;first | omega | exact Nat.le_refl _⟩,by repeat (first | exact Drawn0.refl _ | apply Drawn0.step)⟩
            ·rw [if_neg c12] at H;have c12b0 := beq_eq_false_iff_ne.mpr c12;have c12b1 := bne_iff_ne.mpr c12;have H' := Aside0.mk H;clear H;go_wp2
             first | go_meet | ((refine Met.intro ?_);go_step;(try simp only [c5b0,c6b0,c7b0,c10b0,c11b0,c12b0]);(repeat apply Exists.intro);refine ⟨?rel,rfl⟩)
             case rel => exact ⟨_,(((bt a0 x14_2) != 95)),XR.rf,(by first | exact H' | (have h_ := H';simp only [c5b0,c6b0,c7b0,c10b0,c11b0,c12b0] at h_;exact h_)),⟨by have := HJ1.out;have := HK2.out;first | omega | exact Nat.le_refl _⟩,by repeat (first | exact Drawn0.refl _ | apply Drawn0.step)⟩
           ·rw [if_neg c11] at H;have c11b0 := decide_eq_false c11;clear c11;by_cases c13 : (bt a0 x14_2) > 57
            ·rw [if_pos c13] at H;have c13b0 := decide_eq_true c13;clear c13;by_cases c14 : (bt a0 x14_2) = 45
             ·rw [if_pos c14] at H;have c14b0 := beq_iff_eq.mpr c14;have c14b1 := bne_eq_false_iff_eq.mpr c14;clear c14;have H' := Aside0.mk H;clear H;go_wp2
              first | go_meet | ((refine Met.intro ?_);go_step;(try simp only [c5b0,c6b0,c7b0,c10b0,c11b0,c13b0,c14b0]);(repeat apply Exists.intro);refine ⟨?rel,rfl⟩)
              case rel => exact ⟨_,(false),XR.rf,(by first | exact H' | (have h_ := H';simp only [c5b0,c6b0,c7b0,c10b0,c11b0,c13b0,c14b0] at h_;exact h_)),⟨by have := HJ1.out;have := HK2.out;first | omega | exact Nat.le_refl _⟩,by repeat (first | exact Drawn0.refl _ | apply Drawn0.step)⟩
             ·rw [if_neg c14] at H;have c14b0 := beq_eq_false_iff_ne.mpr c14;have c14b1 := bne_iff_ne.mpr c14;have H' := Aside0.mk H;clear H;go_wp2
              first | go_meet | ((refine Met.intro ?_);go_step;(try simp only [c5b0,c6b0,c7b0,c10b0,c11b0,c13b0,c14b0]);(repeat apply Exists.intro);refine ⟨?rel,rfl⟩)
              case rel => exact ⟨_,(((bt a0 x14_2) != 95)),XR.rf,(by first | exact H' | (have h_ := H';simp only [c5b0,c6b0,c7b0,c10b0,c11b0,c13b0,c14b0] at h_;exact h_)),⟨by have := HJ1.out;have := HK2.out;first | omega | exact Nat.le_refl _⟩,by repeat (first | exact Drawn0.refl _ | apply Drawn0.step)⟩
            ·rw [if_neg c13] at H;have c13b0 := decide_eq_false c13;clear c13;have H' := Aside0.mk H;clear H;go_wp2
             first | go_meet | ((refine Met.intro ?_);go_step;(try simp only [c5b0,c6b0,c7b0,c10b0,c11b0,c13b0]);(repeat apply Exists.intro);refine ⟨?rel,rfl⟩)
             case rel => exact ⟨_,(false),XR.rf,(by first | exact H' | (have h_ := H';simp only [c5b0,c6b0,c7b0,c10b0,c11b0,c13b0] at h_;exact h_)),⟨by have := HJ1.out;have := HK2.out;first | omega | exact Nat.le_refl _⟩,by repeat (first | exact Drawn0.refl _ | apply Drawn0.step)⟩
          ·rw [if_neg c10] at H;have c10b0 := decide_eq_false c10;clear c10;(first | rw [c10b0] | (simp only [i64_w,i32_w];rw [c10b0]) | skip);by_cases c15 : (bt a0 x14_2) > 122
           ·rw [if_pos c15] at H;have c15b0 := decide_eq_true c15;clear c15;by_cases c16 : (bt a0 x14_2) < 48
            ·rw [if_pos c16] at H;have c16b0 := decide_eq_true c16;clear c16;by_cases c17 : (bt a0 x14_2) = 45
             ·rw [if_pos c17] at H;have c17b0 := beq_iff_eq.mpr c17;have c17b1 := bne_eq_false_iff_eq.mpr c17;clear c17;have H' := Aside0.mk H;clear H;go_wp2
              first | go_meet | ((refine Met.intro ?_);go_step;(try simp only [c5b0,c6b0,c7b0,c10b0,c15b0,c16b0,c17b0]);(repeat apply Exists.intro);refine ⟨?rel,rfl⟩)
              case rel => exact ⟨_,(false),XR.rf,(by first | exact H' | (have h_ := H';simp only [c5b0,c6b0,c7b0,c10b0,c15b0,c16b0,c17b0] at h_;exact h_)),⟨by have := HJ1.out;have := HK2.out;first | omega | exact Nat.le_refl _⟩,by repeat (first | exact Drawn0.refl _ | apply Drawn0.step)⟩
             ·rw [if_neg c17] at H;have c17b0 := beq_eq_false_iff_ne.mpr c17;have c17b1 := bne_iff_ne.mpr c17;have H' := Aside0.mk H;clear H;go_wp2
              first | go_meet | ((refine Met.intro ?_);go_step;(try simp only [c5b0,c6b0,c7b0,c10b0,c15b0,c16b0,c17b0]);(repeat apply Exists.intro);refine ⟨?rel,rfl⟩)
              case rel => exact ⟨_,(((bt a0 x14_2) != 95)),XR.rf,(by first | exact H' | (have h_ := H';simp only [c5b0,c6b0,c7b0,c10b0,c15b0,c16b0,c17b0] at h_;exact h_)),⟨by have := HJ1.out;have := HK2.out;first | omega | exact Nat.le_refl _⟩,by repeat (first | exact Drawn0.refl _ | apply Drawn0.step)⟩
            ·rw [if_neg c16] at H;have c16b0 := decide_eq_false c16;clear c16;by_cases c18 : (bt a0 x14_2) > 57
             ·rw [if_pos c18] at H;have c18b0 := decide_eq_true c18;clear c18;by_cases c19 : (bt a0 x14_2) = 45
              ·rw [if_pos c19] at H;have c19b0 := beq_iff_eq.mpr c19;have c19b1 := bne_eq_false_iff_eq.mpr c19;clear c19;have H' := Aside0.mk H;clear H;go_wp2
               first | go_meet | ((refine Met.intro ?_);go_step;(try simp only [c5b0,c6b0,c7b0,c10b0,c15b0,c16b0,c18b0,c19b0]);(repeat apply Exists.intro);refine ⟨?rel,rfl⟩)
               case rel => exact ⟨_,(false),XR.rf,(by first | exact H' | (have h_ := H';simp only [c5b0,c6b0,c7b0,c10b0,c15b0,c16b0,c18b0,c19b0] at h_;exact h_)),⟨by have := HJ1.out;have := HK2.out;first | omega | exact Nat.le_refl _⟩,by repeat (first | exact Drawn0.refl _ | apply Drawn0.step)⟩
              ·rw [if_neg c19] at H;have c19b0 := beq_eq_false_iff_ne.mpr c19;have c19b1 := bne_iff_ne.mpr c19;have H' := Aside0.mk H;clear H;go_wp2
               first | go_meet | ((refine Met.intro ?_);go_step;(try simp only [c5b0,c6b0,c7b0,c10b0,c15b0,c16b0,c18b0,c19b0]);(repeat apply Exists.intro);refine ⟨?rel,rfl⟩)
               case rel => exact ⟨_,(((bt a0 x14_2) != 95)),XR.rf,(by first | exact H' | (have h_ := H';simp only [c5b0,c6b0,c7b0,c10b0,c15b0,c16b0,c18b0,c19b0] at h_;exact h_)),⟨by have := HJ1.out;have := HK2.out;first | omega | exact Nat.le_refl _⟩,by repeat (first | exact Drawn0.refl _ | apply Drawn0.step)⟩
             ·rw [if_neg c18] at H;have c18b0 := decide_eq_false c18;clear c18;have H' := Aside0.mk H;clear H;go_wp2
              first | go_meet | ((refine Met.intro ?_);go_step;(try simp only [c5b0,c6b0,c7b0,c10b0,c15b0,c16b0,c18b0]);(repeat apply Exists.intro);refine ⟨?rel,rfl⟩)
              case rel => exact ⟨_,(false),XR.rf,(by first | exact H' | (have h_ := H';simp only [c5b0,c6b0,c7b0,c10b0,c15b0,c16b0,c18b0] at h_;exact h_)),⟨by have := HJ1.out;have := HK2.out;first | omega | exact Nat.le_refl _⟩,by repeat (first | exact Drawn0.refl _ | apply Drawn0.step)⟩
           ·rw [if_neg c15] at H;have c15b0 := decide_eq_false c15;clear c15;have H' := Aside0.mk H;clear H;go_wp2
            first | go_meet | ((refine Met.intro ?_);go_step;(try simp only [c5b0,c6b0,c7b0,c10b0,c15b0]);(repeat apply Exists.intro);refine ⟨?rel,rfl⟩)
            case rel => exact ⟨_,(false),XR.rf,(by first | exact H' | (have h_ := H';simp only [c5b0,c6b0,c7b0,c10b0,c15b0] at h_;exact h_)),⟨by have := HJ1.out;have := HK2.out;first | omega | exact Nat.le_refl _⟩,by repeat (first | exact Drawn0.refl _ | apply Drawn0.step)⟩
         case rest =>
          clear HC9;(try clear c1);(try clear p2);(try clear c3);(try clear c3b0);(try clear c3b1);(try clear c4);(try clear c5);(try clear c5b0);(try clear c6);(try clear c6b0);(try clear c7);(try clear c7b0);(try clear c8);(try clear p8);(try clear q8);(try clear hx8);(try clear c10);(try clear c10b0);(try clear c11);(try clear c11b0);(try clear c12);(try clear c12b0);(try clear c12b1);(try clear c13);(try clear c13b0);(try clear c14);(try clear c14b0);(try clear c14b1);(try clear c15);(try clear c15b0);(try clear c16);(try clear c16b0);(try clear c17);(try clear c17b0);(try clear c17b1);(try clear c18);(try clear c18b0);(try clear c19);(try clear c19b0);(try clear c19b1);(try clear p2);(try clear p8);(try clear q8);obtain ⟨kq,x41_8,rfl,HA,HJ8,⟨mc8,rfl⟩⟩ := hcut
          cases kq with
          | zero => exact absurd HA.out (by simp [dname_ordinary.j2])
          | succ kj8 =>
           have H := HA.out;clear HA;simp only [dname_ordinary.j2] at H;by_cases c20 : x41_8 = true
           ·subst c20;rw [if_pos rfl] at H;(try dsimp only at H);obtain rfl := Option.some.inj H;go_wp2;go_ret;exact ⟨by first | rfl | (simp;done) | (simp [*];done),by repeat (first | exact Drawn0.refl _ | apply Drawn0.step)⟩
           ·replace c20 := Bool.eq_false_iff.mpr c20;subst c20;rw [if_neg (show ¬ (false = true) by decide)] at H;(try dsimp only at H);have H' := Aside0.mk H;clear H;go_wp2;go_roundg kj8
            case measure => have := HJ1.out;have := HK2.out;have := HJ8.out;omega
            case rel => exact ⟨(wrap64 (x14_2 + 1)),XR.rf,H',⟨by have := HJ1.out;have := HK2.out;have := HJ8.out;omega⟩,by repeat (first | exact Drawn0.refl _ | apply Drawn0.step)⟩
        ·rw [if_neg c7] at H;exact absurd H (by simp)
       ·rw [if_neg c6] at H;exact absurd H (by simp)
      ·rw [if_neg c5] at H;have c5b0 := decide_eq_false c5;clear c5;obtain rfl := Option.some.inj H;go_wp2;go_ret;exact ⟨by first | rfl | (simp;done) | (simp [*];done),by repeat (first | exact Drawn0.refl _ | apply Drawn0.step)⟩
end Go.Proofs.YtikhpegamnnabaaDoor.QA
