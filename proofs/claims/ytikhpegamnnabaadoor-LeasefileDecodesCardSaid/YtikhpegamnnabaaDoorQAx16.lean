import Derived.Test.YtikhpegamnnabaaDoorQAd1
import Derived.Test.YtikhpegamnnabaaDoorQAx0
namespace Go.Proofs.YtikhpegamnnabaaDoor.QA
open Go.RowKit Go.Proofs.YtikhpegamnnabaaDoorW.PrintWords Go.Proofs.YtikhpegamnnabaaDoorW.PrintLast Go.Proofs.YtikhpegamnnabaaDoorW.PrintMore
attribute [local go_sem] max2_int min2_int max_two min_two max_three min_three max_four min_four
attribute [local go_sem high] Go.Proofs.YtikhpegamnnabaaDoor.XW.cell_setCell_lit
set_option linter.unusedVariables false
set_option linter.unusedSimpArgs false
set_option maxHeartbeats 8000000 in
set_option maxRecDepth 100000 in
theorem ddiref01_isLabel.calls (k : Nat) (a0 : ByteArray) (r : Bool) (w : World) (h : ddiref01_isLabel.f k a0 = some r) :
  Calls Tryd.prog 87 #[.string a0] w fun e w' => e = .returned (.bool r) ∧ Drawn0 w w' := by
 have H : (if a0.toList = ([42] : List UInt8) then (some true) else (if (a0.size : Int) < 1 then (ddiref01_isLabel.j0 k a0 true) else (ddiref01_isLabel.j0 k a0 (decide ((a0.size : Int) > 63))))) = some r := h;clear h;by_cases c2 : a0.toList = ([42] : List UInt8)
 ·rw [if_pos c2] at H;have c2b0 := beq_iff_eq.mpr c2;have c2b1 := bne_eq_false_iff_eq.mpr c2;clear c2;obtain rfl := Option.some.inj H;go_enter Tryd.func87,Tryd.ntmps87;go_wp2;go_ret;exact ⟨by first | rfl | (simp;done) | (simp [*];done),by repeat (first | exact Drawn0.refl _ | apply Drawn0.step)⟩
 ·rw [if_neg c2] at H;have c2b0 := beq_eq_false_iff_ne.mpr c2;have c2b1 := bne_iff_ne.mpr c2;have HC3 := Aside0.mk H;clear H;go_enter Tryd.func87,Tryd.ntmps87;go_upto_region 3 with (fail);go_cut [14] (fun v14 wc => ∃ (kq : Nat) (x14_2 : Bool),v14 = .bool x14_2 ∧ Aside0 (ddiref01_isLabel.j0 kq a0 x14_2 = some r) ∧ Aside0 (kq ≤ k) ∧ Drawn0 w wc)
  case first =>
   have H := HC3.out;clear HC3;by_cases c4 : (a0.size : Int) < 1
   ·rw [if_pos c4] at H;have c4b0 := decide_eq_true c4;have c4b1 : decide (a0.size < 1) = true := decide_eq_true (by omega);clear c4;(first | rw [c4b0] | (simp only [i64_w,i32_w];rw [c4b0]) | skip);have H' := Aside0.mk H;clear H;go_wp2
    first | go_meet | ((refine Met.intro ?_);go_step;(try simp only [c2b0,c4b0]);(repeat apply Exists.intro);refine ⟨?rel,rfl⟩)
    case rel => exact ⟨_,(true),XR.rf,(by first | exact H' | (have h_ := H';simp only [c2b0,c4b0] at h_;exact h_)),XR.om,by repeat (first | exact Drawn0.refl _ | apply Drawn0.step)⟩
   ·rw [if_neg c4] at H;have c4b0 := decide_eq_false c4;have c4b1 : decide (a0.size < 1) = false := decide_eq_false (by omega);clear c4;(first | rw [c4b0] | (simp only [i64_w,i32_w];rw [c4b0]) | skip);have H' := Aside0.mk H;clear H;go_wp2
    first | go_meet | ((refine Met.intro ?_);go_step;(try simp only [c2b0,c4b0]);(repeat apply Exists.intro);refine ⟨?rel,rfl⟩)
    case rel => exact ⟨_,(decide ((a0.size : Int) > 63)),XR.rf,(by first | exact H' | (have h_ := H';simp only [c2b0,c4b0] at h_;exact h_)),XR.om,by repeat (first | exact Drawn0.refl _ | apply Drawn0.step)⟩
  case rest =>
   clear HC3;(try clear c2);(try clear c2b0);(try clear c2b1);(try clear p2);(try clear c4);(try clear c4b0);(try clear c4b1);obtain ⟨kq,x14_2,rfl,HA,HJ2,⟨mc2,rfl⟩⟩ := hcut
   cases kq with
   | zero => exact absurd HA.out (by simp [ddiref01_isLabel.j0])
   | succ kj2 =>
    have H := HA.out;clear HA;simp only [ddiref01_isLabel.j0] at H;by_cases c5 : x14_2 = true
    ·subst c5;rw [if_pos rfl] at H;(try dsimp only at H);obtain rfl := Option.some.inj H;go_wp2;go_ret;exact ⟨by first | rfl | (simp;done) | (simp [*];done),by repeat (first | exact Drawn0.refl _ | apply Drawn0.step)⟩
    ·replace c5 := Bool.eq_false_iff.mpr c5;subst c5;rw [if_neg (show ¬ (false = true) by decide)] at H;(try dsimp only at H);have H' := Aside0.mk H;clear H;go_wp2;go_loopg [3] kj2 (fun kq v3 w' => ∃ (x3_2 : Int),v3 = .int .i64 x3_2 ∧ Aside0 (ddiref01_isLabel.l0 kq a0 x3_2 = some r) ∧ Aside0 (kq ≤ kj2) ∧ Drawn0 w w')
     case atStart => exact ⟨(0),XR.rf,H',⟨Nat.le_refl _⟩,by repeat (first | exact Drawn0.refl _ | apply Drawn0.step)⟩
     case round =>
      clear H';(try clear c2);(try clear c2b0);(try clear c2b1);(try clear p2);(try clear c4);(try clear c4b0);(try clear c4b1);(try clear c5);(try clear p2);obtain ⟨x3_2,rfl,HA,HK2,⟨m2,rfl⟩⟩ := hrel
      cases gk with
      | zero => exact absurd HA.out (by simp [ddiref01_isLabel.l0])
      | succ k2 =>
       have H := HA.out;clear HA;simp only [ddiref01_isLabel.l0] at H;by_cases c6 : x3_2 < (a0.size : Int)
       ·rw [if_pos c6] at H;have c6b0 := decide_eq_true c6;clear c6;by_cases c7 : 0 ≤ x3_2
        ·rw [if_pos c7] at H;have c7b0 := decide_eq_true c7;clear c7;have HC9 := Aside0.mk H;clear H;have p8 : 0 ≤ (x3_2 : Int) := XR.od;have q8 : x3_2 < (a0.size : Int) := XR.od;have hx8 := bt_at a0 x3_2;replace p8 := eq_true p8;replace q8 := eq_true q8;go_upto_region 9 with (fail);go_cut [46] (fun v46 wc => ∃ (kq : Nat) (x46_8 : Bool),v46 = .bool x46_8 ∧ Aside0 (ddiref01_isLabel.j2 kq a0 x3_2 x46_8 = some r) ∧ Aside0 (kq ≤ k2) ∧ Drawn0 w wc)
         case first =>
          have H := HC9.out;clear HC9;by_cases c10 : (bt a0 x3_2) ≥ 97
          ·rw [if_pos c10] at H;have c10b0 := decide_eq_true c10;clear c10;(first | rw [c10b0] | (simp only [i64_w,i32_w];rw [c10b0]) | skip);by_cases c11 : (bt a0 x3_2) ≤ 122
           ·rw [if_pos c11] at H;have c11b0 := decide_eq_true c11;clear c11;have H' := Aside0.mk H;clear H;go_wp2
            first | go_meet | ((refine Met.intro ?_);go_step;(try simp only [c6b0,c7b0,c10b0,c11b0]);(repeat apply Exists.intro);refine ⟨?rel,rfl⟩)
            case rel => exact ⟨_,(!true),XR.rf,(by first | exact H' | (have h_ := H';simp only [c6b0,c7b0,c10b0,c11b0] at h_;exact h_)),⟨by have := HJ2.out;have := HK2.out;first | omega | exact Nat.le_refl _⟩,by repeat (first | exact Drawn0.refl _ | apply Drawn0.step)⟩
           ·rw [if_neg c11] at H;have c11b0 := decide_eq_false c11;clear c11;by_cases c12 : (bt a0 x3_2) ≥ 48
            ·rw [if_pos c12] at H;have c12b0 := decide_eq_true c12;clear c12;by_cases c13 : (bt a0 x3_2) ≤ 57
             ·rw [if_pos c13] at H;have c13b0 := decide_eq_true c13;clear c13;have H' := Aside0.mk H;clear H;go_wp2
              first | go_meet | ((refine Met.intro ?_);go_step;(try simp only [c6b0,c7b0,c10b0,c11b0,c12b0,c13b0]);(repeat apply Exists.intro);refine ⟨?rel,rfl⟩)
              case rel => exact ⟨_,(!true),XR.rf,(by first | exact H' | (have h_ := H';simp only [c6b0,c7b0,c10b0,c11b0,c12b0,c13b0] at h_;exact h_)),⟨by have := HJ2.out;have := HK2.out;first | omega | exact Nat.le_refl _⟩,by repeat (first | exact Drawn0.refl _ | apply Drawn0.step)⟩
             ·rw [if_neg c13] at H;have c13b0 := decide_eq_false c13;clear c13;by_cases c14 : (bt a0 x3_2) = 45
              ·rw [if_pos c14] at H;have c14b0 := beq_iff_eq.mpr c14;have c14b1 := bne_eq_false_iff_eq.mpr c14;clear c14;have H' := Aside0.mk H;clear H;go_wp2
               first | go_meet | ((refine Met.intro ?_);go_step;(try simp only [c6b0,c7b0,c10b0,c11b0,c12b0,c13b0,c14b0]);(repeat apply Exists.intro);refine ⟨?rel,rfl⟩)
               case rel => exact ⟨_,(!true),XR.rf,(by first | exact H' | (have h_ := H';simp only [c6b0,c7b0,c10b0,c11b0,c12b0,c13b0,c14b0] at h_;exact h_)),⟨by have := HJ2.out;have := HK2.out;first | omega | exact Nat.le_refl _⟩,by repeat (first | exact Drawn0.refl _ | apply Drawn0.step)⟩
              ·rw [if_neg c14] at H;have c14b0 := beq_eq_false_iff_ne.mpr c14;have c14b1 := bne_iff_ne.mpr c14;have H' := Aside0.mk H;clear H;go_wp2
               first | go_meet | ((refine Met.intro ?_);go_step;(try simp only [c6b0,c7b0,c10b0,c11b0,c12b0,c13b0,c14b0]);(repeat apply Exists.intro);refine ⟨?rel,rfl⟩)
               case rel => exact ⟨_,(!((bt a0 x3_2) == 95)),XR.rf,(by first | exact H' | (have h_ := H';simp only [c6b0,c7b0,c10b0,c11b0,c12b0,c13b0,c14b0] at h_;exact h_)),⟨by have := HJ2.out;have := HK2.out;first | omega | exact Nat.le_refl _⟩,by repeat (first | exact Drawn0.refl _ | apply Drawn0.step)⟩
            ·rw [if_neg c12] at H;have c12b0 := decide_eq_false c12;clear c12;by_cases c15 : (bt a0 x3_2) = 45
             ·rw [if_pos c15] at H;have c15b0 := beq_iff_eq.mpr c15;have c15b1 := bne_eq_false_iff_eq.mpr c15;clear c15;have H' := Aside0.mk H;clear H;go_wp2
              first | go_meet | ((refine Met.intro ?_);go_step;(try simp only [c6b0,c7b0,c10b0,c11b0,c12b0,c15b0]);(repeat apply Exists.intro);refine ⟨?rel,rfl⟩)
              case rel => exact ⟨_,(!true),XR.rf,(by first | exact H' | (have h_ := H';simp only [c6b0,c7b0,c10b0,c11b0,c12b0,c15b0] at h_;exact h_)),⟨by have := HJ2.out;have := HK2.out;first | omega | exact Nat.le_refl _⟩,by repeat (first | exact Drawn0.refl _ | apply Drawn0.step)⟩
             ·rw [if_neg c15] at H;have c15b0 := beq_eq_false_iff_ne.mpr c15;have c15b1 := bne_iff_ne.mpr c15;have H' := Aside0.mk H;clear H;go_wp2
              first | go_meet | ((refine Met.intro ?_);go_step;(try simp only [c6b0,c7b0,c10b0,c11b0,c12b0,c15b0]);(repeat apply Exists.intro);refine ⟨?rel,rfl⟩)
              case rel => exact ⟨_,(!((bt a0 x3_2) == 95)),XR.rf,(by first | exact H' | (have h_ := H';simp only [c6b0,c7b0,c10b0,c11b0,c12b0,c15b0] at h_;exact h_)),⟨by have := HJ2.out;have := HK2.out;first | omega | exact Nat.le_refl _⟩,by repeat (first | exact Drawn0.refl _ | apply Drawn0.step)⟩
          ·rw [if_neg c10] at H;have c10b0 := decide_eq_false c10;clear c10;(first | rw [c10b0] | (simp only [i64_w,i32_w];rw [c10b0]) | skip);by_cases c16 : (bt a0 x3_2) ≥ 48
           ·rw [if_pos c16] at H;have c16b0 := decide_eq_true c16;clear c16;by_cases c17 : (bt a0 x3_2) ≤ 57
            ·rw [if_pos c17] at H;have c17b0 := decide_eq_true c17;clear c17;have H' := Aside0.mk H;clear H;go_wp2
             first | go_meet | ((refine Met.intro ?_);go_step;(try simp only [c6b0,c7b0,c10b0,c16b0,c17b0]);(repeat apply Exists.intro);refine ⟨?rel,rfl⟩)
             case rel => exact ⟨_,(!true),XR.rf,(by first | exact H' | (have h_ := H';simp only [c6b0,c7b0,c10b0,c16b0,c17b0] at h_;exact h_)),⟨by have := HJ2.out;have := HK2.out;first | omega | exact Nat.le_refl _⟩,by repeat (first | exact Drawn0.refl _ | apply Drawn0.step)⟩
            ·rw [if_neg c17] at H;have c17b0 := decide_eq_false c17;clear c17;by_cases c18 : (bt a0 x3_2) = 45
             ·rw [if_pos c18] at H;have c18b0 := beq_iff_eq.mpr c18;have c18b1 := bne_eq_false_iff_eq.mpr c18;clear c18;have H' := Aside0.mk H;clear H;go_wp2
              first | go_meet | ((refine Met.intro ?_);go_step;(try simp only [c6b0,c7b0,c10b0,c16b0,c17b0,c18b0]);(repeat apply Exists.intro);refine ⟨?rel,rfl⟩)
              case rel => exact ⟨_,(!true),XR.rf,(by first | exact H' | (have h_ := H';simp only [c6b0,c7b0,c10b0,c16b0,c17b0,c18b0] at h_;exact h_)),⟨by have := HJ2.out;have := HK2.out;first | omega | exact Nat.le_refl _⟩,by repeat (first | exact Drawn0.refl _ | apply Drawn0.step)⟩
             ·rw [if_neg c18] at H;have c18b0 := beq_eq_false_iff_ne.mpr c18;have c18b1 := bne_iff_ne.mpr c18;have H' := Aside0.mk H;clear H;go_wp2
              first | go_meet | ((refine Met.intro ?_);go_step;(try simp only [c6b0,c7b0,c10b0,c16b0,c17b0,c18b0]);(repeat apply Exists.intro);refine ⟨?rel,rfl⟩)
              case rel => exact ⟨_,(!((bt a0 x3_2) == 95)),XR.rf,(by first | exact H' | (have h_ := H';simp only [c6b0,c7b0,c10b0,c16b0,c17b0,c18b0] at h_;exact h_)),⟨by have := HJ2.out;have := HK2.out;first | omega | exact Nat.le_refl _⟩,by repeat (first | exact Drawn0.refl _ | apply Drawn0.step)⟩
           ·rw [if_neg c16] at H;have c16b0 := decide_eq_false c16;clear c16;by_cases c19 : (bt a0 x3_2) = 45
            ·rw [if_pos c19] at H;have c19b0 := beq_iff_eq.mpr c19;have c19b1 := bne_eq_false_iff_eq.mpr c19;clear c19;have H' := Aside0.mk H;clear H;go_wp2
             first | go_meet | ((refine Met.intro ?_);go_step;(try simp only [c6b0,c7b0,c10b0,c16b0,c19b0]);(repeat apply Exists.intro);refine ⟨?rel,rfl⟩)
             case rel => exact ⟨_,(!true),XR.rf,(by first | exact H' | (have h_ := H';simp only [c6b0,c7b0,c10b0,c16b0,c19b0] at h_;exact h_)),⟨by have := HJ2.out;have := HK2.out;first | omega | exact Nat.le_refl _⟩,by repeat (first | exact Drawn0.refl _ | apply Drawn0.step)⟩
            ·rw [if_neg c19] at H;have c19b0 := beq_eq_false_iff_ne.mpr c19;have c19b1 := bne_iff_ne.mpr c19;have H' := Aside0.mk H;clear H;go_wp2
             first | go_meet | ((refine Met.intro ?_);go_step;(try simp only [c6b0,c7b0,c10b0,c16b0,c19b0]);(repeat apply Exists.intro);refine ⟨?rel,rfl⟩)
             case rel => exact ⟨_,(!((bt a0 x3_2) == 95)),XR.rf,(by first | exact H' | (have h_ := H';simp only [c6b0,c7b0,c10b0,c16b0,c19b0] at h_;exact h_)),⟨by have := HJ2.out;have := HK2.out;first | omega | exact Nat.le_refl _⟩,by repeat (first | exact Drawn0.refl _ | apply Drawn0.step)⟩
         case rest =>
          clear HC9;(try clear c1);(try clear c2);(try clear c2b0);(try clear c2b1);(try clear p2);(try clear c4);(try clear c4b0);(try clear c4b1);(try clear c5);(try clear c6);(try clear c6b0);(try clear c7);(try clear c7b0);(try clear c8);(try clear p8);(try clear q8);(try clear hx8);(try clear c10);(try clear c10b0);(try clear c11);(try clear c11b0);(try clear c12);(try clear c12b0);(try clear c13);(try clear c13b0);(try clear c14);(try clear c14b0);(try clear c14b1);(try clear c15);(try clear c15b0);(try clear c15b1);(try clear c16);(try clear c16b0);(try clear c17);(try clear c17b0);(try clear c18);(try clear c18b0);(try clear c18b1);(try clear c19);(try clear c19b0);(try clear c19b1);(try clear p2);(try clear p8);(try clear q8);obtain ⟨kq,x46_8,rfl,HA,HJ8,⟨mc8,rfl⟩⟩ := hcut
          cases kq with
          | zero => exact absurd HA.out (by simp [ddiref01_isLabel.j2])
          | succ kj8 =>
           have H := HA.out;clear HA;simp only [ddiref01_isLabel.j2] at H;by_cases c20 : x46_8 = true
           ·subst c20;rw [if_pos rfl] at H;(try dsimp only at H);obtain rfl := Option.some.inj H;go_wp2;go_ret;exact ⟨by first | rfl | (simp;done) | (simp [*];done),by repeat (first | exact Drawn0.refl _ | apply Drawn0.step)⟩
           ·replace c20 := Bool.eq_false_iff.mpr c20;subst c20;rw [if_neg (show ¬ (false = true) by decide)] at H;(try dsimp only at H);have H' := Aside0.mk H;clear H;go_wp2;go_roundg kj8
            case measure => have := HJ2.out;have := HK2.out;have := HJ8.out;omega
            case rel => exact ⟨(wrap64 (x3_2 + 1)),XR.rf,H',⟨by have := HJ2.out;have := HK2.out;have := HJ8.out;omega⟩,by repeat (first | exact Drawn0.refl _ | apply Drawn0.step)⟩
        ·rw [if_neg c7] at H;exact absurd H (by simp)
       ·rw [if_neg c6] at H;have c6b0 := decide_eq_false c6;clear c6;obtain rfl := Option.some.inj H;go_wp2;go_ret;exact ⟨by first | rfl | (simp;done) | (simp [*];done),by repeat (first | exact Drawn0.refl _ | apply Drawn0.step)⟩
end Go.Proofs.YtikhpegamnnabaaDoor.QA
