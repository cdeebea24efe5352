import Derived.Test.YtjifdgicamlikaaQAd4
import Derived.Test.YtjifdgicamlikaaQAx0
namespace Go.Proofs.Ytjifdgicamlikaa.QA
open Go.RowKit Go.Proofs.YtjifdgicamlikaaW.PrintWords Go.Proofs.YtjifdgicamlikaaW.PrintLast Go.Proofs.YtjifdgicamlikaaW.PrintMore
attribute [local go_sem] max2_int min2_int max_two min_two max_three min_three max_four min_four
attribute [local go_sem high] Go.Proofs.Ytjifdgicamlikaa.XW.cell_setCell_lit
set_option linter.unusedVariables false
set_option linter.unusedSimpArgs false
set_option maxHeartbeats 8000000 in
set_option maxRecDepth 100000 in
theorem blocks_whole.calls (a0_0 : Bool) (a0_1 : Int) (a0_2 : Int) (a0_3 : Int) (r : Int) (w : World) (h : blocks_whole.f a0_0 a0_1 a0_2 a0_3 = some r) :
  Calls Try.prog 60 #[.agg #[.bool a0_0,.int .u64 a0_1,.int .u64 a0_2,.int .i64 a0_3]] w fun e w' => e = .returned (.int .i64 r) ∧ Below w.heap.size w w' := by
 have hu31 := Try.underlying31;have HB := Aside0.mk (Below.refl w.heap.size w);have H : (if a0_0 = true then (some 128) else (some 32)) = some r := h;clear h;by_cases c2 : a0_0 = true
 ·subst c2;rw [if_pos rfl] at H;(try dsimp only at H);obtain rfl := Option.some.inj H;go_enter Try.func60,Try.ntmps60;go_wp2_with (first | ((with_reducible refine gate_dst (N := 1) rfl ?_);refine XR.bx 1 31 #[.bool true,.int .u64 a0_1,.int .u64 a0_2,.int .i64 a0_3] ?_;intro gb550 hg w3 hbox hb;have BK550 := Aside0.mk (hbox);have GW550 := Aside0.mk (XR.ge hg HB.out);have GE550 := GW550;replace HB := Aside0.mk (XR.bB HB.out hb);clear hb hbox hg;obtain ⟨Y4_0,Y4_1,Y4_2,Y4_3⟩ := XR.c4 BK550.out;obtain ⟨Z4_0,Z4_1,Z4_2,Z4_3⟩ := XR.f4 BK550.out));go_ret;exact XR.re HB.out
 ·replace c2 := Bool.eq_false_iff.mpr c2;subst c2;rw [if_neg (show ¬ (false = true) by decide)] at H;(try dsimp only at H);obtain rfl := Option.some.inj H;go_enter Try.func60,Try.ntmps60;go_wp2_with (first | ((with_reducible refine gate_dst (N := 1) rfl ?_);refine XR.bx 1 31 #[.bool false,.int .u64 a0_1,.int .u64 a0_2,.int .i64 a0_3] ?_;intro gb550 hg w5 hbox hb;have BK550 := Aside0.mk (hbox);have GW550 := Aside0.mk (XR.ge hg HB.out);have GE550 := GW550;replace HB := Aside0.mk (XR.bB HB.out hb);clear hb hbox hg;obtain ⟨Y6_0,Y6_1,Y6_2,Y6_3⟩ := XR.c4 BK550.out;obtain ⟨Z6_0,Z6_1,Z6_2,Z6_3⟩ := XR.f4 BK550.out));go_ret;exact XR.re HB.out
set_option maxHeartbeats 8000000 in
set_option maxRecDepth 100000 in
theorem blocks_visible.calls (k : Nat) (a0 : ByteArray) (a1 : Int) (a2 : Int) (r : Bool) (w : World) (h : blocks_visible.f k a0 a1 a2 = some r) :
  Calls Try.prog 61 #[.string a0,.int .i64 a1,.int .i64 a2] w fun e w' => e = .returned (.bool r) ∧ Drawn0 w w' := by
 have H : (if (a0.size : Int) < a1 then (blocks_visible.j0 k a0 true) else (blocks_visible.j0 k a0 (decide ((a0.size : Int) > a2)))) = some r := h;clear h;have HC4 := Aside0.mk H;clear H;go_enter Try.func61,Try.ntmps61;go_upto_region 1 with (fail);go_cut [17] (fun v17 wc => ∃ (kq : Nat) (x17_3 : Bool),v17 = .bool x17_3 ∧ Aside0 (blocks_visible.j0 kq a0 x17_3 = some r) ∧ Aside0 (kq ≤ k) ∧ Drawn0 w wc)
 case first =>
  have H := HC4.out;clear HC4;by_cases c5 : (a0.size : Int) < a1
  ·rw [if_pos c5] at H;have c5b0 := decide_eq_true c5;clear c5;(first | rw [c5b0] | (simp only [i64_w,i32_w];rw [c5b0]) | skip);have H' := Aside0.mk H;clear H;go_wp2
   first | go_meet | ((refine Met.intro ?_);go_step;(try simp only [c5b0]);(repeat apply Exists.intro);refine ⟨?rel,rfl⟩)
   case rel => exact ⟨_,(true),XR.rf,(by first | exact H' | (have h_ := H';simp only [c5b0] at h_;exact h_)),XR.om,by repeat (first | exact Drawn0.refl _ | apply Drawn0.step)⟩
  ·rw [if_neg c5] at H;have c5b0 := decide_eq_false c5;clear c5;(first | rw [c5b0] | (simp only [i64_w,i32_w];rw [c5b0]) | skip);have H' := Aside0.mk H;clear H;go_wp2
   first | go_meet | ((refine Met.intro ?_);go_step;(try simp only [c5b0]);(repeat apply Exists.intro);refine ⟨?rel,rfl⟩)
   case rel => exact ⟨_,(decide ((a0.size : Int) > a2)),XR.rf,(by first | exact H' | (have h_ := H';simp only [c5b0] at h_;exact h_)),XR.om,by repeat (first | exact Drawn0.refl _ | apply Drawn0.step)⟩
 case rest =>
  clear HC4;(try clear p2);(try clear c5);(try clear c5b0);obtain ⟨kq,x17_3,rfl,HA,HJ3,⟨mc3,rfl⟩⟩ := hcut
  cases kq with
  | zero => exact absurd HA.out (by simp [blocks_visible.j0])
  | succ kj3 =>
   have H := HA.out;clear HA;simp only [blocks_visible.j0] at H;by_cases c6 : x17_3 = true
   ·subst c6;rw [if_pos rfl] at H;(try dsimp only at H);obtain rfl := Option.some.inj H;go_wp2;go_ret;exact ⟨by first | rfl | (simp;done) | (simp [*];done),by repeat (first | exact Drawn0.refl _ | apply Drawn0.step)⟩
   ·replace c6 := Bool.eq_false_iff.mpr c6;subst c6;rw [if_neg (show ¬ (false = true) by decide)] at H;(try dsimp only at H);have H' := Aside0.mk H;clear H;go_wp2;go_loopg [20] kj3 (fun kq v20 w' => ∃ (x20_2 : Int),v20 = .int .i64 x20_2 ∧ Aside0 (blocks_visible.l0 kq a0 (a0.size : Int) x20_2 = some r) ∧ Aside0 (kq ≤ kj3) ∧ Drawn0 w w')
    case atStart => exact ⟨(0),XR.rf,H',⟨Nat.le_refl _⟩,by repeat (first | exact Drawn0.refl _ | apply Drawn0.step)⟩
    case round =>
     clear H';(try clear p2);(try clear c3);(try clear c5);(try clear c5b0);(try clear c6);(try clear p2);obtain ⟨x20_2,rfl,HA,HK2,⟨m2,rfl⟩⟩ := hrel
     cases gk with
     | zero => exact absurd HA.out (by simp [blocks_visible.l0])
     | succ k2 =>
      have H := HA.out;clear HA;simp only [blocks_visible.l0] at H;by_cases c7 : x20_2 < (a0.size : Int)
      ·rw [if_pos c7] at H;have c7b0 := decide_eq_true c7;clear c7;have HC8 := Aside0.mk H;clear H;go_upto_region 6 with (fail);go_cut [32] (fun v32 wc => ∃ (kq : Nat) (x32_7 : Bool),v32 = .bool x32_7 ∧ Aside0 (blocks_visible.j2 kq a0 (a0.size : Int) x20_2 x32_7 = some r) ∧ Aside0 (kq ≤ k2) ∧ Drawn0 w wc)
       case first =>
        have H := HC8.out;clear HC8;by_cases c9 : 0 ≤ x20_2
        ·rw [if_pos c9] at H;have c9b0 := decide_eq_true c9;clear c9;(first | rw [c9b0] | (simp only [i64_w,i32_w];rw [c9b0]) | skip);by_cases c10 : x20_2 < (a0.size : Int)
         ·rw [if_pos c10] at H;have c10b0 := decide_eq_true c10;clear c10;by_cases c12 : (bt a0 x20_2) < 33
          ·rw [if_pos c12] at H;have c12b0 := decide_eq_true c12;clear c12;have H' := Aside0.mk H;clear H;have p11 : 0 ≤ (x20_2 : Int) := XR.od;have q11 : x20_2 < (a0.size : Int) := XR.od;have hx11 := bt_at a0 x20_2;replace p11 := eq_true p11;replace q11 := eq_true q11;go_wp2
           first | go_meet | ((refine Met.intro ?_);go_step;(try simp only [c7b0,c9b0,c10b0,c12b0]);(repeat apply Exists.intro);refine ⟨?rel,rfl⟩)
           case rel => exact ⟨_,(true),XR.rf,(by first | exact H' | (have h_ := H';simp only [c7b0,c9b0,c10b0,c12b0] at h_;exact h_)),⟨by have := HJ3.out;have := HK2.out;first | omega | exact Nat.le_refl _⟩,by repeat (first | exact Drawn0.refl _ | apply Drawn0.step)⟩
          ·rw [if_neg c12] at H;have c12b0 := decide_eq_false c12;clear c12;have H' := Aside0.mk H;clear H;have p11 : 0 ≤ (x20_2 : Int) := XR.od;have q11 : x20_2 < (a0.size : Int) := XR.od;have hx11 := bt_at a0 x20_2;replace p11 := eq_true p11;replace q11 := eq_true q11;have p13 : 0 ≤ (x20_2 : Int) := XR.od;have q13 : x20_2 < (a0.size : Int) := XR.od;have hx13 := bt_at a0 x20_2;replace p13 := eq_true p13;replace q13 := eq_true q13;go_wp2
           first | go_meet | ((refine Met.intro ?_);go_step;(try simp only [c7b0,c9b0,c10b0,c12b0]);(repeat apply Exists.intro);refine ⟨?rel,rfl⟩)
           case rel => exact ⟨_,(decide ((bt a0 x20_2) > 126)),XR.rf,(by first | exact H' | (have h_ := H';simp only [c7b0,c9b0,c10b0,c12b0] at h_;exact h_)),⟨by have := HJ3.out;have := HK2.out;first | omega | exact Nat.le_refl _⟩,by repeat (first | exact Drawn0.refl _ | apply Drawn0.step)⟩
         ·rw [if_neg c10] at H;exact absurd H (by simp)
        ·rw [if_neg c9] at H;exact absurd H (by simp)
       case rest =>
        clear HC8;(try clear c1);(try clear p1);(try clear q1);(try clear hx1);(try clear p2);(try clear c3);(try clear c5);(try clear c5b0);(try clear c6);(try clear c7);(try clear c7b0);(try clear c9);(try clear c9b0);(try clear c10);(try clear c10b0);(try clear p11);(try clear q11);(try clear hx11);(try clear c12);(try clear c12b0);(try clear p13);(try clear q13);(try clear hx13);(try clear p11);(try clear p13);(try clear p2);(try clear q11);(try clear q13);obtain ⟨kq,x32_7,rfl,HA,HJ7,⟨mc7,rfl⟩⟩ := hcut
        cases kq with
        | zero => exact absurd HA.out (by simp [blocks_visible.j2])
        | succ kj7 =>
         have H := HA.out;clear HA;simp only [blocks_visible.j2] at H;by_cases c14 : x32_7 = true
         ·subst c14;rw [if_pos rfl] at H;(try dsimp only at H);obtain rfl := Option.some.inj H;go_wp2;go_ret;exact ⟨by first | rfl | (simp;done) | (simp [*];done),by repeat (first | exact Drawn0.refl _ | apply Drawn0.step)⟩
         ·replace c14 := Bool.eq_false_iff.mpr c14;subst c14;rw [if_neg (show ¬ (false = true) by decide)] at H;(try dsimp only at H);have H' := Aside0.mk H;clear H;go_wp2;go_roundg kj7
          case measure => have := HJ3.out;have := HK2.out;have := HJ7.out;omega
          case rel => exact ⟨(wrap64 (x20_2 + 1)),XR.rf,H',⟨by have := HJ3.out;have := HK2.out;have := HJ7.out;omega⟩,by repeat (first | exact Drawn0.refl _ | apply Drawn0.step)⟩
      ·rw [if_neg c7] at H;have c7b0 := decide_eq_false c7;clear c7;obtain rfl := Option.some.inj H;go_wp2;go_ret;exact ⟨by first | rfl | (simp;done) | (simp [*];done),by repeat (first | exact Drawn0.refl _ | apply Drawn0.step)⟩
end Go.Proofs.Ytjifdgicamlikaa.QA
