import Derived.Test.YtjifdgicamlikaaQAd1
import Derived.Test.YtjifdgicamlikaaQAx0
namespace Go.Proofs.Ytjifdgicamlikaa.QA
open Go.RowKit Go.Proofs.YtjifdgicamlikaaW.PrintWords Go.Proofs.YtjifdgicamlikaaW.PrintLast Go.Proofs.YtjifdgicamlikaaW.PrintMore
attribute [local go_sem] max2_int min2_int max_two min_two max_three min_three max_four min_four
attribute [local go_sem high] Go.Proofs.Ytjifdgicamlikaa.XW.cell_setCell_lit
set_option linter.unusedVariables false
set_option linter.unusedSimpArgs false
set_option maxHeartbeats 8000000 in
set_option maxRecDepth 100000 in
theorem ddiref46_whole.calls (a0_0 : Bool) (a0_1 : Int) (a0_2 : Int) (a0_3 : Int) (r : Int) (w : World) (h : ddiref46_whole.f a0_0 a0_1 a0_2 a0_3 = some r) :
  Calls Try.prog 73 #[.agg #[.bool a0_0,.int .u64 a0_1,.int .u64 a0_2,.int .i64 a0_3]] w fun e w' => e = .returned (.int .i64 r) ∧ Below w.heap.size w w' := by
 have hu31 := Try.underlying31;have HB := Aside0.mk (Below.refl w.heap.size w);have H : (if a0_0 = true then (some 128) else (some 32)) = some r := h;clear h;by_cases c2 : a0_0 = true
 ·subst c2;rw [if_pos rfl] at H;(try dsimp only at H);obtain rfl := Option.some.inj H;go_enter Try.func73,Try.ntmps73;go_wp2_with (first | ((with_reducible refine gate_dst (N := 1) rfl ?_);refine XR.bx 1 31 #[.bool true,.int .u64 a0_1,.int .u64 a0_2,.int .i64 a0_3] ?_;intro gb108 hg w3 hbox hb;have BK108 := Aside0.mk (hbox);have GW108 := Aside0.mk (XR.ge hg HB.out);have GE108 := GW108;replace HB := Aside0.mk (XR.bB HB.out hb);clear hb hbox hg;obtain ⟨Y4_0,Y4_1,Y4_2,Y4_3⟩ := XR.c4 BK108.out;obtain ⟨Z4_0,Z4_1,Z4_2,Z4_3⟩ := XR.f4 BK108.out));go_ret;exact XR.re HB.out
 ·replace c2 := Bool.eq_false_iff.mpr c2;subst c2;rw [if_neg (show ¬ (false = true) by decide)] at H;(try dsimp only at H);obtain rfl := Option.some.inj H;go_enter Try.func73,Try.ntmps73;go_wp2_with (first | ((with_reducible refine gate_dst (N := 1) rfl ?_);refine XR.bx 1 31 #[.bool false,.int .u64 a0_1,.int .u64 a0_2,.int .i64 a0_3] ?_;intro gb108 hg w5 hbox hb;have BK108 := Aside0.mk (hbox);have GW108 := Aside0.mk (XR.ge hg HB.out);have GE108 := GW108;replace HB := Aside0.mk (XR.bB HB.out hb);clear hb hbox hg;obtain ⟨Y6_0,Y6_1,Y6_2,Y6_3⟩ := XR.c4 BK108.out;obtain ⟨Z6_0,Z6_1,Z6_2,Z6_3⟩ := XR.f4 BK108.out));go_ret;exact XR.re HB.out
set_option maxHeartbeats 8000000 in
set_option maxRecDepth 100000 in
theorem ddiref46_printable.calls (k : Nat) (a0 : ByteArray) (r : Bool) (w : World) (h : ddiref46_printable.f k a0 = some r) :
  Calls Try.prog 74 #[.string a0] w fun e w' => e = .returned (.bool r) ∧ Drawn0 w w' := by
 have H : (ddiref46_printable.l0 k a0 0) = some r := h;clear h;have H' := Aside0.mk H;clear H;go_enter Try.func74,Try.ntmps74;go_wp2;go_loopg [3] k (fun kq v3 w' => ∃ (x3_1 : Int),v3 = .int .i64 x3_1 ∧ Aside0 (ddiref46_printable.l0 kq a0 x3_1 = some r) ∧ Aside0 (kq ≤ k) ∧ Drawn0 w w')
 case atStart => exact ⟨(0),XR.rf,H',⟨Nat.le_refl _⟩,by repeat (first | exact Drawn0.refl _ | apply Drawn0.step)⟩
 case round =>
  clear H';obtain ⟨x3_1,rfl,HA,HK1,⟨m1,rfl⟩⟩ := hrel
  cases gk with
  | zero => exact absurd HA.out (by simp [ddiref46_printable.l0])
  | succ k1 =>
   have H := HA.out;clear HA;simp only [ddiref46_printable.l0] at H;by_cases c2 : x3_1 < (a0.size : Int)
   ·rw [if_pos c2] at H;have c2b0 := decide_eq_true c2;clear c2;have HC3 := Aside0.mk H;clear H;go_upto_region 4 with (fail);go_cut [19] (fun v19 wc => ∃ (kq : Nat) (x19_2 : Bool),v19 = .bool x19_2 ∧ Aside0 (ddiref46_printable.j1 kq a0 x3_1 x19_2 = some r) ∧ Aside0 (kq ≤ k1) ∧ Drawn0 w wc)
    case first =>
     have H := HC3.out;clear HC3;by_cases c4 : 0 ≤ x3_1
     ·rw [if_pos c4] at H;have c4b0 := decide_eq_true c4;clear c4;(first | rw [c4b0] | (simp only [i64_w,i32_w];rw [c4b0]) | skip);by_cases c6 : (bt a0 x3_1) < 33
      ·rw [if_pos c6] at H;have c6b0 := decide_eq_true c6;clear c6;have H' := Aside0.mk H;clear H;have p5 : 0 ≤ (x3_1 : Int) := XR.od;have q5 : x3_1 < (a0.size : Int) := XR.od;have hx5 := bt_at a0 x3_1;replace p5 := eq_true p5;replace q5 := eq_true q5;go_wp2
       first | go_meet | ((refine Met.intro ?_);go_step;(try simp only [c2b0,c4b0,c6b0]);(repeat apply Exists.intro);refine ⟨?rel,rfl⟩)
       case rel => exact ⟨_,(true),XR.rf,(by first | exact H' | (have h_ := H';simp only [c2b0,c4b0,c6b0] at h_;exact h_)),(XR.ok HK1.out),by repeat (first | exact Drawn0.refl _ | apply Drawn0.step)⟩
      ·rw [if_neg c6] at H;have c6b0 := decide_eq_false c6;clear c6;have H' := Aside0.mk H;clear H;have p5 : 0 ≤ (x3_1 : Int) := XR.od;have q5 : x3_1 < (a0.size : Int) := XR.od;have hx5 := bt_at a0 x3_1;replace p5 := eq_true p5;replace q5 := eq_true q5;have p7 : 0 ≤ (x3_1 : Int) := XR.od;have q7 : x3_1 < (a0.size : Int) := XR.od;have hx7 := bt_at a0 x3_1;replace p7 := eq_true p7;replace q7 := eq_true q7;go_wp2
       first | go_meet | ((refine Met.intro ?_);go_step;(try simp only [c2b0,c4b0,c6b0]);(repeat apply Exists.intro);refine ⟨?rel,rfl⟩)
       case rel => exact ⟨_,(decide ((bt a0 x3_1) > 126)),XR.rf,(by first | exact H' | (have h_ := H';simp only [c2b0,c4b0,c6b0] at h_;exact h_)),(XR.ok HK1.out),by repeat (first | exact Drawn0.refl _ | apply Drawn0.step)⟩
     ·rw [if_neg c4] at H;exact absurd H (by simp)
    case rest =>
     clear HC3;(try clear c2);(try clear c2b0);(try clear p2);(try clear c4);(try clear c4b0);(try clear p5);(try clear q5);(try clear hx5);(try clear c6);(try clear c6b0);(try clear c7);(try clear p7);(try clear q7);(try clear hx7);(try clear p5);(try clear p7);(try clear q5);(try clear q7);obtain ⟨kq,x19_2,rfl,HA,HJ2,⟨mc2,rfl⟩⟩ := hcut
     cases kq with
     | zero => exact absurd HA.out (by simp [ddiref46_printable.j1])
     | succ kj2 =>
      have H := HA.out;clear HA;simp only [ddiref46_printable.j1] at H;by_cases c8 : x19_2 = true
      ·subst c8;rw [if_pos rfl] at H;(try dsimp only at H);obtain rfl := Option.some.inj H;go_wp2;go_ret;exact ⟨by first | rfl | (simp;done) | (simp [*];done),by repeat (first | exact Drawn0.refl _ | apply Drawn0.step)⟩
      ·replace c8 := Bool.eq_false_iff.mpr c8;subst c8;rw [if_neg (show ¬ (false = true) by decide)] at H;(try dsimp only at H);have H' := Aside0.mk H;clear H;go_wp2;go_roundg kj2
       case measure => have := HK1.out;have := HJ2.out;omega
       case rel => exact ⟨(wrap64 (x3_1 + 1)),XR.rf,H',⟨by have := HK1.out;have := HJ2.out;omega⟩,by repeat (first | exact Drawn0.refl _ | apply Drawn0.step)⟩
   ·rw [if_neg c2] at H;have c2b0 := decide_eq_false c2;clear c2;obtain rfl := Option.some.inj H;go_wp2;go_ret;exact ⟨by first | rfl | (simp;done) | (simp [*];done),by repeat (first | exact Drawn0.refl _ | apply Drawn0.step)⟩
end Go.Proofs.Ytjifdgicamlikaa.QA
