import Derived.Test.YtjifdgicamlikaaQAd1
import Derived.Test.YtjifdgicamlikaaQAx0
namespace Go.Proofs.Ytjifdgicamlikaa.QA
open Go.RowKit Go.Proofs.YtjifdgicamlikaaW.PrintWords Go.Proofs.YtjifdgicamlikaaW.PrintLast Go.Proofs.YtjifdgicamlikaaW.PrintMore
attribute [local go_sem] max2_int min2_int max_two min_two max_three min_three max_four min_four
attribute [local go_sem high] Go.Proofs.Ytjifdgicamlikaa.XW.cell_setCell_lit
set_option linter.unusedVariables false
set_option linter.unusedSimpArgs false
set_option maxHeartbeats 8000000 in
set_option maxRecDepth 100000 in
theorem ddiref02_Valid.calls (a0_0 : Bool) (a0_1 : Int) (a0_2 : Int) (r : Bool) (w : World) (h : ddiref02_Valid.f a0_0 a0_1 a0_2 = some r) :
  Calls Try.prog 70 #[.agg #[.bool a0_0,.int .u64 a0_1,.int .u64 a0_2]] w fun e w' => e = .returned (.bool r) ∧ Below w.heap.size w w' := by
 have hu29 := Try.underlying29;have HB := Aside0.mk (Below.refl w.heap.size w);have H : (if a0_0 = true then (some true) else (if a0_1 = 0 then (some (decide (a0_2 < 4294967296))) else (some false))) = some r := h;clear h;by_cases c2 : a0_0 = true
 ·subst c2;rw [if_pos rfl] at H;(try dsimp only at H);obtain rfl := Option.some.inj H;go_enter Try.func70,Try.ntmps70;go_wp2_with (first | ((with_reducible refine gate_dst (N := 1) rfl ?_);refine XR.bx 1 29 #[.bool true,.int .u64 a0_1,.int .u64 a0_2] ?_;intro gb101 hg w3 hbox hb;have BK101 := Aside0.mk (hbox);have GW101 := Aside0.mk (XR.ge hg HB.out);have GE101 := GW101;replace HB := Aside0.mk (XR.bB HB.out hb);clear hb hbox hg;obtain ⟨Y4_0,Y4_1,Y4_2⟩ := XR.c3 BK101.out;obtain ⟨Z4_0,Z4_1,Z4_2⟩ := XR.f3 BK101.out));go_ret;exact XR.re HB.out
 ·replace c2 := Bool.eq_false_iff.mpr c2;subst c2;rw [if_neg (show ¬ (false = true) by decide)] at H;(try dsimp only at H);by_cases c5 : a0_1 = 0
  ·rw [if_pos c5] at H;have c5b0 := beq_iff_eq.mpr c5;have c5b1 := bne_eq_false_iff_eq.mpr c5;clear c5;obtain rfl := Option.some.inj H;go_enter Try.func70,Try.ntmps70;go_wp2_with (first | ((with_reducible refine gate_dst (N := 1) rfl ?_);refine XR.bx 1 29 #[.bool false,.int .u64 a0_1,.int .u64 a0_2] ?_;intro gb101 hg w6 hbox hb;have BK101 := Aside0.mk (hbox);have GW101 := Aside0.mk (XR.ge hg HB.out);have GE101 := GW101;replace HB := Aside0.mk (XR.bB HB.out hb);clear hb hbox hg;obtain ⟨Y7_0,Y7_1,Y7_2⟩ := XR.c3 BK101.out;obtain ⟨Z7_0,Z7_1,Z7_2⟩ := XR.f3 BK101.out));go_ret;exact XR.re HB.out
  ·rw [if_neg c5] at H;have c5b0 := beq_eq_false_iff_ne.mpr c5;have c5b1 := bne_iff_ne.mpr c5;obtain rfl := Option.some.inj H;go_enter Try.func70,Try.ntmps70;go_wp2_with (first | ((with_reducible refine gate_dst (N := 1) rfl ?_);refine XR.bx 1 29 #[.bool false,.int .u64 a0_1,.int .u64 a0_2] ?_;intro gb101 hg w8 hbox hb;have BK101 := Aside0.mk (hbox);have GW101 := Aside0.mk (XR.ge hg HB.out);have GE101 := GW101;replace HB := Aside0.mk (XR.bB HB.out hb);clear hb hbox hg;obtain ⟨Y9_0,Y9_1,Y9_2⟩ := XR.c3 BK101.out;obtain ⟨Z9_0,Z9_1,Z9_2⟩ := XR.f3 BK101.out));go_ret;exact XR.re HB.out
set_option maxHeartbeats 8000000 in
set_option maxRecDepth 100000 in
theorem ddiref03_Long.calls (a0 : Bool) (r : Int) (w : World) (h : ddiref03_Long.f a0 = some r) :
  Calls Try.prog 71 #[.bool a0] w fun e w' => e = .returned (.int .i64 r) ∧ Drawn0 w w' := by
 have H : (if a0 = true then (some 128) else (some 32)) = some r := h;clear h;by_cases c2 : a0 = true
 ·subst c2;rw [if_pos rfl] at H;(try dsimp only at H);obtain rfl := Option.some.inj H;go_enter Try.func71,Try.ntmps71;go_wp2;go_ret;exact ⟨by first | rfl | (simp;done) | (simp [*];done),by repeat (first | exact Drawn0.refl _ | apply Drawn0.step)⟩
 ·replace c2 := Bool.eq_false_iff.mpr c2;subst c2;rw [if_neg (show ¬ (false = true) by decide)] at H;(try dsimp only at H);obtain rfl := Option.some.inj H;go_enter Try.func71,Try.ntmps71;go_wp2;go_ret;exact ⟨by first | rfl | (simp;done) | (simp [*];done),by repeat (first | exact Drawn0.refl _ | apply Drawn0.step)⟩
set_option maxHeartbeats 8000000 in
set_option maxRecDepth 100000 in
theorem ddiref03_ones.calls (k : Nat) (a0 : Int) (r1 : Int) (r2 : Int) (w : World) (h : ddiref03_ones.f k a0 = some (r1,r2)) :
  Calls Try.prog 72 #[.int .i64 a0] w fun e w' => e = .returned (.tuple #[.int .u64 r1,.int .u64 r2]) ∧ Drawn0 w w' := by
 have H : (ddiref03_ones.l0 k a0 0 0 0) = some (r1,r2) := h;clear h;have H' := Aside0.mk H;clear H;go_enter Try.func72,Try.ntmps72;go_wp2;go_loopg [4,5,6] k (fun kq v4 v5 v6 w' => ∃ (x4_1 : Int) (x5_1 : Int) (x6_1 : Int),v4 = .int .u64 x4_1 ∧ v5 = .int .u64 x5_1 ∧ v6 = .int .i64 x6_1 ∧ Aside0 (ddiref03_ones.l0 kq a0 x4_1 x5_1 x6_1 = some (r1,r2)) ∧ Aside0 (kq ≤ k) ∧ Drawn0 w w')
 case atStart => exact ⟨(0),(0),(0),XR.rf,XR.rf,XR.rf,H',⟨Nat.le_refl _⟩,by repeat (first | exact Drawn0.refl _ | apply Drawn0.step)⟩
 case round =>
  clear H';obtain ⟨x4_1,x5_1,x6_1,rfl,rfl,rfl,HA,HK1,⟨m1,rfl⟩⟩ := hrel
  cases gk with
  | zero => exact absurd HA.out (by simp [ddiref03_ones.l0])
  | succ k1 =>
   have H := HA.out;clear HA;simp only [ddiref03_ones.l0] at H;have HC2 := Aside0.mk H;clear H;go_upto_region 3 with (fail);go_cut [13] (fun v13 wc => ∃ (kq : Nat) (x13_1 : Bool),v13 = .bool x13_1 ∧ Aside0 (ddiref03_ones.j1 kq a0 x4_1 x5_1 x6_1 x13_1 = some (r1,r2)) ∧ Aside0 (kq ≤ k1) ∧ Drawn0 w wc)
   case first =>
    have H := HC2.out;clear HC2;by_cases c3 : x6_1 < a0
    ·rw [if_pos c3] at H;have c3b0 := decide_eq_true c3;clear c3;(first | rw [c3b0] | (simp only [i64_w,i32_w];rw [c3b0]) | skip);have H' := Aside0.mk H;clear H;go_wp2
     first | go_meet | ((refine Met.intro ?_);go_step;(try simp only [c3b0]);(repeat apply Exists.intro);refine ⟨?rel,rfl⟩)
     case rel => exact ⟨_,(decide (x6_1 < 128)),XR.rf,(by first | exact H' | (have h_ := H';simp only [c3b0] at h_;exact h_)),(XR.ok HK1.out),by repeat (first | exact Drawn0.refl _ | apply Drawn0.step)⟩
    ·rw [if_neg c3] at H;have c3b0 := decide_eq_false c3;clear c3;(first | rw [c3b0] | (simp only [i64_w,i32_w];rw [c3b0]) | skip);have H' := Aside0.mk H;clear H;go_wp2
     first | go_meet | ((refine Met.intro ?_);go_step;(try simp only [c3b0]);(repeat apply Exists.intro);refine ⟨?rel,rfl⟩)
     case rel => exact ⟨_,(false),XR.rf,(by first | exact H' | (have h_ := H';simp only [c3b0] at h_;exact h_)),(XR.ok HK1.out),by repeat (first | exact Drawn0.refl _ | apply Drawn0.step)⟩
   case rest =>
    clear HC2;(try clear p2);(try clear c3);(try clear c3b0);obtain ⟨kq,x13_1,rfl,HA,HJ1,⟨mc1,rfl⟩⟩ := hcut
    cases kq with
    | zero => exact absurd HA.out (by simp [ddiref03_ones.j1])
    | succ kj1 =>
     have H := HA.out;clear HA;simp only [ddiref03_ones.j1] at H;by_cases c4 : x13_1 = true
     ·subst c4;rw [if_pos rfl] at H;(try dsimp only at H);have H' := Aside0.mk H;clear H;go_wp2;go_roundg kj1
      case measure => have := HK1.out;have := HJ1.out;omega
      case rel => exact ⟨(IntKind.u64.wrap ((IntKind.u64.wrap (x4_1 * 2)) + (IntKind.u64.wrap (Int.tdiv x5_1 9223372036854775808)))),(IntKind.u64.wrap ((IntKind.u64.wrap (x5_1 * 2)) + 1)),(wrap64 (x6_1 + 1)),XR.rf,XR.rf,XR.rf,H',⟨by have := HK1.out;have := HJ1.out;omega⟩,by repeat (first | exact Drawn0.refl _ | apply Drawn0.step)⟩
     ·replace c4 := Bool.eq_false_iff.mpr c4;subst c4;rw [if_neg (show ¬ (false = true) by decide)] at H;(try dsimp only at H);simp only [Option.some.injEq,Prod.mk.injEq] at H;obtain ⟨rfl,rfl⟩ := H;go_wp2;go_ret2;exact ⟨by first | rfl | (simp;done) | (simp [*];done),by repeat (first | exact Drawn0.refl _ | apply Drawn0.step)⟩
end Go.Proofs.Ytjifdgicamlikaa.QA
