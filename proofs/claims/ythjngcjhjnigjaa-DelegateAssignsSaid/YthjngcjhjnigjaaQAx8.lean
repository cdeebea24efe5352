import Derived.Test.YthjngcjhjnigjaaQAd1
import Derived.Test.YthjngcjhjnigjaaQAx0
namespace Go.Proofs.Ythjngcjhjnigjaa.QA
open Go.RowKit Go.Proofs.YthjngcjhjnigjaaW.PrintWords Go.Proofs.YthjngcjhjnigjaaW.PrintLast Go.Proofs.YthjngcjhjnigjaaW.PrintMore
attribute [local go_sem] max2_int min2_int max_two min_two max_three min_three max_four min_four
attribute [local go_sem high] Go.Proofs.Ythjngcjhjnigjaa.XW.cell_setCell_lit
set_option linter.unusedVariables false
set_option linter.unusedSimpArgs false
set_option maxHeartbeats 8000000 in
set_option maxRecDepth 100000 in
theorem ddiref03_ones.calls (k : Nat) (a0 : Int) (r1 : Int) (r2 : Int) (w : World) (h : ddiref03_ones.f k a0 = some (r1,r2)) :
  Calls Try.prog 71 #[.int .i64 a0] w fun e w' => e = .returned (.tuple #[.int .u64 r1,.int .u64 r2]) ∧ Drawn0 w w' := by
 have H : (ddiref03_ones.l0 k a0 0 0 0) = some (r1,r2) := h;clear h;have H' := Aside0.mk H;clear H;go_enter Try.func71,Try.ntmps71;go_wp2;go_loopg [4,5,6] k (fun kq v4 v5 v6 w' => ∃ (x4_1 : Int) (x5_1 : Int) (x6_1 : Int),v4 = .int .u64 x4_1 ∧ v5 = .int .u64 x5_1 ∧ v6 = .int .i64 x6_1 ∧ Aside0 (ddiref03_ones.l0 kq a0 x4_1 x5_1 x6_1 = some (r1,r2)) ∧ Aside0 (kq ≤ k) ∧ Drawn0 w w')
 case atStart => exact ⟨(0),(0),(0),XR.rf,XR.rf,XR.rf,H',⟨Nat.le_refl _⟩,by repeat (first | exact Drawn0.refl _ | apply Drawn0.step)⟩
 case round =>
  clear H';obtain ⟨x4_1,x5_1,x6_1,rfl,rfl,rfl,HA,HK1,⟨m1,rfl⟩⟩ := hrel
  cases gk with
  | zero => exact absurd HA.out (by simp [ddiref03_ones.l0])
  | succ k1 =>
   have H := HA.out;clear HA;simp only [ddiref03_ones.l0] at H;have HC2 := Aside0.mk H;clear H;go_upto_region 3 with (fail);go_cut [13] (fun v13 wc => ∃ (kq : Nat) (x13_1 : Bool),v13 = .bool x13_1 ∧ Aside0 (ddiref03_ones.j1 kq a0 x4_1 x5_1 x6_1 x13_1 = some (r1,r2)) ∧ Aside0 (kq ≤ k1) ∧ Drawn0 w wc)
   case first =>
    have H := HC2.out;clear HC2;by_cases c3 : x6_1 < a0
    ·rw [if_pos c3] at H;have c3b0 := decide_eq_true c3;clear c3;(first | rw [c3b0] | (simp only [i64_w,i32_w];rw [c3b0]) | skip);have H' := Aside0.mk H;clear H;go_wp2
     first | go_meet | ((refine Met.intro ?_);go_step;(try simp only [c3b0]);(repeat apply Exists.intro);refine ⟨?rel,rfl⟩)
     case rel => exact ⟨_,(decide (x6_1 < 128)),XR.rf,(by first | exact H' | (have h_ := H';simp only [c3b0] at h_;exact h_)),(XR.ok HK1.out),by repeat (first | exact Drawn0.refl _ | apply Drawn0.step)⟩
    ·rw [if_neg c3] at H;have c3b0 := decide_eq_false c3;clear c3;(first | rw [c3b0] | (simp only [i64_w,i32_w];rw [c3b0]) | skip);have H' := Aside0.mk H;clear H;go_wp2
     first | go_meet | ((refine Met.intro ?_);go_step;(try simp only [c3b0]);(repeat apply Exists.intro);refine ⟨?rel,rfl⟩)
     case rel => exact ⟨_,(false),XR.rf,(by first | exact H' | (have h_ := H';simp only [c3b0] at h_;exact h_)),(XR.ok HK1.out),by repeat (first | exact Drawn0.refl _ | apply Drawn0.step)⟩
   case rest =>
    clear HC2;(try clear p2);(try clear c3);(try clear c3b0);obtain ⟨kq,x13_1,rfl,HA,HJ1,⟨mc1,rfl⟩⟩ := hcut
    cases kq with
    | zero => exact absurd HA.out (by simp [ddiref03_ones.j1])
    | succ kj1 =>
     have H := HA.out;clear HA;simp only [ddiref03_ones.j1] at H;by_cases c4 : x13_1 = true
     ·subst c4;rw [if_pos rfl] at H;(try dsimp only at H);have H' := Aside0.mk H;clear H;go_wp2;go_roundg kj1
      case measure => have := HK1.out;have := HJ1.out;omega
      case rel => exact ⟨(IntKind.u64.wrap ((IntKind.u64.wrap (x4_1 * 2)) + (IntKind.u64.wrap (Int.tdiv x5_1 9223372036854775808)))),(IntKind.u64.wrap ((IntKind.u64.wrap (x5_1 * 2)) + 1)),(wrap64 (x6_1 + 1)),XR.rf,XR.rf,XR.rf,H',⟨by have := HK1.out;have := HJ1.out;omega⟩,by repeat (first | exact Drawn0.refl _ | apply Drawn0.step)⟩
     ·replace c4 := Bool.eq_false_iff.mpr c4;subst c4;rw [if_neg (show ¬ (false = true) by decide)] at H;(try dsimp only at H);simp only [Option.some.injEq,Prod.mk.injEq] at H;obtain ⟨rfl,rfl⟩ := H;go_wp2;go_ret2;exact ⟨by first | rfl | (simp;done) | (simp [*];done),by repeat (first | exact Drawn0.refl _ | apply Drawn0.step)⟩
end Go.Proofs.Ythjngcjhjnigjaa.QA
