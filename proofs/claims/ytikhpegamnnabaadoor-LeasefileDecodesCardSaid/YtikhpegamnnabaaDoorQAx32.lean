import Derived.Test.YtikhpegamnnabaaDoorQAd2
import Derived.Test.YtikhpegamnnabaaDoorQAx0
import Derived.Test.YtikhpegamnnabaaDoorQAx2
import Derived.Test.YtikhpegamnnabaaDoorQAx14
import Derived.Test.YtikhpegamnnabaaDoorQAd1
import Derived.Test.YtikhpegamnnabaaDoorQAx19
import Derived.Test.YtikhpegamnnabaaDoorQAx15
import Derived.Test.YtikhpegamnnabaaDoorXL
import Derived.Test.YtikhpegamnnabaaDoorQAx23
import Derived.Test.YtikhpegamnnabaaDoorQAx31
import Derived.Test.YtikhpegamnnabaaDoorXO
namespace Go.Proofs.YtikhpegamnnabaaDoor.QA
open Go.RowKit Go.Proofs.YtikhpegamnnabaaDoorW.PrintWords Go.Proofs.YtikhpegamnnabaaDoorW.PrintLast Go.Proofs.YtikhpegamnnabaaDoorW.PrintMore
attribute [local go_sem] max2_int min2_int max_two min_two max_three min_three max_four min_four
attribute [local go_sem high] Go.Proofs.YtikhpegamnnabaaDoor.XW.cell_setCell_lit
set_option linter.unusedVariables false
set_option linter.unusedSimpArgs false
attribute [local go_sem high] eqA26
set_option maxHeartbeats 8000000 in
set_option maxRecDepth 100000 in
theorem ddiref45_take.calls (a0 : ByteArray) (a1 : Int) (r1 : ByteArray) (r2 : ByteArray) (r3 : Bool) (w : World) (h : ddiref45_take.f a0 a1 = some (r1,r2,r3)) :
  Calls Tryd.prog 37 #[.string a0,.int .i64 a1] w fun e w' => e = .returned (.tuple #[.string r1,.string r2,.bool r3]) ∧ Drawn0 w w' := by
 have H : (if (a0.size : Int) < a1 then (some ((⟨#[]⟩ : ByteArray),(⟨#[]⟩ : ByteArray),false)) else (if 0 ≤ a1 then (if a1 ≤ (a0.size : Int) then (some (a0.extract 0 (a1 : Int).toNat,a0.extract (a1 : Int).toNat a0.size,true)) else (none)) else (none))) = some (r1,r2,r3) := h;clear h;by_cases c3 : (a0.size : Int) < a1
 ·rw [if_pos c3] at H;have c3b0 := decide_eq_true c3;clear c3;simp only [Option.some.injEq,Prod.mk.injEq] at H;obtain ⟨rfl,rfl,rfl⟩ := H;go_enter Tryd.func37,Tryd.ntmps37;go_wp2
  repeat (go_quiet (fail);try go_wp2)
  go_ret3;exact ⟨by first | rfl | (simp;done) | (simp [*];done),by repeat (first | exact Drawn0.refl _ | apply Drawn0.step)⟩
 ·rw [if_neg c3] at H;have c3b0 := decide_eq_false c3;clear c3;by_cases c4 : 0 ≤ a1
  ·rw [if_pos c4] at H;have c4b0 := eq_true c4;have c4b1 := decide_eq_true c4;clear c4;by_cases c5 : a1 ≤ (a0.size : Int)
   ·rw [if_pos c5] at H;have c5b0 := eq_true c5;have c5b1 := decide_eq_true c5;clear c5;have c6b0 := eq_true (of_decide_eq_true (by first | (with_reducible assumption) | assumption) : 0 ≤ a1);have c7b0 := eq_true (of_decide_eq_true (by first | (with_reducible assumption) | assumption) : a1 ≤ (a0.size : Int));simp only [Option.some.injEq,Prod.mk.injEq] at H;obtain ⟨rfl,rfl,rfl⟩ := H;go_enter Tryd.func37,Tryd.ntmps37;go_wp2
    repeat (go_quiet (fail);try go_wp2)
    go_ret3;exact ⟨by first | rfl | (simp;done) | (simp [*];done),by repeat (first | exact Drawn0.refl _ | apply Drawn0.step)⟩
   ·rw [if_neg c5] at H;exact absurd H (by simp)
  ·rw [if_neg c4] at H;exact absurd H (by simp)
set_option maxHeartbeats 8000000 in
set_option maxRecDepth 100000 in
theorem ddiref02_value.calls (k : Nat) (a0 : ByteArray) (r : Int) (w : World) (h : ddiref02_value.f k a0 = some r) :
  Calls Tryd.prog 59 #[.string a0] w fun e w' => e = .returned (.int .u64 r) ∧ Drawn0 w w' := by
 have H : (ddiref02_value.l0 k a0 0 0) = some r := h;clear h;have H' := Aside0.mk H;clear H;go_enter Tryd.func59,Tryd.ntmps59;go_wp2;go_loopg [3,4] k (fun kq v3 v4 w' => ∃ (x3_1 : Int) (x4_1 : Int),v3 = .int .u64 x3_1 ∧ v4 = .int .i64 x4_1 ∧ Aside0 (ddiref02_value.l0 kq a0 x3_1 x4_1 = some r) ∧ Aside0 (kq ≤ k) ∧ Drawn0 w w')
 case atStart => exact ⟨(0),(0),XR.rf,XR.rf,H',⟨Nat.le_refl _⟩,by repeat (first | exact Drawn0.refl _ | apply Drawn0.step)⟩
 case round =>
  clear H';obtain ⟨x3_1,x4_1,rfl,rfl,HA,HK1,⟨m1,rfl⟩⟩ := hrel
  cases gk with
  | zero => exact absurd HA.out (by simp [ddiref02_value.l0])
  | succ k1 =>
   have H := HA.out;clear HA;simp only [ddiref02_value.l0] at H;by_cases c2 : x4_1 < (a0.size : Int)
   ·rw [if_pos c2] at H;have c2b0 := decide_eq_true c2;clear c2;by_cases c3 : 0 ≤ x4_1
    ·rw [if_pos c3] at H;have c3b0 := decide_eq_true c3;clear c3;have H' := Aside0.mk H;clear H;have p4 : 0 ≤ (x4_1 : Int) := XR.od;have q4 : x4_1 < (a0.size : Int) := XR.od;have hx4 := bt_at a0 x4_1;replace p4 := eq_true p4;replace q4 := eq_true q4;go_wp2;go_roundg k1
     case measure => have := HK1.out;omega
     case rel => exact ⟨(IntKind.u64.wrap ((IntKind.u64.wrap (x3_1 * 256)) + (IntKind.u64.wrap (bt a0 x4_1)))),(wrap64 (x4_1 + 1)),XR.rf,XR.rf,H',⟨by have := HK1.out;omega⟩,by repeat (first | exact Drawn0.refl _ | apply Drawn0.step)⟩
    ·rw [if_neg c3] at H;exact absurd H (by simp)
   ·rw [if_neg c2] at H;have c2b0 := decide_eq_false c2;clear c2;obtain rfl := Option.some.inj H;go_wp2;go_ret;exact ⟨by first | rfl | (simp;done) | (simp [*];done),by repeat (first | exact Drawn0.refl _ | apply Drawn0.step)⟩
end Go.Proofs.YtikhpegamnnabaaDoor.QA
