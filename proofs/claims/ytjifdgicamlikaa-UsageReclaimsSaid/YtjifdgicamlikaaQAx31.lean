import Derived.Test.YtjifdgicamlikaaQAd2
import Derived.Test.YtjifdgicamlikaaQAx0
import Derived.Test.YtjifdgicamlikaaQAx2
import Derived.Test.YtjifdgicamlikaaQAx18
import Derived.Test.YtjifdgicamlikaaQAx25
import Derived.Test.YtjifdgicamlikaaXO
namespace Go.Proofs.Ytjifdgicamlikaa.QA
open Go.RowKit Go.Proofs.YtjifdgicamlikaaW.PrintWords Go.Proofs.YtjifdgicamlikaaW.PrintLast Go.Proofs.YtjifdgicamlikaaW.PrintMore
attribute [local go_sem] max2_int min2_int max_two min_two max_three min_three max_four min_four
attribute [local go_sem high] Go.Proofs.Ytjifdgicamlikaa.XW.cell_setCell_lit
set_option linter.unusedVariables false
set_option linter.unusedSimpArgs false
attribute [local go_sem high] eqA31
set_option maxHeartbeats 8000000 in
set_option maxRecDepth 100000 in
theorem ddilaw48_prefixes.calls (k : Nat) (A0 : Option Addr) (c0 : Nat) (l0 : List (S31)) (A1 : Option Addr) (c1 : Nat) (l1 : List (S31)) (r : Bool) (w : World) (hr0 : Kd.C k31 w A0 l0.length l0) (hc0 : l0.length ≤ c0) (hr1 : Kd.C k31 w A1 l1.length l1) (hc1 : l1.length ≤ c1) (h : ddilaw48_prefixes.f k l0 l1 = some r) :
  Calls Try.prog 14 #[.slice A0 l0.length c0,.slice A1 l1.length c1] w fun e w' => e = .returned (.bool r) ∧ Drawn0 w w' := by
 have hu31 := Try.underlying31;have HR0 := Aside0.mk hr0;have HC0 := Aside0.mk hc0;clear hr0 hc0;have HR1 := Aside0.mk hr1;have HC1 := Aside0.mk hc1;clear hr1 hc1;have H : (if (l0.length : Int) = (l1.length : Int) then (ddilaw48_prefixes.l0 k l0 l1 0) else (some false)) = some r := h;clear h;by_cases c3 : (l0.length : Int) = (l1.length : Int)
 ·rw [if_pos c3] at H;have c3b0 := beq_iff_eq.mpr c3;have c3b1 := bne_eq_false_iff_eq.mpr c3;have c3b2 : (l0.length == l1.length) = true := by first | simpa using c3 | (simp at c3 ⊢;omega)
  clear c3;have H' := Aside0.mk H;clear H;go_enter Try.func14,Try.ntmps14;go_wp2
  repeat (go_quiet (fail);try go_wp2)
  go_loopg [5] k (fun kq v5 w' => ∃ (x5_1 : Int),v5 = .int .i64 x5_1 ∧ Aside0 (ddilaw48_prefixes.l0 kq l0 l1 x5_1 = some r) ∧ Aside0 (kq ≤ k) ∧ Drawn0 w w')
  case atStart => exact ⟨(0),XR.rf,H',⟨Nat.le_refl _⟩,by repeat (first | exact Drawn0.refl _ | apply Drawn0.step)⟩
  case round =>
   clear H';(try clear c1);(try clear p2);(try clear c3);(try clear c3b0);(try clear c3b1);(try clear c3b2);obtain ⟨x5_1,rfl,HA,HK1,⟨m1,rfl⟩⟩ := hrel
   cases gk with
   | zero => exact absurd HA.out (by simp [ddilaw48_prefixes.l0])
   | succ k1 =>
    have H := HA.out;clear HA;simp only [ddilaw48_prefixes.l0] at H;by_cases c4 : x5_1 < (l0.length : Int)
    ·rw [if_pos c4] at H;have c4b0 := decide_eq_true c4;clear c4;by_cases c5 : 0 ≤ x5_1
     ·rw [if_pos c5] at H;have c5b0 := decide_eq_true c5;clear c5;by_cases c6 : x5_1 < (l1.length : Int)
      ·rw [if_pos c6] at H;have c6b0 := decide_eq_true c6;clear c6;by_cases c7 : ((!(((rd_T31 l0 x5_1).f0.f0) == ((rd_T31 l1 x5_1).f0.f0)) || (!(((rd_T31 l0 x5_1).f0.f1) == ((rd_T31 l1 x5_1).f0.f1)) || (!(((rd_T31 l0 x5_1).f0.f2) == ((rd_T31 l1 x5_1).f0.f2))))) || (!(((rd_T31 l0 x5_1).f1) == ((rd_T31 l1 x5_1).f1)))) = true
       ·rw [if_pos c7] at H;have c7b0 : ((!(((rd_T31 l0 x5_1).f0.f0) == ((rd_T31 l1 x5_1).f0.f0)) || (!(((rd_T31 l0 x5_1).f0.f1) == ((rd_T31 l1 x5_1).f0.f1)) || (!(((rd_T31 l0 x5_1).f0.f2) == ((rd_T31 l1 x5_1).f0.f2))))) || (!(((rd_T31 l0 x5_1).f1) == ((rd_T31 l1 x5_1).f1)))) = true := c7;clear c7;obtain rfl := Option.some.inj H;have p456 : 0 ≤ (x5_1 : Int) := XR.od;have q456 : x5_1 < (l0.length : Int) := XR.od;obtain ⟨ad456,e456,hx456_0,hx456_1,hx456_2,hx456_3⟩ := at_T31 HR0.out x5_1 p456 q456
        cases e456
        replace p456 := eq_true p456;replace q456 := eq_true q456;have p457 : 0 ≤ (x5_1 : Int) := XR.od;have q457 : x5_1 < (l1.length : Int) := XR.od;obtain ⟨ad457,e457,hx457_0,hx457_1,hx457_2,hx457_3⟩ := at_T31 HR1.out x5_1 p457 q457
        cases e457
        replace p457 := eq_true p457;replace q457 := eq_true q457;go_wp2
        repeat (go_quiet (fail);try go_wp2)
        go_ret;exact ⟨by first | rfl | (simp;done) | (simp [*];done),by repeat (first | exact Drawn0.refl _ | apply Drawn0.step)⟩
       ·rw [if_neg c7] at H;have c7b0 : ((!(((rd_T31 l0 x5_1).f0.f0) == ((rd_T31 l1 x5_1).f0.f0)) || (!(((rd_T31 l0 x5_1).f0.f1) == ((rd_T31 l1 x5_1).f0.f1)) || (!(((rd_T31 l0 x5_1).f0.f2) == ((rd_T31 l1 x5_1).f0.f2))))) || (!(((rd_T31 l0 x5_1).f1) == ((rd_T31 l1 x5_1).f1)))) = false := by simpa using c7
        clear c7;have H' := Aside0.mk H;clear H;have p456 : 0 ≤ (x5_1 : Int) := XR.od;have q456 : x5_1 < (l0.length : Int) := XR.od;obtain ⟨ad456,e456,hx456_0,hx456_1,hx456_2,hx456_3⟩ := at_T31 HR0.out x5_1 p456 q456
        cases e456
        replace p456 := eq_true p456;replace q456 := eq_true q456;have p457 : 0 ≤ (x5_1 : Int) := XR.od;have q457 : x5_1 < (l1.length : Int) := XR.od;obtain ⟨ad457,e457,hx457_0,hx457_1,hx457_2,hx457_3⟩ := at_T31 HR1.out x5_1 p457 q457
        cases e457
        replace p457 := eq_true p457;replace q457 := eq_true q457;go_wp2
        repeat (go_quiet (fail);try go_wp2)
        go_roundg k1
        case measure => have := HK1.out;omega
        case rel => exact ⟨(wrap64 (x5_1 + 1)),XR.rf,H',⟨by have := HK1.out;omega⟩,by repeat (first | exact Drawn0.refl _ | apply Drawn0.step)⟩
      ·rw [if_neg c6] at H;exact absurd H (by simp)
     ·rw [if_neg c5] at H;exact absurd H (by simp)
    ·rw [if_neg c4] at H;have c4b0 := decide_eq_false c4;clear c4;obtain rfl := Option.some.inj H;go_wp2
     repeat (go_quiet (fail);try go_wp2)
     go_ret;exact ⟨by first | rfl | (simp;done) | (simp [*];done),by repeat (first | exact Drawn0.refl _ | apply Drawn0.step)⟩
 ·rw [if_neg c3] at H;have c3b0 := beq_eq_false_iff_ne.mpr c3;have c3b1 := bne_iff_ne.mpr c3;have c3b2 : (l0.length == l1.length) = false := by first | simpa using c3 | (simp at c3 ⊢;omega)
  obtain rfl := Option.some.inj H;go_enter Try.func14,Try.ntmps14;go_wp2
  repeat (go_quiet (fail);try go_wp2)
  go_ret;exact ⟨by first | rfl | (simp;done) | (simp [*];done),by repeat (first | exact Drawn0.refl _ | apply Drawn0.step)⟩
end Go.Proofs.Ytjifdgicamlikaa.QA
