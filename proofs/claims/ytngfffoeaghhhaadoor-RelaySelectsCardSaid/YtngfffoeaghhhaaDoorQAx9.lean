import Derived.Test.YtngfffoeaghhhaaDoorQAd1
import Derived.Test.YtngfffoeaghhhaaDoorQAx0
namespace Go.Proofs.YtngfffoeaghhhaaDoor.QA
open Go.RowKit Go.Proofs.YtngfffoeaghhhaaDoorW.PrintWords Go.Proofs.YtngfffoeaghhhaaDoorW.PrintLast Go.Proofs.YtngfffoeaghhhaaDoorW.PrintMore
attribute [local go_sem] max2_int min2_int max_two min_two max_three min_three max_four min_four   -- for this text's walks alone
attribute [local go_sem high] Go.Proofs.YtngfffoeaghhhaaDoor.XW.cell_setCell_lit
set_option linter.unusedVariables false
set_option linter.unusedSimpArgs false
set_option maxHeartbeats 8000000 in
set_option maxRecDepth 100000 in
theorem ddiref02_Valid.calls (a0_0 : Bool) (a0_1 : Int) (a0_2 : Int) (r : Bool) (w : World) (h : ddiref02_Valid.f a0_0 a0_1 a0_2 = some r) :
  Calls Tryd.prog 28 #[.agg #[.bool a0_0,.int .u64 a0_1,.int .u64 a0_2]] w fun e w' => e = .returned (.bool r) ∧ Below w.heap.size w w' := by
 have hu24 := Tryd.underlying24;have HB := Aside0.mk (Below.refl w.heap.size w);have H : (if a0_0 = true then (some true) else (if a0_1 = 0 then (some (decide (a0_2 < 4294967296))) else (some false))) = some r := h;clear h;by_cases c2 : a0_0 = true
 ·subst c2;rw [if_pos rfl] at H;(try dsimp only at H);obtain rfl := Option.some.inj H;go_enter Tryd.func28,Tryd.ntmps28;go_wp2_with (first | ((with_reducible refine gate_dst (N := 1) rfl ?_);refine XR.bx 1 24 #[.bool true,.int .u64 a0_1,.int .u64 a0_2] ?_;intro gb147 hg w3 hbox hb;have BK147 := Aside0.mk (hbox);have GW147 := Aside0.mk (XR.ge hg HB.out);have GE147 := GW147;replace HB := Aside0.mk (XR.bB HB.out hb);clear hb hbox hg;obtain ⟨Y4_0,Y4_1,Y4_2⟩ := XR.c3 BK147.out;obtain ⟨Z4_0,Z4_1,Z4_2⟩ := XR.f3 BK147.out));go_ret;exact XR.re HB.out
 ·replace c2 := Bool.eq_false_iff.mpr c2;subst c2;rw [if_neg (show ¬ (false = true) by decide)] at H;(try dsimp only at H);by_cases c5 : a0_1 = 0
  ·rw [if_pos c5] at H;have c5b0 := beq_iff_eq.mpr c5;have c5b1 := bne_eq_false_iff_eq.mpr c5;clear c5;obtain rfl := Option.some.inj H;go_enter Tryd.func28,Tryd.ntmps28;go_wp2_with (first | ((with_reducible refine gate_dst (N := 1) rfl ?_);refine XR.bx 1 24 #[.bool false,.int .u64 a0_1,.int .u64 a0_2] ?_;intro gb147 hg w6 hbox hb;have BK147 := Aside0.mk (hbox);have GW147 := Aside0.mk (XR.ge hg HB.out);have GE147 := GW147;replace HB := Aside0.mk (XR.bB HB.out hb);clear hb hbox hg;obtain ⟨Y7_0,Y7_1,Y7_2⟩ := XR.c3 BK147.out;obtain ⟨Z7_0,Z7_1,Z7_2⟩ := XR.f3 BK147.out));go_ret;exact XR.re HB.out
  ·rw [if_neg c5] at H;have c5b0 := beq_eq_false_iff_ne.mpr c5;have c5b1 := bne_iff_ne.mpr c5;obtain rfl := Option.some.inj H;go_enter Tryd.func28,Tryd.ntmps28;go_wp2_with (first | ((with_reducible refine gate_dst (N := 1) rfl ?_);refine XR.bx 1 24 #[.bool false,.int .u64 a0_1,.int .u64 a0_2] ?_;intro gb147 hg w8 hbox hb;have BK147 := Aside0.mk (hbox);have GW147 := Aside0.mk (XR.ge hg HB.out);have GE147 := GW147;replace HB := Aside0.mk (XR.bB HB.out hb);clear hb hbox hg;obtain ⟨Y9_0,Y9_1,Y9_2⟩ := XR.c3 BK147.out;obtain ⟨Z9_0,Z9_1,Z9_2⟩ := XR.f3 BK147.out));go_ret;exact XR.re HB.out
set_option maxHeartbeats 8000000 in
set_option maxRecDepth 100000 in
theorem ddiref35_index.calls (k : Nat) (A0 : Option Addr) (c0 : Nat) (l0 : List (S59)) (a1 : Int) (r : Int) (w : World) (hr0 : Kd.C k59 w A0 l0.length l0) (hc0 : l0.length ≤ c0) (h : ddiref35_index.f k l0 a1 = some r) :
  Calls Tryd.prog 46 #[.slice A0 l0.length c0,.int .i64 a1] w fun e w' => e = .returned (.int .i64 r) ∧ Drawn0 w w' := by
 have HR0 := Aside0.mk hr0;have HC0 := Aside0.mk hc0;clear hr0 hc0;have H : (ddiref35_index.l0 k l0 a1 0) = some r := h;clear h;have H' := Aside0.mk H;clear H;go_enter Tryd.func46,Tryd.ntmps46;go_wp2;go_loopg [5] k (fun kq v5 w' => ∃ (x5_1 : Int),v5 = .int .i64 x5_1 ∧ Aside0 (ddiref35_index.l0 kq l0 a1 x5_1 = some r) ∧ Aside0 (kq ≤ k) ∧ Drawn0 w w')
 case atStart => exact ⟨(0),XR.rf,H',⟨Nat.le_refl _⟩,by repeat (first | exact Drawn0.refl _ | apply Drawn0.step)⟩
 case round =>
  clear H';(try clear p2);obtain ⟨x5_1,rfl,HA,HK1,⟨m1,rfl⟩⟩ := hrel
  cases gk with
  | zero => exact absurd HA.out (by simp [ddiref35_index.l0])
  | succ k1 =>
   have H := HA.out;clear HA;simp only [ddiref35_index.l0] at H;by_cases c3 : x5_1 < (l0.length : Int)
   ·rw [if_pos c3] at H;have c3b0 := decide_eq_true c3;clear c3;by_cases c4 : 0 ≤ x5_1
    ·rw [if_pos c4] at H;have c4b0 := decide_eq_true c4;clear c4;by_cases c5 : ((rd_T59 l0 x5_1).f0) = a1
     ·rw [if_pos c5] at H;have c5b0 := beq_iff_eq.mpr c5;have c5b1 := bne_eq_false_iff_eq.mpr c5;clear c5;obtain rfl := Option.some.inj H;have p148 : 0 ≤ (x5_1 : Int) := XR.od;have q148 : x5_1 < (l0.length : Int) := XR.od;obtain ⟨ad148,e148,hx148_0,hx148_1⟩ := at_T59 HR0.out x5_1 p148 q148
      cases e148
      replace p148 := eq_true p148;replace q148 := eq_true q148;go_wp2;go_ret;exact ⟨by first | rfl | (simp;done) | (simp [*];done),by repeat (first | exact Drawn0.refl _ | apply Drawn0.step)⟩
     ·rw [if_neg c5] at H;have c5b0 := beq_eq_false_iff_ne.mpr c5;have c5b1 := bne_iff_ne.mpr c5;have H' := Aside0.mk H;clear H;have p148 : 0 ≤ (x5_1 : Int) := XR.od;have q148 : x5_1 < (l0.length : Int) := XR.od;obtain ⟨ad148,e148,hx148_0,hx148_1⟩ := at_T59 HR0.out x5_1 p148 q148
      cases e148
      replace p148 := eq_true p148;replace q148 := eq_true q148;go_wp2;go_roundg k1
      case measure => have := HK1.out;omega
      case rel => exact ⟨(wrap64 (x5_1 + 1)),XR.rf,H',⟨by have := HK1.out;omega⟩,by repeat (first | exact Drawn0.refl _ | apply Drawn0.step)⟩
    ·rw [if_neg c4] at H;exact absurd H (by simp)
   ·rw [if_neg c3] at H;have c3b0 := decide_eq_false c3;clear c3;obtain rfl := Option.some.inj H;go_wp2;go_ret;exact ⟨by first | rfl | (simp;done) | (simp [*];done),by repeat (first | exact Drawn0.refl _ | apply Drawn0.step)⟩
end Go.Proofs.YtngfffoeaghhhaaDoor.QA
