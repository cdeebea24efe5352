import Derived.Test.YtngfffoeaghhhaaDoorQAd1
import Derived.Test.YtngfffoeaghhhaaDoorQAx0
namespace Go.Proofs.YtngfffoeaghhhaaDoor.QA
open Go.RowKit Go.Proofs.YtngfffoeaghhhaaDoorW.PrintWords Go.Proofs.YtngfffoeaghhhaaDoorW.PrintLast Go.Proofs.YtngfffoeaghhhaaDoorW.PrintMore
attribute [local go_sem] max2_int min2_int max_two min_two max_three min_three max_four min_four
attribute [local go_sem high] Go.Proofs.YtngfffoeaghhhaaDoor.XW.cell_setCell_lit
set_option linter.unusedVariables false
set_option linter.unusedSimpArgs false
set_option maxHeartbeats 8000000 in
set_option maxRecDepth 100000 in
theorem option_Find.calls (k : Nat) (A0 : Option Addr) (c0 : Nat) (l0 : List (S59)) (a1 : Int) (r1 : ByteArray) (r2 : Bool) (w : World) (hr0 : Kd.C k59 w A0 l0.length l0) (hc0 : l0.length ≤ c0) (h : option_Find.f k l0 a1 = some (r1,r2)) :
  Calls Tryd.prog 31 #[.slice A0 l0.length c0,.int .i64 a1] w fun e w' => e = .returned (.tuple #[.string r1,.bool r2]) ∧ Below w.heap.size w w' := by
 have hu59 := Tryd.underlying59;have HR0 := Aside0.mk hr0;have HC0 := Aside0.mk hc0;clear hr0 hc0;have HB := Aside0.mk (Below.refl w.heap.size w);have H : (option_Find.l0 k a1 l0 (l0.length : Int) 0) = some (r1,r2) := h;clear h;have H' := Aside0.mk H;clear H;go_enter Tryd.func31,Tryd.ntmps31;go_wp2;go_loopg [10] k (fun kq v10 w' => ∃ (x10_1 : Int),v10 = .int .i64 x10_1 ∧ Aside0 (option_Find.l0 kq a1 l0 (l0.length : Int) x10_1 = some (r1,r2)) ∧ Aside0 (kq ≤ k) ∧ Aside0 (Below w.heap.size w w'))
 case atStart => exact ⟨(0),XR.rf,H',⟨Nat.le_refl _⟩,⟨XR.sB HB.out⟩⟩
 case round =>
  clear H';(try clear p2);obtain ⟨x10_1,rfl,HA,HK1,HB⟩ := hrel
  cases gk with
  | zero => exact absurd HA.out (by simp [option_Find.l0])
  | succ k1 =>
   have H := HA.out;clear HA;simp only [option_Find.l0] at H;by_cases c3 : x10_1 < (l0.length : Int)
   ·rw [if_pos c3] at H;have c3b0 := decide_eq_true c3;clear c3;by_cases c4 : 0 ≤ x10_1
    ·rw [if_pos c4] at H;have c4b0 := decide_eq_true c4;clear c4;by_cases c5 : x10_1 < (l0.length : Int)
     ·rw [if_pos c5] at H;have c5b0 := decide_eq_true c5;clear c5;by_cases c6 : ((rd_T59 l0 x10_1).f0) = a1
      ·rw [if_pos c6] at H;have c6b0 := beq_iff_eq.mpr c6;have c6b1 := bne_eq_false_iff_eq.mpr c6;clear c6;simp only [Option.some.injEq,Prod.mk.injEq] at H;obtain ⟨rfl,rfl⟩ := H;have p112 : 0 ≤ (x10_1 : Int) := XR.od;have q112 : x10_1 < (l0.length : Int) := XR.od;obtain ⟨ad112,e112,hx112_0,hx112_1⟩ := at_T59 (Kd.C_below HR0.out HB.out) x10_1 p112 q112
       cases e112
       replace p112 := eq_true p112;replace q112 := eq_true q112;go_wp2_with (first | ((with_reducible refine gate_dst (N := 7) rfl ?_);refine XR.bx 7 59 #[.int .i64 0,.string (⟨#[]⟩ : ByteArray)] ?_;intro gb113 hg w7 hbox hb;have BK113 := Aside0.mk (hbox);have GW113 := Aside0.mk (XR.ge hg HB.out);have GE113 := GW113;replace HB := Aside0.mk (XR.bB HB.out hb);clear hb hbox hg;obtain ⟨Y8_0,Y8_1⟩ := XR.c2 BK113.out;obtain ⟨Z8_0,Z8_1⟩ := XR.f2 BK113.out));go_ret2;exact XR.re HB.out
      ·rw [if_neg c6] at H;have c6b0 := beq_eq_false_iff_ne.mpr c6;have c6b1 := bne_iff_ne.mpr c6;have H' := Aside0.mk H;clear H;have p112 : 0 ≤ (x10_1 : Int) := XR.od;have q112 : x10_1 < (l0.length : Int) := XR.od;obtain ⟨ad112,e112,hx112_0,hx112_1⟩ := at_T59 (Kd.C_below HR0.out HB.out) x10_1 p112 q112
       cases e112
       replace p112 := eq_true p112;replace q112 := eq_true q112;go_wp2_with (first | ((with_reducible refine gate_dst (N := 7) rfl ?_);refine XR.bx 7 59 #[.int .i64 0,.string (⟨#[]⟩ : ByteArray)] ?_;intro gb113 hg w9 hbox hb;have BK113 := Aside0.mk (hbox);have GW113 := Aside0.mk (XR.ge hg HB.out);have GE113 := GW113;replace HB := Aside0.mk (XR.bB HB.out hb);clear hb hbox hg;obtain ⟨Y10_0,Y10_1⟩ := XR.c2 BK113.out;obtain ⟨Z10_0,Z10_1⟩ := XR.f2 BK113.out));go_roundg k1
       case measure => have := HK1.out;omega
       case rel => exact ⟨(wrap64 (x10_1 + 1)),XR.rf,H',⟨by have := HK1.out;omega⟩,⟨XR.sB HB.out⟩⟩
     ·rw [if_neg c5] at H;exact absurd H (by simp)
    ·rw [if_neg c4] at H;exact absurd H (by simp)
   ·rw [if_neg c3] at H;have c3b0 := decide_eq_false c3;clear c3;simp only [Option.some.injEq,Prod.mk.injEq] at H;obtain ⟨rfl,rfl⟩ := H;go_wp2;go_ret2;exact XR.re HB.out
set_option maxHeartbeats 8000000 in
set_option maxRecDepth 100000 in
theorem option_size.calls (k : Nat) (A0 : Option Addr) (c0 : Nat) (l0 : List (S59)) (r : Int) (w : World) (hr0 : Kd.C k59 w A0 l0.length l0) (hc0 : l0.length ≤ c0) (h : option_size.f k l0 = some r) :
  Calls Tryd.prog 44 #[.slice A0 l0.length c0] w fun e w' => e = .returned (.int .i64 r) ∧ Below w.heap.size w w' := by
 have hu59 := Tryd.underlying59;have HR0 := Aside0.mk hr0;have HC0 := Aside0.mk hc0;clear hr0 hc0;have HB := Aside0.mk (Below.refl w.heap.size w);have H : (option_size.l0 k 0 l0 (l0.length : Int) 0) = some r := h;clear h;have H' := Aside0.mk H;clear H;go_enter Tryd.func44,Tryd.ntmps44;go_wp2;go_loopg [3,8] k (fun kq v3 v8 w' => ∃ (x3_1 : Int) (x8_1 : Int),v3 = .int .i64 x3_1 ∧ v8 = .int .i64 x8_1 ∧ Aside0 (option_size.l0 kq x3_1 l0 (l0.length : Int) x8_1 = some r) ∧ Aside0 (kq ≤ k) ∧ Aside0 (Below w.heap.size w w'))
 case atStart => exact ⟨(0),(0),XR.rf,XR.rf,H',⟨Nat.le_refl _⟩,⟨XR.sB HB.out⟩⟩
 case round =>
  clear H';obtain ⟨x3_1,x8_1,rfl,rfl,HA,HK1,HB⟩ := hrel
  cases gk with
  | zero => exact absurd HA.out (by simp [option_size.l0])
  | succ k1 =>
   have H := HA.out;clear HA;simp only [option_size.l0] at H;by_cases c2 : x8_1 < (l0.length : Int)
   ·rw [if_pos c2] at H;have c2b0 := decide_eq_true c2;clear c2;by_cases c3 : 0 ≤ x8_1
    ·rw [if_pos c3] at H;have c3b0 := decide_eq_true c3;clear c3;by_cases c4 : x8_1 < (l0.length : Int)
     ·rw [if_pos c4] at H;have c4b0 := decide_eq_true c4;clear c4;have H' := Aside0.mk H;clear H;have p114 : 0 ≤ (x8_1 : Int) := XR.od;have q114 : x8_1 < (l0.length : Int) := XR.od;obtain ⟨ad114,e114,hx114_0,hx114_1⟩ := at_T59 (Kd.C_below HR0.out HB.out) x8_1 p114 q114
      cases e114
      replace p114 := eq_true p114;replace q114 := eq_true q114;go_wp2_with (first | ((with_reducible refine gate_dst (N := 5) rfl ?_);refine XR.bx 5 59 #[.int .i64 0,.string (⟨#[]⟩ : ByteArray)] ?_;intro gb115 hg w5 hbox hb;have BK115 := Aside0.mk (hbox);have GW115 := Aside0.mk (XR.ge hg HB.out);have GE115 := GW115;replace HB := Aside0.mk (XR.bB HB.out hb);clear hb hbox hg;obtain ⟨Y6_0,Y6_1⟩ := XR.c2 BK115.out;obtain ⟨Z6_0,Z6_1⟩ := XR.f2 BK115.out));go_roundg k1
      case measure => have := HK1.out;omega
      case rel => exact ⟨(wrap64 (x3_1 + (((rd_T59 l0 x8_1).f1).size : Int))),(wrap64 (x8_1 + 1)),XR.rf,XR.rf,H',⟨by have := HK1.out;omega⟩,⟨XR.sB HB.out⟩⟩
     ·rw [if_neg c4] at H;exact absurd H (by simp)
    ·rw [if_neg c3] at H;exact absurd H (by simp)
   ·rw [if_neg c2] at H;have c2b0 := decide_eq_false c2;clear c2;obtain rfl := Option.some.inj H;go_wp2;go_ret;exact XR.re HB.out
set_option maxHeartbeats 8000000 in
set_option maxRecDepth 100000 in
theorem option_isCode.calls (a0 : Int) (r : Bool) (w : World) (h : option_isCode.f a0 = some r) :
  Calls Tryd.prog 45 #[.int .i64 a0] w fun e w' => e = .returned (.bool r) ∧ Drawn0 w w' := by
 have H : (if a0 ≥ 1 then (some (decide (a0 ≤ 254))) else (some false)) = some r := h;clear h;by_cases c2 : a0 ≥ 1
 ·rw [if_pos c2] at H;have c2b0 := decide_eq_true c2;clear c2;obtain rfl := Option.some.inj H;go_enter Tryd.func45,Tryd.ntmps45;go_wp2;go_ret;exact ⟨by first | rfl | (simp;done) | (simp [*];done),by repeat (first | exact Drawn0.refl _ | apply Drawn0.step)⟩
 ·rw [if_neg c2] at H;have c2b0 := decide_eq_false c2;clear c2;obtain rfl := Option.some.inj H;go_enter Tryd.func45,Tryd.ntmps45;go_wp2;go_ret;exact ⟨by first | rfl | (simp;done) | (simp [*];done),by repeat (first | exact Drawn0.refl _ | apply Drawn0.step)⟩
end Go.Proofs.YtngfffoeaghhhaaDoor.QA
