import Derived.Test.YtngfffoeaghhhaaDoorQAd1
import Derived.Test.YtngfffoeaghhhaaDoorQAx0
import Derived.Test.YtngfffoeaghhhaaDoorQAx5
namespace Go.Proofs.YtngfffoeaghhhaaDoor.QA
open Go.RowKit Go.Proofs.YtngfffoeaghhhaaDoorW.PrintWords Go.Proofs.YtngfffoeaghhhaaDoorW.PrintLast Go.Proofs.YtngfffoeaghhhaaDoorW.PrintMore
attribute [local go_sem] max2_int min2_int max_two min_two max_three min_three max_four min_four
attribute [local go_sem high] Go.Proofs.YtngfffoeaghhhaaDoor.XW.cell_setCell_lit
set_option linter.unusedVariables false
set_option linter.unusedSimpArgs false
set_option maxHeartbeats 8000000 in
set_option maxRecDepth 100000 in
theorem ddiref02_Valid.calls (a0_0 : Bool) (a0_1 : Int) (a0_2 : Int) (r : Bool) (w : World) (h : ddiref02_Valid.f a0_0 a0_1 a0_2 = some r) :
  Calls Tryd.prog 28 #[.agg #[.bool a0_0,.int .u64 a0_1,.int .u64 a0_2]] w fun e w' => e = .returned (.bool r) ∧ Below w.heap.size w w' := by
 have hu24 := Tryd.underlying24;have HB := Aside0.mk (Below.refl w.heap.size w);have H : (if a0_0 = true then (some true) else (if a0_1 = 0 then (some (decide (a0_2 < 4294967296))) else (some false))) = some r := h;clear h;by_cases c2 : a0_0 = true
 ·subst c2;rw [if_pos rfl] at H;(try dsimp only at H);obtain rfl := Option.some.inj H;go_enter Tryd.func28,Tryd.ntmps28;go_wp2_with (first | ((with_reducible refine gate_dst (N := 1) rfl ?_);refine XR.bx 1 24 #[.bool true,.int .u64 a0_1,.int .u64 a0_2] ?_;intro gb147 hg w3 hbox hb;have BK147 := Aside0.mk (hbox);have GW147 := Aside0.mk (XR.ge hg HB.out);have GE147 := GW147;replace HB := Aside0.mk (XR.bB HB.out hb);clear hb hbox hg;obtain ⟨Y4_0,Y4_1,Y4_2⟩ := XR.c3 BK147.out;obtain ⟨Z4_0,Z4_1,Z4_2⟩ := XR.f3 BK147.out));go_ret;exact XR.re HB.out
 ·replace c2 := Bool.eq_false_iff.mpr c2;subst c2;rw [if_neg (show ¬ (false = true) by decide)] at H;(try dsimp only at H);by_cases c5 : a0_1 = 0
  ·rw [if_pos c5] at H;have c5b0 := beq_iff_eq.mpr c5;have c5b1 := bne_eq_false_iff_eq.mpr c5;clear c5;obtain rfl := Option.some.inj H;go_enter Tryd.func28,Tryd.ntmps28;go_wp2_with (first | ((with_reducible refine gate_dst (N := 1) rfl ?_);refine XR.bx 1 24 #[.bool false,.int .u64 a0_1,.int .u64 a0_2] ?_;intro gb147 hg w6 hbox hb;have BK147 := Aside0.mk (hbox);have GW147 := Aside0.mk (XR.ge hg HB.out);have GE147 := GW147;replace HB := Aside0.mk (XR.bB HB.out hb);clear hb hbox hg;obtain ⟨Y7_0,Y7_1,Y7_2⟩ := XR.c3 BK147.out;obtain ⟨Z7_0,Z7_1,Z7_2⟩ := XR.f3 BK147.out));go_ret;exact XR.re HB.out
  ·rw [if_neg c5] at H;have c5b0 := beq_eq_false_iff_ne.mpr c5;have c5b1 := bne_iff_ne.mpr c5;obtain rfl := Option.some.inj H;go_enter Tryd.func28,Tryd.ntmps28;go_wp2_with (first | ((with_reducible refine gate_dst (N := 1) rfl ?_);refine XR.bx 1 24 #[.bool false,.int .u64 a0_1,.int .u64 a0_2] ?_;intro gb147 hg w8 hbox hb;have BK147 := Aside0.mk (hbox);have GW147 := Aside0.mk (XR.ge hg HB.out);have GE147 := GW147;replace HB := Aside0.mk (XR.bB HB.out hb);clear hb hbox hg;obtain ⟨Y9_0,Y9_1,Y9_2⟩ := XR.c3 BK147.out;obtain ⟨Z9_0,Z9_1,Z9_2⟩ := XR.f3 BK147.out));go_ret;exact XR.re HB.out
set_option maxHeartbeats 8000000 in
set_option maxRecDepth 100000 in
theorem ddiref35_index.calls (k : Nat) (A0 : Option Addr) (c0 : Nat) (l0 : List (S59)) (a1 : Int) (r : Int) (w : World) (hr0 : Kd.C k59 w A0 l0.length l0) (hc0 : l0.length ≤ c0) (h : ddiref35_index.f k l0 a1 = some r) :
  Calls Tryd.prog 46 #[.slice A0 l0.length c0,.int .i64 a1] w fun e w' => e = .returned (.int .i64 r) ∧ Drawn0 w w' := by
 have HR0 := Aside0.mk hr0;have HC0 := Aside0.mk hc0;clear hr0 hc0;have H : (ddiref35_index.l0 k l0 a1 0) = some r := h;clear h;have H' := Aside0.mk H;clear H;go_enter Tryd.func46,Tryd.ntmps46;go_wp2;go_loopg [5] k (fun kq v5 w' => ∃ (x5_1 : Int),v5 = .int .i64 x5_1 ∧ Aside0 (ddiref35_index.l0 kq l0 a1 x5_1 = some r) ∧ Aside0 (kq ≤ k) ∧ Drawn0 w w')
 case atStart => exact ⟨(0),XR.rf,H',⟨Nat.le_refl _⟩,by repeat (first | exact Drawn0.refl _ | apply Drawn0.step)⟩
 case round =>
  clear H';(try clear p2);obtain ⟨x5_1,rfl,HA,HK1,⟨m1,rfl⟩⟩ := hrel
  cases gk with
  | zero => exact absurd HA.out (by simp [ddiref35_index.l0])
  | succ k1 =>
   have H := HA.out;clear HA;simp only [ddiref35_index.l0] at H;by_cases c3 : x5_1 < (l0.length : Int)
   ·rw [if_pos c3] at H;have c3b0 := decide_eq_true c3;clear c3;by_cases c4 : 0 ≤ x5_1
    ·rw [if_pos c4] at H;have c4b0 := decide_eq_true c4;clear c4;by_cases c5 : ((rd_T59 l0 x5_1).f0) = a1
     ·rw [if_pos c5] at H;have c5b0 := beq_iff_eq.mpr c5;have c5b1 := bne_eq_false_iff_eq.mpr c5;clear c5;obtain rfl := Option.some.inj H;have p148 : 0 ≤ (x5_1 : Int) := XR.od;have q148 : x5_1 < (l0.length : Int) := XR.od;obtain ⟨ad148,e148,hx148_0,hx148_1⟩ := at_T59 HR0.out x5_1 p148 q148
      cases e148
      replace p148 := eq_true p148;replace q148 := eq_true q148;go_wp2;go_ret;exact ⟨by first | rfl | (simp;done) | (simp [*];done),by repeat (first | exact Drawn0.refl _ | apply Drawn0.step)⟩
     ·rw [if_neg c5] at H;have c5b0 := beq_eq_false_iff_ne.mpr c5;have c5b1 := bne_iff_ne.mpr c5;have H' := Aside0.mk H;clear H;have p148 : 0 ≤ (x5_1 : Int) := XR.od;have q148 : x5_1 < (l0.length : Int) := XR.od;obtain ⟨ad148,e148,hx148_0,hx148_1⟩ := at_T59 HR0.out x5_1 p148 q148
      cases e148
      replace p148 := eq_true p148;replace q148 := eq_true q148;go_wp2;go_roundg k1
      case measure => have := HK1.out;omega
      case rel => exact ⟨(wrap64 (x5_1 + 1)),XR.rf,H',⟨by have := HK1.out;omega⟩,by repeat (first | exact Drawn0.refl _ | apply Drawn0.step)⟩
    ·rw [if_neg c4] at H;exact absurd H (by simp)
   ·rw [if_neg c3] at H;have c3b0 := decide_eq_false c3;clear c3;obtain rfl := Option.some.inj H;go_wp2;go_ret;exact ⟨by first | rfl | (simp;done) | (simp [*];done),by repeat (first | exact Drawn0.refl _ | apply Drawn0.step)⟩
end Go.Proofs.YtngfffoeaghhhaaDoor.QA
namespace Go.Proofs.YtngfffoeaghhhaaDoor.QA
open Go.RowKit Go.Proofs.YtngfffoeaghhhaaDoorW.PrintWords Go.Proofs.YtngfffoeaghhhaaDoorW.PrintLast Go.Proofs.YtngfffoeaghhhaaDoorW.PrintMore
attribute [local go_sem] max2_int min2_int max_two min_two max_three min_three max_four min_four
attribute [local go_sem high] Go.Proofs.YtngfffoeaghhhaaDoor.XW.cell_setCell_lit
set_option linter.unusedVariables false
set_option linter.unusedSimpArgs false
set_option maxHeartbeats 8000000 in
set_option maxRecDepth 100000 in
theorem relay_Circuit.calls (k : Nat) (a0_0 : Int) (a0_1 : Int) (a0_2 : Int) (a0_3 : ByteArray) (a0_4 : Bool) (a0_5 : Int) (a0_6 : Int) (a0_7 : Bool) (a0_8 : Int) (a0_9 : Int) (a0_10 : Bool) (a0_11 : Int) (a0_12 : Int) (a0_13 : Bool) (A0_14 : Option Addr) (c0_14 : Nat) (l0_14 : List (S59)) (r1 : ByteArray) (r2 : Bool) (w : World) (hr0_14 : Kd.C k59 w A0_14 l0_14.length l0_14) (hc0_14 : l0_14.length ≤ c0_14) (h : relay_Circuit.f k a0_0 a0_1 a0_2 a0_3 a0_4 a0_5 a0_6 a0_7 a0_8 a0_9 a0_10 a0_11 a0_12 a0_13 l0_14 = some (r1,r2)) :
  Calls Tryd.prog 11 #[.agg #[.int .i64 a0_0,.int .i64 a0_1,.int .i64 a0_2,.string a0_3,.bool a0_4,.int .u64 a0_5,.int .u64 a0_6,.bool a0_7,.int .u64 a0_8,.int .u64 a0_9,.bool a0_10,.int .u64 a0_11,.int .u64 a0_12,.bool a0_13,.slice A0_14 l0_14.length c0_14]] w fun e w' => e = .returned (.tuple #[.string r1,.bool r2]) ∧ Below w.heap.size w w' := by
 have hu27 := Tryd.underlying27;have HR0_14 := Aside0.mk hr0_14;have HC0_14 := Aside0.mk hc0_14;clear hr0_14 hc0_14;have HB := Aside0.mk (Below.refl w.heap.size w);have H : ((option_Find.f k l0_14 82).bind fun bt176 => (if bt176.2 = true then (if (bt176.1.size : Int) < 2 then (relay_Circuit.j0 k bt176.1 true) else (if 0 < (bt176.1.size : Int) then (if (bt bt176.1 0) = 1 then (if 1 < (bt176.1.size : Int) then (relay_Circuit.j0 k bt176.1 ((wrap64 (bt bt176.1 1)) != (wrap64 ((bt176.1.size : Int) - 2)))) else (none)) else (relay_Circuit.j0 k bt176.1 true)) else (none))) else (relay_Circuit.j0 k bt176.1 true))) = some (r1,r2) := h;clear h;replace H := Option.bind_eq_some_iff.mp H;obtain ⟨⟨t176,t177⟩,A20,H⟩ := H;(try dsimp only at H);have A2 := Aside0.mk A20;clear A20;have HC3 := Aside0.mk H;clear H;go_enter Tryd.func11,Tryd.ntmps11;go_upto_region 2 with (first | ((with_reducible refine gate_dst (N := 1) rfl ?_);(try (refine gate_guard (by rfl) ?_;dsimp only));refine XR.bx 1 27 #[.int .i64 a0_0,.int .i64 a0_1,.int .i64 a0_2,.string a0_3,.bool a0_4,.int .u64 a0_5,.int .u64 a0_6,.bool a0_7,.int .u64 a0_8,.int .u64 a0_9,.bool a0_10,.int .u64 a0_11,.int .u64 a0_12,.bool a0_13,.slice A0_14 l0_14.length c0_14] ?_;intro gb175 hg w4 hbox hb;have BK175 := Aside0.mk (hbox);have GW175 := Aside0.mk (XR.ge hg HB.out);have GE175 := GW175;replace HB := Aside0.mk (XR.bB HB.out hb);clear hb hbox hg;obtain ⟨Y5_0,Y5_1,Y5_2,Y5_3,Y5_4,Y5_5,Y5_6,Y5_7,Y5_8,Y5_9,Y5_10,Y5_11,Y5_12,Y5_13,Y5_14⟩ := XR.c15 BK175.out;obtain ⟨Z5_0,Z5_1,Z5_2,Z5_3,Z5_4,Z5_5,Z5_6,Z5_7,Z5_8,Z5_9,Z5_10,Z5_11,Z5_12,Z5_13,Z5_14⟩ := XR.f15 BK175.out) | ((with_reducible refine gate_callee (f := 31) rfl ?_);refine XR.gL 9 Tryd.func31 #[.slice A0_14 l0_14.length c0_14,.int .i64 82] ?_;(with_reducible refine (option_Find.calls k _ _ l0_14 82 t176 t177 _ ?side1 ?side2 A2.out).mono ?_);(case side1 => exact XR.lC (Kd.C_below HR0_14.out HB.out));(case side2 => exact HC0_14.out);rintro e w6 ⟨rfl,hb⟩;refine ⟨_,rfl,?_⟩;replace BK175 := Aside0.mk (XR.bb BK175.out hb);replace HB := Aside0.mk (below_step (XR.sB HB.out) hb);(try clear hb)));(try simp only [Act.put,List.setIfInBounds_toArray,List.set_cons_zero,List.set_cons_succ]);go_cut [32] (fun v32 wc => ∃ (kq : Nat) (x32_2 : Bool),v32 = .bool x32_2 ∧ Aside0 (relay_Circuit.j0 kq t176 x32_2 = some (r1,r2)) ∧ Aside0 (kq ≤ k) ∧ Aside0 (wc.heap[gb175]? = some (.cells #[.int .i64 a0_0,.int .i64 a0_1,.int .i64 a0_2,.string a0_3,.bool a0_4,.int .u64 a0_5,.int .u64 a0_6,.bool a0_7,.int .u64 a0_8,.int .u64 a0_9,.bool a0_10,.int .u64 a0_11,.int .u64 a0_12,.bool a0_13,(.slice A0_14 l0_14.length c0_14)] 27 (0,0))) ∧ Aside0 (Below w.heap.size w wc))
 case first =>
  have H := HC3.out;clear HC3;by_cases c7 : t177 = true
  ·subst c7;rw [if_pos rfl] at H;(try dsimp only at H);by_cases c8 : (t176.size : Int) < 2
   ·rw [if_pos c8] at H;have c8b0 := decide_eq_true c8;have c8b1 : decide (t176.size < 2) = true := decide_eq_true (by omega);clear c8;(first | rw [c8b0] | (simp only [i64_w,i32_w];rw [c8b0]) | skip);have H' := Aside0.mk H;clear H;go_wp2
    first | go_meet | ((refine Met.intro ?_);go_step;(try simp only [c8b0]);(repeat apply Exists.intro);refine ⟨?rel,rfl⟩)
    case rel => exact ⟨_,(true),XR.rf,(by first | exact H' | (have h_ := H';simp only [c8b0] at h_;exact h_)),XR.om,(XR.fb BK175.out),⟨XR.sB HB.out⟩⟩
   ·rw [if_neg c8] at H;have c8b0 := decide_eq_false c8;have c8b1 : decide (t176.size < 2) = false := decide_eq_false (by omega);clear c8;(first | rw [c8b0] | (simp only [i64_w,i32_w];rw [c8b0]) | skip);by_cases c9 : 0 < (t176.size : Int)
    ·rw [if_pos c9] at H;have c9b0 := decide_eq_true c9;have c9b1 : decide (0 < t176.size) = true := decide_eq_true (by omega);clear c9;by_cases c11 : (bt t176 0) = 1
     ·rw [if_pos c11] at H;have c11b0 := beq_iff_eq.mpr c11;have c11b1 := bne_eq_false_iff_eq.mpr c11;clear c11;by_cases c12 : 1 < (t176.size : Int)
      ·rw [if_pos c12] at H;have c12b0 := decide_eq_true c12;have c12b1 : decide (1 < t176.size) = true := decide_eq_true (by omega);clear c12;have H' := Aside0.mk H;clear H;have p10 : 0 ≤ (0 : Int) := (by omega);have q10 : 0 < t176.size := (by have : (0 : Int) < (t176.size : Int) := XR.od;omega);have hx10 : ∀ h : 0 < t176.size,((t176[0]'h).toNat : Int) = bt t176 0 := bt_at t176 0;clear p10;have qi10 : (0 < (t176.size : Int)) = True := eq_true (of_decide_eq_true (by first | (with_reducible assumption) | assumption));replace q10 := eq_true q10;have p13 : 0 ≤ (1 : Int) := (by omega);have q13 : 1 < t176.size := (by have : (1 : Int) < (t176.size : Int) := XR.od;omega);have hx13 : ∀ h : 1 < t176.size,((t176[1]'h).toNat : Int) = bt t176 1 := bt_at t176 1;clear p13;have qi13 : (1 < (t176.size : Int)) = True := eq_true (of_decide_eq_true (by first | (with_reducible assumption) | assumption));replace q13 := eq_true q13;go_wp2
       first | go_meet | ((refine Met.intro ?_);go_step;(try simp only [c8b0,c9b0,c11b0,c12b0]);(repeat apply Exists.intro);refine ⟨?rel,rfl⟩)
       case rel => exact ⟨_,(((wrap64 (bt t176 1)) != (wrap64 ((t176.size : Int) - 2)))),XR.rf,(by first | exact H' | (have h_ := H';simp only [c8b0,c9b0,c11b0,c12b0] at h_;exact h_)),XR.om,(XR.fb BK175.out),⟨XR.sB HB.out⟩⟩
      ·rw [if_neg c12] at H;exact absurd H (by simp)
     ·rw [if_neg c11] at H;have c11b0 := beq_eq_false_iff_ne.mpr c11;have c11b1 := bne_iff_ne.mpr c11;have H' := Aside0.mk H;clear H;have p10 : 0 ≤ (0 : Int) := (by omega);have q10 : 0 < t176.size := (by have : (0 : Int) < (t176.size : Int) := XR.od;omega);have hx10 : ∀ h : 0 < t176.size,((t176[0]'h).toNat : Int) = bt t176 0 := bt_at t176 0;clear p10;have qi10 : (0 < (t176.size : Int)) = True := eq_true (of_decide_eq_true (by first | (with_reducible assumption) | assumption));replace q10 := eq_true q10;go_wp2
      first | go_meet | ((refine Met.intro ?_);go_step;(try simp only [c8b0,c9b0,c11b0]);(repeat apply Exists.intro);refine ⟨?rel,rfl⟩)
      case rel => exact ⟨_,(true),XR.rf,(by first | exact H' | (have h_ := H';simp only [c8b0,c9b0,c11b0] at h_;exact h_)),XR.om,(XR.fb BK175.out),⟨XR.sB HB.out⟩⟩
    ·rw [if_neg c9] at H;exact absurd H (by simp)
  ·replace c7 := Bool.eq_false_iff.mpr c7;subst c7;rw [if_neg (show ¬ (false = true) by decide)] at H;(try dsimp only at H);have H' := Aside0.mk H;clear H;go_wp2;go_meet
   case rel => exact ⟨_,(true),XR.rf,H',XR.om,(XR.fb BK175.out),⟨XR.sB HB.out⟩⟩
 case rest =>
  clear HC3;(try clear c1);(try clear p1);(try clear q1);(try clear hx1);(try clear qi1);(try clear p2);(try clear c3);(try clear p6);(try clear c7);(try clear c8);(try clear c8b0);(try clear c8b1);(try clear c9);(try clear c9b0);(try clear c9b1);(try clear p10);(try clear q10);(try clear hx10);(try clear qi10);(try clear c11);(try clear c11b0);(try clear c11b1);(try clear c12);(try clear c12b0);(try clear c12b1);(try clear p13);(try clear q13);(try clear hx13);(try clear qi13);(try clear Y5_0 Y5_1 Y5_10 Y5_11 Y5_12 Y5_13 Y5_14 Y5_2 Y5_3 Y5_4 Y5_5 Y5_6 Y5_7 Y5_8 Y5_9);(try clear Z5_0 Z5_1 Z5_10 Z5_11 Z5_12 Z5_13 Z5_14 Z5_2 Z5_3 Z5_4 Z5_5 Z5_6 Z5_7 Z5_8 Z5_9);(try clear p10);(try clear p13);(try clear q10);(try clear q13);obtain ⟨kq,x32_2,rfl,HA,HJ2,BK175,HB⟩ := hcut
  cases kq with
  | zero => exact absurd HA.out (by simp [relay_Circuit.j0])
  | succ kj2 =>
   have H := HA.out;clear HA;simp only [relay_Circuit.j0] at H;by_cases c14 : x32_2 = true
   ·subst c14;rw [if_pos rfl] at H;(try dsimp only at H);simp only [Option.some.injEq,Prod.mk.injEq] at H;obtain ⟨rfl,rfl⟩ := H;go_wp2;go_ret2;exact XR.re HB.out
   ·replace c14 := Bool.eq_false_iff.mpr c14;subst c14;rw [if_neg (show ¬ (false = true) by decide)] at H;(try dsimp only at H);by_cases c15 : 2 ≤ (t176.size : Int)
    ·rw [if_pos c15] at H;have c15b0 := eq_true c15;have c15b1 := decide_eq_true c15;clear c15;simp only [Option.some.injEq,Prod.mk.injEq] at H;obtain ⟨rfl,rfl⟩ := H;go_wp2;go_ret2;exact XR.re HB.out
    ·rw [if_neg c15] at H;exact absurd H (by simp)
end Go.Proofs.YtngfffoeaghhhaaDoor.QA
namespace Go.Proofs.YtngfffoeaghhhaaDoor.QA
open Go.RowKit Go.Proofs.YtngfffoeaghhhaaDoorW.PrintWords Go.Proofs.YtngfffoeaghhhaaDoorW.PrintLast Go.Proofs.YtngfffoeaghhhaaDoorW.PrintMore
attribute [local go_sem] max2_int min2_int max_two min_two max_three min_three max_four min_four
attribute [local go_sem high] Go.Proofs.YtngfffoeaghhhaaDoor.XW.cell_setCell_lit
set_option linter.unusedVariables false
set_option linter.unusedSimpArgs false
theorem eqA59 (d : Nat) (w : World) (x0 y0 : Int) (x1 y1 : ByteArray) :
  (Op.equalIn (d + 2) 59 (.agg #[.int .i64 x0,.string x1]) (.agg #[.int .i64 y0,.string y1])).run Tryd.prog w = .ok (x0 == y0 && (x1.toList == y1.toList)) w := by
 refine eqA_of Tryd.underlying59 (by kernel_rfl) ?_;refine eqf_cons (by rfl) (by go_simp;rfl) (by go_simp;rfl) (by go_simp) ?_;exact eqf_last (by rfl) (by go_simp;rfl) (by go_simp;rfl) (by go_simp)
end Go.Proofs.YtngfffoeaghhhaaDoor.QA
