import Derived.Test.YtngfffoeaghhhaaDoorQAd1
import Derived.Test.YtngfffoeaghhhaaDoorQAx0
import Derived.Test.YtngfffoeaghhhaaDoorQAx3
import Derived.Test.YtngfffoeaghhhaaDoorQAd2
import Derived.Test.YtngfffoeaghhhaaDoorQAx37
namespace Go.Proofs.YtngfffoeaghhhaaDoor.QA
open Go.RowKit Go.Proofs.YtngfffoeaghhhaaDoorW.PrintWords Go.Proofs.YtngfffoeaghhhaaDoorW.PrintLast Go.Proofs.YtngfffoeaghhhaaDoorW.PrintMore
attribute [local go_sem] max2_int min2_int max_two min_two max_three min_three max_four min_four
attribute [local go_sem high] Go.Proofs.YtngfffoeaghhhaaDoor.XW.cell_setCell_lit
set_option linter.unusedVariables false
set_option linter.unusedSimpArgs false
set_option maxHeartbeats 8000000 in
set_option maxRecDepth 100000 in
theorem ddiref35_Valid.calls (k : Nat) (A0 : Option Addr) (c0 : Nat) (l0 : List (S59)) (r : Bool) (w : World) (hr0 : Kd.C k59 w A0 l0.length l0) (hc0 : l0.length ≤ c0) (h : ddiref35_Valid.f k l0 = some r) :
  Calls Tryd.prog 30 #[.slice A0 l0.length c0] w fun e w' => e = .returned (.bool r) ∧ Drawn0 w w' := by
 have HR0 := Aside0.mk hr0;have HC0 := Aside0.mk hc0;clear hr0 hc0;have H : (if (l0.length : Int) > 32 then (some false) else (ddiref35_Valid.l0 k l0 0 0)) = some r := h;clear h;by_cases c2 : (l0.length : Int) > 32
 ·rw [if_pos c2] at H;have c2b0 := decide_eq_true c2;have c2b1 : decide (32 < l0.length) = true := decide_eq_true (by omega);clear c2;obtain rfl := Option.some.inj H;go_enter Tryd.func30,Tryd.ntmps30;go_wp2;go_ret;exact ⟨by first | rfl | (simp;done) | (simp [*];done),by repeat (first | exact Drawn0.refl _ | apply Drawn0.step)⟩
 ·rw [if_neg c2] at H;have c2b0 := decide_eq_false c2;have c2b1 : decide (32 < l0.length) = false := decide_eq_false (by omega);clear c2;have H' := Aside0.mk H;clear H;go_enter Tryd.func30,Tryd.ntmps30;go_wp2;go_loopg [3,4] k (fun kq v3 v4 w' => ∃ (x3_1 : Int) (x4_1 : Int),v3 = .int .i64 x3_1 ∧ v4 = .int .i64 x4_1 ∧ Aside0 (ddiref35_Valid.l0 kq l0 x3_1 x4_1 = some r) ∧ Aside0 (kq ≤ k) ∧ Drawn0 w w')
  case atStart => exact ⟨(0),(0),XR.rf,XR.rf,H',⟨Nat.le_refl _⟩,by repeat (first | exact Drawn0.refl _ | apply Drawn0.step)⟩
  case round =>
   clear H';(try clear c2);(try clear c2b0);(try clear c2b1);(try clear p2);obtain ⟨x3_1,x4_1,rfl,rfl,HA,HK1,⟨m1,rfl⟩⟩ := hrel
   cases gk with
   | zero => exact absurd HA.out (by simp [ddiref35_Valid.l0])
   | succ k1 =>
    have H := HA.out;clear HA;simp only [ddiref35_Valid.l0] at H;by_cases c3 : x4_1 < (l0.length : Int)
    ·rw [if_pos c3] at H;have c3b0 := decide_eq_true c3;clear c3;by_cases c4 : 0 ≤ x4_1
     ·rw [if_pos c4] at H;have c4b0 := decide_eq_true c4;clear c4;have HC5 := Aside0.mk H;clear H;have p158 : 0 ≤ (x4_1 : Int) := XR.od;have q158 : x4_1 < (l0.length : Int) := XR.od;obtain ⟨ad158,e158,hx158_0,hx158_1⟩ := at_T59 HR0.out x4_1 p158 q158
      cases e158
      replace p158 := eq_true p158;replace q158 := eq_true q158;go_upto_region 8 with (fail);go_cut [55] (fun v55 wc => ∃ (kq : Nat) (x55_4 : Bool),v55 = .bool x55_4 ∧ Aside0 (ddiref35_Valid.j1 kq l0 (wrap64 (x3_1 + (((rd_T59 l0 x4_1).f1).size : Int))) x4_1 x55_4 = some r) ∧ Aside0 (kq ≤ k1) ∧ Drawn0 w wc)
      case first =>
       have H := HC5.out;clear HC5;by_cases c6 : ((rd_T59 l0 x4_1).f0) < 1
       ·rw [if_pos c6] at H;have c6b0 := decide_eq_true c6;clear c6;(first | rw [c6b0] | (simp only [i64_w,i32_w];rw [c6b0]) | skip);have H' := Aside0.mk H;clear H;have p159 : 0 ≤ (x4_1 : Int) := XR.od;have q159 : x4_1 < (l0.length : Int) := XR.od;obtain ⟨ad159,e159,hx159_0,hx159_1⟩ := at_T59 HR0.out x4_1 p159 q159;obtain rfl : ad158 = ad159 := (by injection e159);replace p159 := eq_true p159;replace q159 := eq_true q159;go_wp2
        first | go_meet | ((refine Met.intro ?_);go_step;(try simp only [c3b0,c4b0,c6b0]);(repeat apply Exists.intro);refine ⟨?rel,rfl⟩)
        case rel => exact ⟨_,(true),XR.rf,(by first | exact H' | (have h_ := H';simp only [c3b0,c4b0,c6b0] at h_;exact h_)),(XR.ok HK1.out),by repeat (first | exact Drawn0.refl _ | apply Drawn0.step)⟩
       ·rw [if_neg c6] at H;have c6b0 := decide_eq_false c6;clear c6;(first | rw [c6b0] | (simp only [i64_w,i32_w];rw [c6b0]) | skip);by_cases c7 : ((rd_T59 l0 x4_1).f0) > 254
        ·rw [if_pos c7] at H;have c7b0 := decide_eq_true c7;clear c7;have H' := Aside0.mk H;clear H;have p159 : 0 ≤ (x4_1 : Int) := XR.od;have q159 : x4_1 < (l0.length : Int) := XR.od;obtain ⟨ad159,e159,hx159_0,hx159_1⟩ := at_T59 HR0.out x4_1 p159 q159;obtain rfl : ad158 = ad159 := (by injection e159);replace p159 := eq_true p159;replace q159 := eq_true q159;have p160 : 0 ≤ (x4_1 : Int) := XR.od;have q160 : x4_1 < (l0.length : Int) := XR.od;obtain ⟨ad160,e160,hx160_0,hx160_1⟩ := at_T59 HR0.out x4_1 p160 q160;obtain rfl : ad158 = ad160 := (by injection e160);replace p160 := eq_true p160;replace q160 := eq_true q160;go_wp2
         first | go_meet | ((refine Met.intro ?_);go_step;(try simp only [c3b0,c4b0,c6b0,c7b0]);(repeat apply Exists.intro);refine ⟨?rel,rfl⟩)
         case rel => exact ⟨_,(true),XR.rf,(by first | exact H' | (have h_ := H';simp only [c3b0,c4b0,c6b0,c7b0] at h_;exact h_)),(XR.ok HK1.out),by repeat (first | exact Drawn0.refl _ | apply Drawn0.step)⟩
        ·rw [if_neg c7] at H;have c7b0 := decide_eq_false c7;clear c7;by_cases c8 : (((rd_T59 l0 x4_1).f1).size : Int) > 1024
         ·rw [if_pos c8] at H;have c8b0 := decide_eq_true c8;have c8b1 : decide (1024 < ((rd_T59 l0 x4_1).f1).size) = true := decide_eq_true (by omega);clear c8;have H' := Aside0.mk H;clear H;have p159 : 0 ≤ (x4_1 : Int) := XR.od;have q159 : x4_1 < (l0.length : Int) := XR.od;obtain ⟨ad159,e159,hx159_0,hx159_1⟩ := at_T59 HR0.out x4_1 p159 q159;obtain rfl : ad158 = ad159 := (by injection e159);replace p159 := eq_true p159;replace q159 := eq_true q159;have p160 : 0 ≤ (x4_1 : Int) := XR.od;have q160 : x4_1 < (l0.length : Int) := XR.od;obtain ⟨ad160,e160,hx160_0,hx160_1⟩ := at_T59 HR0.out x4_1 p160 q160;obtain rfl : ad158 = ad160 := (by injection e160);replace p160 := eq_true p160;replace q160 := eq_true q160;have p161 : 0 ≤ (x4_1 : Int) := XR.od;have q161 : x4_1 < (l0.length : Int) := XR.od;obtain ⟨ad161,e161,hx161_0,hx161_1⟩ := at_T59 HR0.out x4_1 p161 q161;obtain rfl : ad158 = ad161 := (by injection e161);replace p161 := eq_true p161;replace q161 := eq_true q161;go_wp2
          first | go_meet | ((refine Met.intro ?_);go_step;(try simp only [c3b0,c4b0,c6b0,c7b0,c8b0]);(repeat apply Exists.intro);refine ⟨?rel,rfl⟩)
          case rel => exact ⟨_,(true),XR.rf,(by first | exact H' | (have h_ := H';simp only [c3b0,c4b0,c6b0,c7b0,c8b0] at h_;exact h_)),(XR.ok HK1.out),by repeat (first | exact Drawn0.refl _ | apply Drawn0.step)⟩
         ·rw [if_neg c8] at H;have c8b0 := decide_eq_false c8;have c8b1 : decide (1024 < ((rd_T59 l0 x4_1).f1).size) = false := decide_eq_false (by omega);clear c8;replace H := Option.bind_eq_some_iff.mp H;obtain ⟨t163,A90,H⟩ := H;(try dsimp only at H);have A9 := Aside0.mk A90;clear A90;have H' := Aside0.mk H;clear H;have p159 : 0 ≤ (x4_1 : Int) := XR.od;have q159 : x4_1 < (l0.length : Int) := XR.od;obtain ⟨ad159,e159,hx159_0,hx159_1⟩ := at_T59 HR0.out x4_1 p159 q159;obtain rfl : ad158 = ad159 := (by injection e159);replace p159 := eq_true p159;replace q159 := eq_true q159;have p160 : 0 ≤ (x4_1 : Int) := XR.od;have q160 : x4_1 < (l0.length : Int) := XR.od;obtain ⟨ad160,e160,hx160_0,hx160_1⟩ := at_T59 HR0.out x4_1 p160 q160;obtain rfl : ad158 = ad160 := (by injection e160);replace p160 := eq_true p160;replace q160 := eq_true q160;have p161 : 0 ≤ (x4_1 : Int) := XR.od;have q161 : x4_1 < (l0.length : Int) := XR.od;obtain ⟨ad161,e161,hx161_0,hx161_1⟩ := at_T59 HR0.out x4_1 p161 q161;obtain rfl : ad158 = ad161 := (by injection e161);replace p161 := eq_true p161;replace q161 := eq_true q161;have p162 : 0 ≤ (x4_1 : Int) := XR.od;have q162 : x4_1 < (l0.length : Int) := XR.od;obtain ⟨ad162,e162,hx162_0,hx162_1⟩ := at_T59 HR0.out x4_1 p162 q162;obtain rfl : ad158 = ad162 := (by injection e162);replace p162 := eq_true p162;replace q162 := eq_true q162;go_wp2_with (first | (go_at_call 46;(with_reducible refine (ddiref35_index.calls k1 _ _ l0 ((rd_T59 l0 x4_1).f0) t163 _ ?side1 ?side2 A9.out).mono ?_);(case side1 => repeat (first | exact HR0.out | (with_reducible refine Kd.C_alloc ?_ _) | (with_reducible refine Kd.C_drewN ?_ _) | (with_reducible refine Kd.C_drew ?_)));(case side2 => exact HC0.out);rintro e w' ⟨rfl,⟨nd,rfl⟩⟩))
          first | go_meet | ((refine Met.intro ?_);go_step;(try simp only [c3b0,c4b0,c6b0,c7b0,c8b0]);(repeat apply Exists.intro);refine ⟨?rel,rfl⟩)
          case rel => exact ⟨_,((t163 != x4_1)),XR.rf,(by first | exact H' | (have h_ := H';simp only [c3b0,c4b0,c6b0,c7b0,c8b0] at h_;exact h_)),(XR.ok HK1.out),by repeat (first | exact Drawn0.refl _ | apply Drawn0.step)⟩
      case rest =>
       clear HC5;(try clear p1);(try clear q1);(try clear hx1);(try clear c2);(try clear c2b0);(try clear c2b1);(try clear p2);(try clear c3);(try clear c3b0);(try clear c4);(try clear c4b0);(try clear c6);(try clear c6b0);(try clear p6);(try clear c7);(try clear c7b0);(try clear c8);(try clear c8b0);(try clear c8b1);(try clear hx158_0);(try clear hx158_1);(try clear hx159_0);(try clear hx159_1);(try clear hx160_0);(try clear hx160_1);(try clear hx161_0);(try clear hx161_1);(try clear hx162_0);(try clear hx162_1);(try clear p158);(try clear p159);(try clear p160);(try clear p161);(try clear p162);(try clear p2);(try clear q158);(try clear q159);(try clear q160);(try clear q161);(try clear q162);obtain ⟨kq,x55_4,rfl,HA,HJ4,⟨mc4,rfl⟩⟩ := hcut
       cases kq with
       | zero => exact absurd HA.out (by simp [ddiref35_Valid.j1])
       | succ kj4 =>
        have H := HA.out;clear HA;simp only [ddiref35_Valid.j1] at H;by_cases c10 : x55_4 = true
        ·subst c10;rw [if_pos rfl] at H;(try dsimp only at H);obtain rfl := Option.some.inj H;go_wp2;go_ret;exact ⟨by first | rfl | (simp;done) | (simp [*];done),by repeat (first | exact Drawn0.refl _ | apply Drawn0.step)⟩
        ·replace c10 := Bool.eq_false_iff.mpr c10;subst c10;rw [if_neg (show ¬ (false = true) by decide)] at H;(try dsimp only at H);have H' := Aside0.mk H;clear H;go_wp2;go_roundg kj4
         case measure => have := HK1.out;have := HJ4.out;omega
         case rel => exact ⟨((wrap64 (x3_1 + (((rd_T59 l0 x4_1).f1).size : Int)))),(wrap64 (x4_1 + 1)),XR.rf,XR.rf,H',⟨by have := HK1.out;have := HJ4.out;omega⟩,by repeat (first | exact Drawn0.refl _ | apply Drawn0.step)⟩
     ·rw [if_neg c4] at H;exact absurd H (by simp)
    ·rw [if_neg c3] at H;have c3b0 := decide_eq_false c3;clear c3;obtain rfl := Option.some.inj H;go_wp2;go_ret;exact ⟨by first | rfl | (simp;done) | (simp [*];done),by repeat (first | exact Drawn0.refl _ | apply Drawn0.step)⟩
end Go.Proofs.YtngfffoeaghhhaaDoor.QA
namespace Go.Proofs.YtngfffoeaghhhaaDoor.QA
open Go.RowKit Go.Proofs.YtngfffoeaghhhaaDoorW.PrintWords Go.Proofs.YtngfffoeaghhhaaDoorW.PrintLast Go.Proofs.YtngfffoeaghhhaaDoorW.PrintMore
attribute [local go_sem] max2_int min2_int max_two min_two max_three min_three max_four min_four
attribute [local go_sem high] Go.Proofs.YtngfffoeaghhhaaDoor.XW.cell_setCell_lit
set_option linter.unusedVariables false
set_option linter.unusedSimpArgs false
def ddiref03_Valid.T1 : Bool × List (List Nat × List Nat) := (true,[([],[]),([0],[0]),([1],[1]),([2],[2]),([3,2],[3]),([4],[4]),([5,4],[4,5]),([6,4],[4,6]),([4,7],[4,7]),([8,4],[8]),([9],[9]),([10,9],[9,10]),([9],[9]),([12,9],[9,12]),([13,9],[9,13]),([14,9,9],[9,14]),([11,15,9],[9,11,15]),([9,16],[9,16])])
def ddiref03_Valid.B1 : List Nat := [0,1,3,7,15,31,63,127,255,511,1023,2047,1023,5119,13311,29695,65535,131071]
theorem ddiref03_Valid.tab1 : rtab .any (opsOf Tryd.f50 1) = ddiref03_Valid.T1 := by kernel_rfl
theorem ddiref03_Valid.bits1 : waitsOk ddiref03_Valid.T1.2 ddiref03_Valid.B1 = true := by kernel_rfl
def ddiref03_Valid.T3 : Bool × List (List Nat × List Nat) := (true,[([],[]),([0],[0]),([1],[1]),([2],[2]),([],[]),([4],[4]),([3,5],[3,5]),([6,3],[6]),([7],[7]),([8],[8]),([8],[8]),([9,7,0,1,2,3,4,5,6,7,8,9],[9]),([10,11,0,1,2,3,4,5,6,7,8,9,10,11],[10])])
def ddiref03_Valid.B3 : List Nat := [0,1,3,7,0,16,63,127,255,511,511,1023,4095]
theorem ddiref03_Valid.tab3 : rtab .any (opsOf Tryd.f50 3) = ddiref03_Valid.T3 := by kernel_rfl
theorem ddiref03_Valid.bits3 : waitsOk ddiref03_Valid.T3.2 ddiref03_Valid.B3 = true := by kernel_rfl
set_option maxHeartbeats 8000000 in
set_option maxRecDepth 100000 in
theorem ddiref03_Valid.calls (k : Nat) (a0_0 : Bool) (a0_1 : Int) (a0_2 : Int) (a0_3 : Int) (r : Bool) (w : World) (h : ddiref03_Valid.f k a0_0 a0_1 a0_2 a0_3 = some r) :
  Calls Tryd.prog 50 #[.agg #[.bool a0_0,.int .u64 a0_1,.int .u64 a0_2,.int .i64 a0_3]] w fun e w' => e = .returned (.bool r) ∧ Below w.heap.size w w' := by
 have hu45 := Tryd.underlying45;have hu24 := Tryd.underlying24;have HB := Aside0.mk (Below.refl w.heap.size w);have H : ((ddiref02_Valid.f a0_0 a0_1 a0_2).bind fun t605 => (if t605 = true then (if a0_3 < 0 then (ddiref03_Valid.j0 k true a0_0 a0_1 a0_2 a0_3) else ((ddiref03_Long.f a0_0).bind fun t606 => (ddiref03_Valid.j0 k (decide (a0_3 > t606)) a0_0 a0_1 a0_2 a0_3))) else (ddiref03_Valid.j0 k true a0_0 a0_1 a0_2 a0_3))) = some r := h;clear h;have HC2 := Aside0.mk H;clear H;go_enter Tryd.func50,Tryd.ntmps50;go_upto_region 1 with (first | ((with_reducible refine gate_dst (N := 1) rfl ?_);refine XR.bx 1 45 #[.bool a0_0,.int .u64 a0_1,.int .u64 a0_2,.int .i64 a0_3] ?_;intro gb604 hg w3 hbox hb;have BK604 := Aside0.mk (hbox);have GW604 := Aside0.mk (XR.ge hg HB.out);have GE604 := GW604;replace HB := Aside0.mk (XR.bB HB.out hb);clear hb hbox hg));(try simp only [Act.put,List.setIfInBounds_toArray,List.set_cons_zero,List.set_cons_succ]);go_cut [22] (fun v22 wc => ∃ (kq : Nat) (x22_1 : Bool),v22 = .bool x22_1 ∧ Aside0 (ddiref03_Valid.j0 kq x22_1 a0_0 a0_1 a0_2 a0_3 = some r) ∧ Aside0 (kq ≤ k) ∧ Aside0 (wc.heap[gb604]? = some (.cells #[.bool a0_0,.int .u64 a0_1,.int .u64 a0_2,.int .i64 a0_3] 45 (0,0))) ∧ Aside0 (Below w.heap.size w wc))
 case first =>
  have H := HC2.out;clear HC2;replace H := Option.bind_eq_some_iff.mp H;obtain ⟨t605,A40,H⟩ := H;(try dsimp only at H);have A4 := Aside0.mk A40;clear A40;by_cases c5 : t605 = true
  ·subst c5;rw [if_pos rfl] at H;(try dsimp only at H);by_cases c6 : a0_3 < 0
   ·rw [if_pos c6] at H;have c6b0 := decide_eq_true c6;clear c6;(first | rw [c6b0] | (simp only [i64_w,i32_w];rw [c6b0]) | skip);have H' := Aside0.mk H;clear H
    try go_wp2
    replace BK604 := Aside0.mk (blk_drew BK604.out);replace HB := Aside0.mk (below_drew1 HB.out);refine start_ (n := 18) (S := fun w' => w'.cell? ⟨gb604,0,none⟩ = some (.bool a0_0) ∧ w'.cell? ⟨gb604,1,none⟩ = some (.int .u64 a0_1) ∧ w'.cell? ⟨gb604,2,none⟩ = some (.int .u64 a0_2) ∧ w'.cell? ⟨gb604,3,none⟩ = some (.int .i64 a0_3)) (ds := []) #[false,false,false,false,false,false,false,false,false,false,false,false,false,false,false,false,false,false] (by kernel_rfl) rfl rfl (XR.c4 BK604.out) (fun hHeld => ?_);refine with_tabW ddiref03_Valid.tab1 ddiref03_Valid.bits1 (fun HT_ HW_ => ?_);generalize w3.drew = w7 at BK604 HB hHeld ⊢;refine XR.pu 0 5 HT_.out ?_;refine XR.ta 1 6 HT_.out HW_.out hHeld ?_;refine XR.on 2 (some 7) HT_.out (fun K hK => ?_);refine XR.gO Tryd.func28 #[.agg #[.bool a0_0,.int .u64 a0_1,.int .u64 a0_2]] ?_
    with_reducible refine (ddiref02_Valid.calls a0_0 a0_1 a0_2 true _ A4.out).mono ?_
    rintro e w8 ⟨rfl,hb⟩;refine ⟨_,rfl,?_⟩;replace BK604 := Aside0.mk (XR.bb BK604.out hb);replace HB := Aside0.mk (below_step (XR.sB HB.out) hb);(try clear hb);(try clear hb2);(try clear hk);(try clear hi);refine hK.out _ _ (XR.c4 BK604.out) (fun hHeld => ?_);clear hK K;refine norm_ (a' := ?_) ?_ ?_
    rotate_left
    ·show Act.put _ (some 7) _ = _
     simp only [Act.put,List.setIfInBounds_toArray,List.set_cons_zero,List.set_cons_succ,i64_w,i32_w]
     rfl
    refine XR.pu 3 8 HT_.out ?_;refine XR.pu 4 9 HT_.out ?_;refine XR.pu 5 10 HT_.out ?_;refine XR.ta 6 11 HT_.out HW_.out hHeld ?_;refine XR.pu 7 12 HT_.out ?_;refine XR.pu 8 13 HT_.out ?_;refine XR.pu 9 14 HT_.out ?_;refine XR.pn 10 15 HT_.out ?_;refine XR.pn 11 16 HT_.out ?_;refine XR.pn 12 17 HT_.out ?_;refine XR.pn 13 18 HT_.out ?_;refine XR.pn 14 19 HT_.out ?_;refine XR.pn 15 20 HT_.out ?_;refine XR.pn 16 21 HT_.out ?_;refine XR.pu 17 22 HT_.out ?_;refine done_ (done_of HT_.out (by kernel_rfl)) ?_
    try go_wp2
    first | go_meet | ((refine Met.intro ?_);go_step;(try simp only [c6b0]);(repeat apply Exists.intro);refine ⟨?rel,rfl⟩)
    case rel => exact ⟨_,(true),XR.rf,(by first | exact H' | (have h_ := H';simp only [c6b0] at h_;exact h_)),XR.om,(XR.fb BK604.out),⟨XR.sB HB.out⟩⟩
   ·rw [if_neg c6] at H;have c6b0 := decide_eq_false c6;clear c6;(first | rw [c6b0] | (simp only [i64_w,i32_w];rw [c6b0]) | skip);replace H := Option.bind_eq_some_iff.mp H;obtain ⟨t606,A90,H⟩ := H;replace H : (ddiref03_Valid.j0 k (decide (a0_3 > t606)) a0_0 a0_1 a0_2 a0_3) = some r := H;have A9 := Aside0.mk A90;clear A90;have H' := Aside0.mk H;clear H
    try go_wp2
    replace BK604 := Aside0.mk (blk_drew BK604.out);replace HB := Aside0.mk (below_drew1 HB.out);refine start_ (n := 18) (S := fun w' => w'.cell? ⟨gb604,0,none⟩ = some (.bool a0_0) ∧ w'.cell? ⟨gb604,1,none⟩ = some (.int .u64 a0_1) ∧ w'.cell? ⟨gb604,2,none⟩ = some (.int .u64 a0_2) ∧ w'.cell? ⟨gb604,3,none⟩ = some (.int .i64 a0_3)) (ds := []) #[false,false,false,false,false,false,false,false,false,false,false,false,false,false,false,false,false,false] (by kernel_rfl) rfl rfl (XR.c4 BK604.out) (fun hHeld => ?_);refine with_tabW ddiref03_Valid.tab1 ddiref03_Valid.bits1 (fun HT_ HW_ => ?_);generalize w3.drew = w10 at BK604 HB hHeld ⊢;refine XR.pu 0 5 HT_.out ?_;refine XR.ta 1 6 HT_.out HW_.out hHeld ?_;refine XR.on 2 (some 7) HT_.out (fun K hK => ?_);refine XR.gO Tryd.func28 #[.agg #[.bool a0_0,.int .u64 a0_1,.int .u64 a0_2]] ?_
    with_reducible refine (ddiref02_Valid.calls a0_0 a0_1 a0_2 true _ A4.out).mono ?_
    rintro e w11 ⟨rfl,hb⟩;refine ⟨_,rfl,?_⟩;replace BK604 := Aside0.mk (XR.bb BK604.out hb);replace HB := Aside0.mk (below_step (XR.sB HB.out) hb);(try clear hb);(try clear hb2);(try clear hk);(try clear hi);refine hK.out _ _ (XR.c4 BK604.out) (fun hHeld => ?_);clear hK K;refine norm_ (a' := ?_) ?_ ?_
    rotate_left
    ·show Act.put _ (some 7) _ = _
     simp only [Act.put,List.setIfInBounds_toArray,List.set_cons_zero,List.set_cons_succ,i64_w,i32_w]
     rfl
    refine XR.pu 3 8 HT_.out ?_;refine XR.pu 4 9 HT_.out ?_;refine XR.pu 5 10 HT_.out ?_;refine XR.ta 6 11 HT_.out HW_.out hHeld ?_;refine XR.pu 7 12 HT_.out ?_;refine XR.pu 8 13 HT_.out ?_;refine XR.pu 9 14 HT_.out ?_;refine XR.pu 10 15 HT_.out ?_;refine XR.pu 12 17 HT_.out ?_;refine XR.pu 13 18 HT_.out ?_;refine XR.ta 11 16 HT_.out HW_.out hHeld ?_;refine XR.ta 14 19 HT_.out HW_.out hHeld ?_;refine XR.on 15 (some 20) HT_.out (fun K hK => ?_);refine XR.gO Tryd.func66 #[.bool a0_0] ?_
    with_reducible refine (ddiref03_Long.calls a0_0 t606 _ A9.out).mono ?_
    rintro e w' ⟨rfl,⟨nd,rfl⟩⟩;refine ⟨_,rfl,?_⟩;refine hK.out _ _ (XR.c4 BK604.out) (fun hHeld => ?_);clear hK K;refine norm_ (a' := ?_) ?_ ?_
    rotate_left
    ·show Act.put _ (some 20) _ = _
     simp only [Act.put,List.setIfInBounds_toArray,List.set_cons_zero,List.set_cons_succ,i64_w,i32_w]
     rfl
    refine XR.pu 16 21 HT_.out ?_;refine XR.pu 17 22 HT_.out ?_;refine done_ (done_of HT_.out (by kernel_rfl)) ?_
    try go_wp2
    first | go_meet | ((refine Met.intro ?_);go_step;(try simp only [c6b0]);(repeat apply Exists.intro);refine ⟨?rel,rfl⟩)
    case rel => exact ⟨_,(decide (a0_3 > t606)),XR.rf,(by first | exact H' | (have h_ := H';simp only [c6b0] at h_;exact h_)),XR.om,(XR.fb BK604.out),⟨XR.sB HB.out⟩⟩
  ·replace c5 := Bool.eq_false_iff.mpr c5;subst c5;rw [if_neg (show ¬ (false = true) by decide)] at H;(try dsimp only at H);have H' := Aside0.mk H;clear H
   try go_wp2
   replace BK604 := Aside0.mk (blk_drew BK604.out);replace HB := Aside0.mk (below_drew1 HB.out);refine start_ (n := 18) (S := fun w' => w'.cell? ⟨gb604,0,none⟩ = some (.bool a0_0) ∧ w'.cell? ⟨gb604,1,none⟩ = some (.int .u64 a0_1) ∧ w'.cell? ⟨gb604,2,none⟩ = some (.int .u64 a0_2) ∧ w'.cell? ⟨gb604,3,none⟩ = some (.int .i64 a0_3)) (ds := []) #[false,false,false,false,false,false,false,false,false,false,false,false,false,false,false,false,false,false] (by kernel_rfl) rfl rfl (XR.c4 BK604.out) (fun hHeld => ?_);refine with_tabW ddiref03_Valid.tab1 ddiref03_Valid.bits1 (fun HT_ HW_ => ?_);generalize w3.drew = w12 at BK604 HB hHeld ⊢;refine XR.pu 0 5 HT_.out ?_;refine XR.ta 1 6 HT_.out HW_.out hHeld ?_;refine XR.on 2 (some 7) HT_.out (fun K hK => ?_);refine XR.gO Tryd.func28 #[.agg #[.bool a0_0,.int .u64 a0_1,.int .u64 a0_2]] ?_
   with_reducible refine (ddiref02_Valid.calls a0_0 a0_1 a0_2 false _ A4.out).mono ?_
   rintro e w13 ⟨rfl,hb⟩;refine ⟨_,rfl,?_⟩;replace BK604 := Aside0.mk (XR.bb BK604.out hb);replace HB := Aside0.mk (below_step (XR.sB HB.out) hb);(try clear hb);(try clear hb2);(try clear hk);(try clear hi);refine hK.out _ _ (XR.c4 BK604.out) (fun hHeld => ?_);clear hK K;refine norm_ (a' := ?_) ?_ ?_
   rotate_left
   ·show Act.put _ (some 7) _ = _
    simp only [Act.put,List.setIfInBounds_toArray,List.set_cons_zero,List.set_cons_succ,i64_w,i32_w]
    rfl
   refine XR.pu 3 8 HT_.out ?_;refine XR.pu 4 9 HT_.out ?_;refine XR.pn 5 10 HT_.out ?_;refine XR.pn 6 11 HT_.out ?_;refine XR.pn 7 12 HT_.out ?_;refine XR.pu 8 13 HT_.out ?_;refine XR.pu 9 14 HT_.out ?_;refine XR.pn 10 15 HT_.out ?_;refine XR.pn 11 16 HT_.out ?_;refine XR.pn 12 17 HT_.out ?_;refine XR.pn 13 18 HT_.out ?_;refine XR.pn 14 19 HT_.out ?_;refine XR.pn 15 20 HT_.out ?_;refine XR.pn 16 21 HT_.out ?_;refine XR.pu 17 22 HT_.out ?_;refine done_ (done_of HT_.out (by kernel_rfl)) ?_
   try go_wp2
   go_meet
   case rel => exact ⟨_,(true),XR.rf,H',XR.om,(XR.fb BK604.out),⟨XR.sB HB.out⟩⟩
 case rest =>
  clear HC2;(try clear c2);(try clear p2);(try clear c5);(try clear c6);(try clear c6b0);obtain ⟨kq,x22_1,rfl,HA,HJ1,BK604,HB⟩ := hcut
  cases kq with
  | zero => exact absurd HA.out (by simp [ddiref03_Valid.j0])
  | succ kj1 =>
   have H := HA.out;clear HA;simp only [ddiref03_Valid.j0] at H;by_cases c14 : x22_1 = true
   ·subst c14;rw [if_pos rfl] at H;(try dsimp only at H);obtain rfl := Option.some.inj H;go_wp2;go_ret;exact XR.re HB.out
   ·replace c14 := Bool.eq_false_iff.mpr c14;subst c14;rw [if_neg (show ¬ (false = true) by decide)] at H;(try dsimp only at H);replace H := Option.bind_eq_some_iff.mp H;obtain ⟨t607,A150,H⟩ := H;(try dsimp only at H);have A15 := Aside0.mk A150;clear A150;replace H := Option.bind_eq_some_iff.mp H;obtain ⟨⟨t608,t609⟩,A160,H⟩ := H;(try dsimp only at H);have A16 := Aside0.mk A160;clear A160;by_cases c17 : (Go.bits .and .u64 a0_1 t608) = 0
    ·rw [if_pos c17] at H;have c17b0 := beq_iff_eq.mpr c17;have c17b1 := bne_eq_false_iff_eq.mpr c17;clear c17;obtain rfl := Option.some.inj H
     try go_wp2
     replace BK604 := Aside0.mk (blk_drew BK604.out);replace HB := Aside0.mk (below_drew1 HB.out);refine start_ (n := 13) (S := fun w' => w'.cell? ⟨gb604,0,none⟩ = some (.bool a0_0) ∧ w'.cell? ⟨gb604,1,none⟩ = some (.int .u64 a0_1) ∧ w'.cell? ⟨gb604,2,none⟩ = some (.int .u64 a0_2) ∧ w'.cell? ⟨gb604,3,none⟩ = some (.int .i64 a0_3)) (ds := []) #[false,false,false,false,false,false,false,false,false,false,false,false,false] (by kernel_rfl) rfl rfl (XR.c4 BK604.out) (fun hHeld => ?_);refine with_tabW ddiref03_Valid.tab3 ddiref03_Valid.bits3 (fun HT_ HW_ => ?_);generalize wc.drew = w18 at BK604 HB hHeld ⊢;refine XR.pu 0 24 HT_.out ?_;refine XR.pu 1 25 HT_.out ?_;refine XR.pu 4 28 HT_.out ?_;refine XR.ta 2 26 HT_.out HW_.out hHeld ?_;refine XR.ta 5 29 HT_.out HW_.out hHeld ?_;refine XR.on 3 (some 27) HT_.out (fun K hK => ?_);refine XR.gO Tryd.func66 #[.bool a0_0] ?_
     with_reducible refine (ddiref03_Long.calls a0_0 t607 _ A15.out).mono ?_
     rintro e w' ⟨rfl,⟨nd,rfl⟩⟩;refine ⟨_,rfl,?_⟩;refine hK.out _ _ (XR.c4 BK604.out) (fun hHeld => ?_);clear hK K;refine norm_ (a' := ?_) ?_ ?_
     rotate_left
     ·show Act.put _ (some 27) _ = _
      simp only [Act.put,List.setIfInBounds_toArray,List.set_cons_zero,List.set_cons_succ,i64_w,i32_w]
      rfl
     refine XR.pu 6 30 HT_.out ?_;refine XR.on 7 (some 31) HT_.out (fun K hK => ?_);refine XR.gO Tryd.func67 #[.int .i64 (wrap64 (t607 - a0_3))] ?_
     with_reducible refine (ddiref03_ones.calls kj1 (wrap64 (t607 - a0_3)) t608 t609 _ A16.out).mono ?_
     rintro e w' ⟨rfl,⟨nd,rfl⟩⟩;refine ⟨_,rfl,?_⟩;refine hK.out _ _ (XR.c4 BK604.out) (fun hHeld => ?_);clear hK K;refine norm_ (a' := ?_) ?_ ?_
     rotate_left
     ·show Act.put _ (some 31) _ = _
      simp only [Act.put,List.setIfInBounds_toArray,List.set_cons_zero,List.set_cons_succ,i64_w,i32_w]
      rfl
     refine XR.pu 8 23 HT_.out ?_;refine XR.pu 9 32 HT_.out ?_;refine XR.pu 10 33 HT_.out ?_;refine XR.pu 11 3 HT_.out ?_;refine XR.pu 12 4 HT_.out ?_;refine done_ (done_of HT_.out (by kernel_rfl)) ?_;obtain ⟨Y19_0,Y19_1,Y19_2,Y19_3⟩ := XR.c4 BK604.out;obtain ⟨Z19_0,Z19_1,Z19_2,Z19_3⟩ := XR.f4 BK604.out
     try go_wp2
     go_ret;exact XR.re HB.out
    ·rw [if_neg c17] at H;have c17b0 := beq_eq_false_iff_ne.mpr c17;have c17b1 := bne_iff_ne.mpr c17;obtain rfl := Option.some.inj H
     try go_wp2
     replace BK604 := Aside0.mk (blk_drew BK604.out);replace HB := Aside0.mk (below_drew1 HB.out);refine start_ (n := 13) (S := fun w' => w'.cell? ⟨gb604,0,none⟩ = some (.bool a0_0) ∧ w'.cell? ⟨gb604,1,none⟩ = some (.int .u64 a0_1) ∧ w'.cell? ⟨gb604,2,none⟩ = some (.int .u64 a0_2) ∧ w'.cell? ⟨gb604,3,none⟩ = some (.int .i64 a0_3)) (ds := []) #[false,false,false,false,false,false,false,false,false,false,false,false,false] (by kernel_rfl) rfl rfl (XR.c4 BK604.out) (fun hHeld => ?_);refine with_tabW ddiref03_Valid.tab3 ddiref03_Valid.bits3 (fun HT_ HW_ => ?_);generalize wc.drew = w20 at BK604 HB hHeld ⊢;refine XR.pu 0 24 HT_.out ?_;refine XR.pu 1 25 HT_.out ?_;refine XR.pu 4 28 HT_.out ?_;refine XR.ta 2 26 HT_.out HW_.out hHeld ?_;refine XR.ta 5 29 HT_.out HW_.out hHeld ?_;refine XR.on 3 (some 27) HT_.out (fun K hK => ?_);refine XR.gO Tryd.func66 #[.bool a0_0] ?_
     with_reducible refine (ddiref03_Long.calls a0_0 t607 _ A15.out).mono ?_
     rintro e w' ⟨rfl,⟨nd,rfl⟩⟩;refine ⟨_,rfl,?_⟩;refine hK.out _ _ (XR.c4 BK604.out) (fun hHeld => ?_);clear hK K;refine norm_ (a' := ?_) ?_ ?_
     rotate_left
     ·show Act.put _ (some 27) _ = _
      simp only [Act.put,List.setIfInBounds_toArray,List.set_cons_zero,List.set_cons_succ,i64_w,i32_w]
      rfl
     refine XR.pu 6 30 HT_.out ?_;refine XR.on 7 (some 31) HT_.out (fun K hK => ?_);refine XR.gO Tryd.func67 #[.int .i64 (wrap64 (t607 - a0_3))] ?_
     with_reducible refine (ddiref03_ones.calls kj1 (wrap64 (t607 - a0_3)) t608 t609 _ A16.out).mono ?_
     rintro e w' ⟨rfl,⟨nd,rfl⟩⟩;refine ⟨_,rfl,?_⟩;refine hK.out _ _ (XR.c4 BK604.out) (fun hHeld => ?_);clear hK K;refine norm_ (a' := ?_) ?_ ?_
     rotate_left
     ·show Act.put _ (some 31) _ = _
      simp only [Act.put,List.setIfInBounds_toArray,List.set_cons_zero,List.set_cons_succ,i64_w,i32_w]
      rfl
     refine XR.pu 8 23 HT_.out ?_;refine XR.pu 9 32 HT_.out ?_;refine XR.pu 10 33 HT_.out ?_;refine XR.pu 11 3 HT_.out ?_;refine XR.pu 12 4 HT_.out ?_;refine done_ (done_of HT_.out (by kernel_rfl)) ?_;obtain ⟨Y21_0,Y21_1,Y21_2,Y21_3⟩ := XR.c4 BK604.out;obtain ⟨Z21_0,Z21_1,Z21_2,Z21_3⟩ := XR.f4 BK604.out
     try go_wp2
     go_ret;exact XR.re HB.out
end Go.Proofs.YtngfffoeaghhhaaDoor.QA
