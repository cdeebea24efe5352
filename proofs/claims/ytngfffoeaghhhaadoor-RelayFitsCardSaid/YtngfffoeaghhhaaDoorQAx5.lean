import Derived.Test.YtngfffoeaghhhaaDoorQAd
import Derived.Test.YtngfffoeaghhhaaDoorQAx0
import Derived.Test.YtngfffoeaghhhaaDoorXL
namespace Go.Proofs.YtngfffoeaghhhaaDoor.QA
open Go.RowKit Go.Proofs.YtngfffoeaghhhaaDoorW.PrintWords Go.Proofs.YtngfffoeaghhhaaDoorW.PrintLast Go.Proofs.YtngfffoeaghhhaaDoorW.PrintMore
attribute [local go_sem] max2_int min2_int max_two min_two max_three min_three max_four min_four
attribute [local go_sem high] Go.Proofs.YtngfffoeaghhhaaDoor.XW.cell_setCell_lit
set_option linter.unusedVariables false
set_option linter.unusedSimpArgs false
set_option maxHeartbeats 8000000 in
set_option maxRecDepth 100000 in
theorem option_Find.calls (k : Nat) (A0 : Option Addr) (c0 : Nat) (l0 : List (S59)) (a1 : Int) (r1 : ByteArray) (r2 : Bool) (w : World) (hr0 : Kd.C k59 w A0 l0.length l0) (hc0 : l0.length ≤ c0) (h : option_Find.f k l0 a1 = some (r1,r2)) :
  Calls Tryd.prog 31 #[.slice A0 l0.length c0,.int .i64 a1] w fun e w' => e = .returned (.tuple #[.string r1,.bool r2]) ∧ Below w.heap.size w w' := by
 have hu59 := Tryd.underlying59;have HR0 := Aside0.mk hr0;have HC0 := Aside0.mk hc0;clear hr0 hc0;have HB := Aside0.mk (Below.refl w.heap.size w);have H : (option_Find.l0 k a1 l0 (l0.length : Int) 0) = some (r1,r2) := h;clear h;have H' := Aside0.mk H;clear H;go_enter Tryd.func31,Tryd.ntmps31;go_wp2;go_loopg [10] k (fun kq v10 w' => ∃ (x10_1 : Int),v10 = .int .i64 x10_1 ∧ Aside0 (option_Find.l0 kq a1 l0 (l0.length : Int) x10_1 = some (r1,r2)) ∧ Aside0 (kq ≤ k) ∧ Aside0 (Below w.heap.size w w'))
 case atStart => exact ⟨(0),XR.rf,H',⟨Nat.le_refl _⟩,⟨XR.sB HB.out⟩⟩
 case round =>
  clear H';(try clear p2);obtain ⟨x10_1,rfl,HA,HK1,HB⟩ := hrel
  cases gk with
  | zero => exact absurd HA.out (by simp [option_Find.l0])
  | succ k1 =>
   have H := HA.out;clear HA;simp only [option_Find.l0] at H;by_cases c3 : x10_1 < (l0.length : Int)
   ·rw [if_pos c3] at H;have c3b0 := decide_eq_true c3;clear c3;by_cases c4 : 0 ≤ x10_1
    ·rw [if_pos c4] at H;have c4b0 := decide_eq_true c4;clear c4;by_cases c5 : x10_1 < (l0.length : Int)
     ·rw [if_pos c5] at H;have c5b0 := decide_eq_true c5;clear c5;by_cases c6 : ((rd_T59 l0 x10_1).f0) = a1
      ·rw [if_pos c6] at H;have c6b0 := beq_iff_eq.mpr c6;have c6b1 := bne_eq_false_iff_eq.mpr c6;clear c6;simp only [Option.some.injEq,Prod.mk.injEq] at H;obtain ⟨rfl,rfl⟩ := H;have p112 : 0 ≤ (x10_1 : Int) := XR.od;have q112 : x10_1 < (l0.length : Int) := XR.od;obtain ⟨ad112,e112,hx112_0,hx112_1⟩ := at_T59 (Kd.C_below HR0.out HB.out) x10_1 p112 q112
       cases e112
       replace p112 := eq_true p112;replace q112 := eq_true q112;go_wp2_with (first | ((with_reducible refine gate_dst (N := 7) rfl ?_);refine XR.bx 7 59 #[.int .i64 0,.string (⟨#[]⟩ : ByteArray)] ?_;intro gb113 hg w7 hbox hb;have BK113 := Aside0.mk (hbox);have GW113 := Aside0.mk (XR.ge hg HB.out);have GE113 := GW113;replace HB := Aside0.mk (XR.bB HB.out hb);clear hb hbox hg;obtain ⟨Y8_0,Y8_1⟩ := XR.c2 BK113.out;obtain ⟨Z8_0,Z8_1⟩ := XR.f2 BK113.out));go_ret2;exact XR.re HB.out
      ·rw [if_neg c6] at H;have c6b0 := beq_eq_false_iff_ne.mpr c6;have c6b1 := bne_iff_ne.mpr c6;have H' := Aside0.mk H;clear H;have p112 : 0 ≤ (x10_1 : Int) := XR.od;have q112 : x10_1 < (l0.length : Int) := XR.od;obtain ⟨ad112,e112,hx112_0,hx112_1⟩ := at_T59 (Kd.C_below HR0.out HB.out) x10_1 p112 q112
       cases e112
       replace p112 := eq_true p112;replace q112 := eq_true q112;go_wp2_with (first | ((with_reducible refine gate_dst (N := 7) rfl ?_);refine XR.bx 7 59 #[.int .i64 0,.string (⟨#[]⟩ : ByteArray)] ?_;intro gb113 hg w9 hbox hb;have BK113 := Aside0.mk (hbox);have GW113 := Aside0.mk (XR.ge hg HB.out);have GE113 := GW113;replace HB := Aside0.mk (XR.bB HB.out hb);clear hb hbox hg;obtain ⟨Y10_0,Y10_1⟩ := XR.c2 BK113.out;obtain ⟨Z10_0,Z10_1⟩ := XR.f2 BK113.out));go_roundg k1
       case measure => have := HK1.out;omega
       case rel => exact ⟨(wrap64 (x10_1 + 1)),XR.rf,H',⟨by have := HK1.out;omega⟩,⟨XR.sB HB.out⟩⟩
     ·rw [if_neg c5] at H;exact absurd H (by simp)
    ·rw [if_neg c4] at H;exact absurd H (by simp)
   ·rw [if_neg c3] at H;have c3b0 := decide_eq_false c3;clear c3;simp only [Option.some.injEq,Prod.mk.injEq] at H;obtain ⟨rfl,rfl⟩ := H;go_wp2;go_ret2;exact XR.re HB.out
set_option maxHeartbeats 8000000 in
set_option maxRecDepth 100000 in
theorem relay_Circuit.calls (k : Nat) (a0_0 : Int) (a0_1 : Int) (a0_2 : Int) (a0_3 : ByteArray) (a0_4 : Bool) (a0_5 : Int) (a0_6 : Int) (a0_7 : Bool) (a0_8 : Int) (a0_9 : Int) (a0_10 : Bool) (a0_11 : Int) (a0_12 : Int) (a0_13 : Bool) (A0_14 : Option Addr) (c0_14 : Nat) (l0_14 : List (S59)) (r1 : ByteArray) (r2 : Bool) (w : World) (hr0_14 : Kd.C k59 w A0_14 l0_14.length l0_14) (hc0_14 : l0_14.length ≤ c0_14) (h : relay_Circuit.f k a0_0 a0_1 a0_2 a0_3 a0_4 a0_5 a0_6 a0_7 a0_8 a0_9 a0_10 a0_11 a0_12 a0_13 l0_14 = some (r1,r2)) :
  Calls Tryd.prog 11 #[.agg #[.int .i64 a0_0,.int .i64 a0_1,.int .i64 a0_2,.string a0_3,.bool a0_4,.int .u64 a0_5,.int .u64 a0_6,.bool a0_7,.int .u64 a0_8,.int .u64 a0_9,.bool a0_10,.int .u64 a0_11,.int .u64 a0_12,.bool a0_13,.slice A0_14 l0_14.length c0_14]] w fun e w' => e = .returned (.tuple #[.string r1,.bool r2]) ∧ Below w.heap.size w w' := by
 have hu27 := Tryd.underlying27;have HR0_14 := Aside0.mk hr0_14;have HC0_14 := Aside0.mk hc0_14;clear hr0_14 hc0_14;have HB := Aside0.mk (Below.refl w.heap.size w);have H : ((option_Find.f k l0_14 82).bind fun bt115 => (if bt115.2 = true then (if (bt115.1.size : Int) < 2 then (relay_Circuit.j0 k bt115.1 true) else (if 0 < (bt115.1.size : Int) then (if (bt bt115.1 0) = 1 then (if 1 < (bt115.1.size : Int) then (relay_Circuit.j0 k bt115.1 ((wrap64 (bt bt115.1 1)) != (wrap64 ((bt115.1.size : Int) - 2)))) else (none)) else (relay_Circuit.j0 k bt115.1 true)) else (none))) else (relay_Circuit.j0 k bt115.1 true))) = some (r1,r2) := h;clear h;replace H := Option.bind_eq_some_iff.mp H;obtain ⟨⟨t115,t116⟩,A20,H⟩ := H;(try dsimp only at H);have A2 := Aside0.mk A20;clear A20;have HC3 := Aside0.mk H;clear H;go_enter Tryd.func11,Tryd.ntmps11;go_upto_region 2 with (first | ((with_reducible refine gate_dst (N := 1) rfl ?_);(try (refine gate_guard (by rfl) ?_;dsimp only));refine XR.bx 1 27 #[.int .i64 a0_0,.int .i64 a0_1,.int .i64 a0_2,.string a0_3,.bool a0_4,.int .u64 a0_5,.int .u64 a0_6,.bool a0_7,.int .u64 a0_8,.int .u64 a0_9,.bool a0_10,.int .u64 a0_11,.int .u64 a0_12,.bool a0_13,.slice A0_14 l0_14.length c0_14] ?_;intro gb114 hg w4 hbox hb;have BK114 := Aside0.mk (hbox);have GW114 := Aside0.mk (XR.ge hg HB.out);have GE114 := GW114;replace HB := Aside0.mk (XR.bB HB.out hb);clear hb hbox hg;obtain ⟨Y5_0,Y5_1,Y5_2,Y5_3,Y5_4,Y5_5,Y5_6,Y5_7,Y5_8,Y5_9,Y5_10,Y5_11,Y5_12,Y5_13,Y5_14⟩ := XR.c15 BK114.out;obtain ⟨Z5_0,Z5_1,Z5_2,Z5_3,Z5_4,Z5_5,Z5_6,Z5_7,Z5_8,Z5_9,Z5_10,Z5_11,Z5_12,Z5_13,Z5_14⟩ := XR.f15 BK114.out) | ((with_reducible refine gate_callee (f := 31) rfl ?_);refine XR.gL 9 Tryd.func31 #[.slice A0_14 l0_14.length c0_14,.int .i64 82] ?_;(with_reducible refine (option_Find.calls k _ _ l0_14 82 t115 t116 _ ?side1 ?side2 A2.out).mono ?_);(case side1 => exact XR.lC (Kd.C_below HR0_14.out HB.out));(case side2 => exact HC0_14.out);rintro e w6 ⟨rfl,hb⟩;refine ⟨_,rfl,?_⟩;replace BK114 := Aside0.mk (XR.bb BK114.out hb);replace HB := Aside0.mk (below_step (XR.sB HB.out) hb);(try clear hb)) | ((with_reducible refine XL.gate_ld 27 1 rfl ?_);refine XL.ldL 27 _ gb114 _ Tryd.underlying27 (by with_reducible first | exact XL.rng BK114.out | exact XL.rng (XR.lb BK114.out)) ?_) | ((with_reducible refine gate_store (t := 27) (p := 1) rfl ?_);refine XL.stL 27 1 _ gb114 _ _ (by with_reducible first | exact BK114.out | exact XR.lb BK114.out) ?_));(try simp only [Act.put,List.setIfInBounds_toArray,List.set_cons_zero,List.set_cons_succ]);go_cut [32] (fun v32 wc => ∃ (kq : Nat) (x32_2 : Bool),v32 = .bool x32_2 ∧ Aside0 (relay_Circuit.j0 kq t115 x32_2 = some (r1,r2)) ∧ Aside0 (kq ≤ k) ∧ Aside0 (wc.heap[gb114]? = some (.cells #[.int .i64 a0_0,.int .i64 a0_1,.int .i64 a0_2,.string a0_3,.bool a0_4,.int .u64 a0_5,.int .u64 a0_6,.bool a0_7,.int .u64 a0_8,.int .u64 a0_9,.bool a0_10,.int .u64 a0_11,.int .u64 a0_12,.bool a0_13,(.slice A0_14 l0_14.length c0_14)] 27 (0,0))) ∧ Aside0 (Below w.heap.size w wc))
 case first =>
  have H := HC3.out;clear HC3;by_cases c7 : t116 = true
  ·subst c7;rw [if_pos rfl] at H;(try dsimp only at H);by_cases c8 : (t115.size : Int) < 2
   ·rw [if_pos c8] at H;have c8b0 := decide_eq_true c8;have c8b1 : decide (t115.size < 2) = true := decide_eq_true (by omega);clear c8;(first | rw [c8b0] | (simp only [i64_w,i32_w];rw [c8b0]) | skip);have H' := Aside0.mk H;clear H;go_wp2_with (first | ((with_reducible refine XL.gate_ld 27 1 rfl ?_);refine XL.ldL 27 _ gb114 _ Tryd.underlying27 (by with_reducible first | exact XL.rng BK114.out | exact XL.rng (XR.lb BK114.out)) ?_) | ((with_reducible refine gate_store (t := 27) (p := 1) rfl ?_);refine XL.stL 27 1 _ gb114 _ _ (by with_reducible first | exact BK114.out | exact XR.lb BK114.out) ?_))
    first | go_meet | ((refine Met.intro ?_);go_step;(try simp only [c8b0]);(repeat apply Exists.intro);refine ⟨?rel,rfl⟩)
    case rel => exact ⟨_,(true),XR.rf,(by first | exact H' | (have h_ := H';simp only [c8b0] at h_;exact h_)),XR.om,(XR.fb BK114.out),⟨XR.sB HB.out⟩⟩
   ·rw [if_neg c8] at H;have c8b0 := decide_eq_false c8;have c8b1 : decide (t115.size < 2) = false := decide_eq_false (by omega);clear c8;(first | rw [c8b0] | (simp only [i64_w,i32_w];rw [c8b0]) | skip);by_cases c9 : 0 < (t115.size : Int)
    ·rw [if_pos c9] at H;have c9b0 := decide_eq_true c9;have c9b1 : decide (0 < t115.size) = true := decide_eq_true (by omega);clear c9;by_cases c11 : (bt t115 0) = 1
     ·rw [if_pos c11] at H;have c11b0 := beq_iff_eq.mpr c11;have c11b1 := bne_eq_false_iff_eq.mpr c11;clear c11;by_cases c12 : 1 < (t115.size : Int)
      ·rw [if_pos c12] at H;have c12b0 := decide_eq_true c12;have c12b1 : decide (1 < t115.size) = true := decide_eq_true (by omega);clear c12;have H' := Aside0.mk H;clear H;have p10 : 0 ≤ (0 : Int) := (by omega);have q10 : 0 < t115.size := (by have : (0 : Int) < (t115.size : Int) := XR.od;omega);have hx10 : ∀ h : 0 < t115.size,((t115[0]'h).toNat : Int) = bt t115 0 := bt_at t115 0;clear p10;have qi10 : (0 < (t115.size : Int)) = True := eq_true (of_decide_eq_true (by first | (with_reducible assumption) | assumption));replace q10 := eq_true q10;have p13 : 0 ≤ (1 : Int) := (by omega);have q13 : 1 < t115.size := (by have : (1 : Int) < (t115.size : Int) := XR.od;omega);have hx13 : ∀ h : 1 < t115.size,((t115[1]'h).toNat : Int) = bt t115 1 := bt_at t115 1;clear p13;have qi13 : (1 < (t115.size : Int)) = True := eq_true (of_decide_eq_true (by first | (with_reducible assumption) | assumption));replace q13 := eq_true q13;go_wp2
       first | go_meet | ((refine Met.intro ?_);go_step;(try simp only [c8b0,c9b0,c11b0,c12b0]);(repeat apply Exists.intro);refine ⟨?rel,rfl⟩)
       case rel => exact ⟨_,(((wrap64 (bt t115 1)) != (wrap64 ((t115.size : Int) - 2)))),XR.rf,(by first | exact H' | (have h_ := H';simp only [c8b0,c9b0,c11b0,c12b0] at h_;exact h_)),XR.om,(XR.fb BK114.out),⟨XR.sB HB.out⟩⟩
      ·rw [if_neg c12] at H;exact absurd H (by simp)
     ·rw [if_neg c11] at H;have c11b0 := beq_eq_false_iff_ne.mpr c11;have c11b1 := bne_iff_ne.mpr c11;have H' := Aside0.mk H;clear H;have p10 : 0 ≤ (0 : Int) := (by omega);have q10 : 0 < t115.size := (by have : (0 : Int) < (t115.size : Int) := XR.od;omega);have hx10 : ∀ h : 0 < t115.size,((t115[0]'h).toNat : Int) = bt t115 0 := bt_at t115 0;clear p10;have qi10 : (0 < (t115.size : Int)) = True := eq_true (of_decide_eq_true (by first | (with_reducible assumption) | assumption));replace q10 := eq_true q10;go_wp2
      first | go_meet | ((refine Met.intro ?_);go_step;(try simp only [c8b0,c9b0,c11b0]);(repeat apply Exists.intro);refine ⟨?rel,rfl⟩)
      case rel => exact ⟨_,(true),XR.rf,(by first | exact H' | (have h_ := H';simp only [c8b0,c9b0,c11b0] at h_;exact h_)),XR.om,(XR.fb BK114.out),⟨XR.sB HB.out⟩⟩
    ·rw [if_neg c9] at H;exact absurd H (by simp)
  ·replace c7 := Bool.eq_false_iff.mpr c7;subst c7;rw [if_neg (show ¬ (false = true) by decide)] at H;(try dsimp only at H);have H' := Aside0.mk H;clear H;go_wp2;go_meet
   case rel => exact ⟨_,(true),XR.rf,H',XR.om,(XR.fb BK114.out),⟨XR.sB HB.out⟩⟩
 case rest =>
  clear HC3;(try clear c1);(try clear p1);(try clear q1);(try clear hx1);(try clear qi1);(try clear p2);(try clear c3);(try clear p6);(try clear c7);(try clear c8);(try clear c8b0);(try clear c8b1);(try clear c9);(try clear c9b0);(try clear c9b1);(try clear p10);(try clear q10);(try clear hx10);(try clear qi10);(try clear c11);(try clear c11b0);(try clear c11b1);(try clear c12);(try clear c12b0);(try clear c12b1);(try clear p13);(try clear q13);(try clear hx13);(try clear qi13);(try clear Y5_0 Y5_1 Y5_10 Y5_11 Y5_12 Y5_13 Y5_14 Y5_2 Y5_3 Y5_4 Y5_5 Y5_6 Y5_7 Y5_8 Y5_9);(try clear Z5_0 Z5_1 Z5_10 Z5_11 Z5_12 Z5_13 Z5_14 Z5_2 Z5_3 Z5_4 Z5_5 Z5_6 Z5_7 Z5_8 Z5_9);(try clear p10);(try clear p13);(try clear q10);(try clear q13);obtain ⟨kq,x32_2,rfl,HA,HJ2,BK114,HB⟩ := hcut
  cases kq with
  | zero => exact absurd HA.out (by simp [relay_Circuit.j0])
  | succ kj2 =>
   have H := HA.out;clear HA;simp only [relay_Circuit.j0] at H;by_cases c14 : x32_2 = true
   ·subst c14;rw [if_pos rfl] at H;(try dsimp only at H);simp only [Option.some.injEq,Prod.mk.injEq] at H;obtain ⟨rfl,rfl⟩ := H;go_wp2;go_ret2;exact XR.re HB.out
   ·replace c14 := Bool.eq_false_iff.mpr c14;subst c14;rw [if_neg (show ¬ (false = true) by decide)] at H;(try dsimp only at H);by_cases c15 : 2 ≤ (t115.size : Int)
    ·rw [if_pos c15] at H;have c15b0 := eq_true c15;have c15b1 := decide_eq_true c15;clear c15;simp only [Option.some.injEq,Prod.mk.injEq] at H;obtain ⟨rfl,rfl⟩ := H;go_wp2;go_ret2;exact XR.re HB.out
    ·rw [if_neg c15] at H;exact absurd H (by simp)
set_option maxHeartbeats 8000000 in
set_option maxRecDepth 100000 in
theorem option_size.calls (k : Nat) (A0 : Option Addr) (c0 : Nat) (l0 : List (S59)) (r : Int) (w : World) (hr0 : Kd.C k59 w A0 l0.length l0) (hc0 : l0.length ≤ c0) (h : option_size.f k l0 = some r) :
  Calls Tryd.prog 44 #[.slice A0 l0.length c0] w fun e w' => e = .returned (.int .i64 r) ∧ Below w.heap.size w w' := by
 have hu59 := Tryd.underlying59;have HR0 := Aside0.mk hr0;have HC0 := Aside0.mk hc0;clear hr0 hc0;have HB := Aside0.mk (Below.refl w.heap.size w);have H : (option_size.l0 k 0 l0 (l0.length : Int) 0) = some r := h;clear h;have H' := Aside0.mk H;clear H;go_enter Tryd.func44,Tryd.ntmps44;go_wp2;go_loopg [3,8] k (fun kq v3 v8 w' => ∃ (x3_1 : Int) (x8_1 : Int),v3 = .int .i64 x3_1 ∧ v8 = .int .i64 x8_1 ∧ Aside0 (option_size.l0 kq x3_1 l0 (l0.length : Int) x8_1 = some r) ∧ Aside0 (kq ≤ k) ∧ Aside0 (Below w.heap.size w w'))
 case atStart => exact ⟨(0),(0),XR.rf,XR.rf,H',⟨Nat.le_refl _⟩,⟨XR.sB HB.out⟩⟩
 case round =>
  clear H';obtain ⟨x3_1,x8_1,rfl,rfl,HA,HK1,HB⟩ := hrel
  cases gk with
  | zero => exact absurd HA.out (by simp [option_size.l0])
  | succ k1 =>
   have H := HA.out;clear HA;simp only [option_size.l0] at H;by_cases c2 : x8_1 < (l0.length : Int)
   ·rw [if_pos c2] at H;have c2b0 := decide_eq_true c2;clear c2;by_cases c3 : 0 ≤ x8_1
    ·rw [if_pos c3] at H;have c3b0 := decide_eq_true c3;clear c3;by_cases c4 : x8_1 < (l0.length : Int)
     ·rw [if_pos c4] at H;have c4b0 := decide_eq_true c4;clear c4;have H' := Aside0.mk H;clear H;have p117 : 0 ≤ (x8_1 : Int) := XR.od;have q117 : x8_1 < (l0.length : Int) := XR.od;obtain ⟨ad117,e117,hx117_0,hx117_1⟩ := at_T59 (Kd.C_below HR0.out HB.out) x8_1 p117 q117
      cases e117
      replace p117 := eq_true p117;replace q117 := eq_true q117;go_wp2_with (first | ((with_reducible refine gate_dst (N := 5) rfl ?_);refine XR.bx 5 59 #[.int .i64 0,.string (⟨#[]⟩ : ByteArray)] ?_;intro gb118 hg w5 hbox hb;have BK118 := Aside0.mk (hbox);have GW118 := Aside0.mk (XR.ge hg HB.out);have GE118 := GW118;replace HB := Aside0.mk (XR.bB HB.out hb);clear hb hbox hg;obtain ⟨Y6_0,Y6_1⟩ := XR.c2 BK118.out;obtain ⟨Z6_0,Z6_1⟩ := XR.f2 BK118.out));go_roundg k1
      case measure => have := HK1.out;omega
      case rel => exact ⟨(wrap64 (x3_1 + (((rd_T59 l0 x8_1).f1).size : Int))),(wrap64 (x8_1 + 1)),XR.rf,XR.rf,H',⟨by have := HK1.out;omega⟩,⟨XR.sB HB.out⟩⟩
     ·rw [if_neg c4] at H;exact absurd H (by simp)
    ·rw [if_neg c3] at H;exact absurd H (by simp)
   ·rw [if_neg c2] at H;have c2b0 := decide_eq_false c2;clear c2;obtain rfl := Option.some.inj H;go_wp2;go_ret;exact XR.re HB.out
set_option maxHeartbeats 8000000 in
set_option maxRecDepth 100000 in
theorem option_isCode.calls (a0 : Int) (r : Bool) (w : World) (h : option_isCode.f a0 = some r) :
  Calls Tryd.prog 45 #[.int .i64 a0] w fun e w' => e = .returned (.bool r) ∧ Drawn0 w w' := by
 have H : (if a0 ≥ 1 then (some (decide (a0 ≤ 254))) else (some false)) = some r := h;clear h;by_cases c2 : a0 ≥ 1
 ·rw [if_pos c2] at H;have c2b0 := decide_eq_true c2;clear c2;obtain rfl := Option.some.inj H;go_enter Tryd.func45,Tryd.ntmps45;go_wp2;go_ret;exact ⟨by first | rfl | (simp;done) | (simp [*];done),by repeat (first | exact Drawn0.refl _ | apply Drawn0.step)⟩
 ·rw [if_neg c2] at H;have c2b0 := decide_eq_false c2;clear c2;obtain rfl := Option.some.inj H;go_enter Tryd.func45,Tryd.ntmps45;go_wp2;go_ret;exact ⟨by first | rfl | (simp;done) | (simp [*];done),by repeat (first | exact Drawn0.refl _ | apply Drawn0.step)⟩
end Go.Proofs.YtngfffoeaghhhaaDoor.QA
