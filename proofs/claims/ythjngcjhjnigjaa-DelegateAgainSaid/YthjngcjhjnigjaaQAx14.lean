import Derived.Test.YthjngcjhjnigjaaQAd1
import Derived.Test.YthjngcjhjnigjaaQAx0
namespace Go.Proofs.Ythjngcjhjnigjaa.QA
open Go.RowKit Go.Proofs.YthjngcjhjnigjaaW.PrintWords Go.Proofs.YthjngcjhjnigjaaW.PrintLast Go.Proofs.YthjngcjhjnigjaaW.PrintMore
attribute [local go_sem] max2_int min2_int max_two min_two max_three min_three max_four min_four
attribute [local go_sem high] Go.Proofs.Ythjngcjhjnigjaa.XW.cell_setCell_lit
set_option linter.unusedVariables false
set_option linter.unusedSimpArgs false
set_option maxHeartbeats 8000000 in
set_option maxRecDepth 100000 in
theorem delegate_named.calls (k : Nat) (a0 : ByteArray) (r : Bool) (w : World) (h : delegate_named.f k a0 = some r) :
  Calls Try.prog 35 #[.string a0] w fun e w' => e = .returned (.bool r) ∧ Drawn0 w w' := by
 have H : (if a0.toList = ([] : List UInt8) then (delegate_named.j0 k a0 true) else (delegate_named.j0 k a0 (decide ((a0.size : Int) > 32)))) = some r := h;clear h;have HC2 := Aside0.mk H;clear H;go_enter Try.func35,Try.ntmps35;go_upto_region 1 with (fail);go_cut [10] (fun v10 wc => ∃ (kq : Nat) (x10_1 : Bool),v10 = .bool x10_1 ∧ Aside0 (delegate_named.j0 kq a0 x10_1 = some r) ∧ Aside0 (kq ≤ k) ∧ Drawn0 w wc)
 case first =>
  have H := HC2.out;clear HC2;by_cases c3 : a0.toList = ([] : List UInt8)
  ·rw [if_pos c3] at H;have c3b0 := beq_iff_eq.mpr c3;have c3b1 := bne_eq_false_iff_eq.mpr c3;clear c3;(first | rw [c3b0] | (simp only [i64_w,i32_w];rw [c3b0]) | skip);have H' := Aside0.mk H;clear H;go_wp2
   first | go_meet | ((refine Met.intro ?_);go_step;(try simp only [c3b0]);(repeat apply Exists.intro);refine ⟨?rel,rfl⟩)
   case rel => exact ⟨_,(true),XR.rf,H',XR.om,by repeat (first | exact Drawn0.refl _ | apply Drawn0.step)⟩
  ·rw [if_neg c3] at H;have c3b0 := beq_eq_false_iff_ne.mpr c3;have c3b1 := bne_iff_ne.mpr c3;(first | rw [c3b0] | (simp only [i64_w,i32_w];rw [c3b0]) | skip);have H' := Aside0.mk H;clear H;go_wp2
   first | go_meet | ((refine Met.intro ?_);go_step;(try simp only [c3b0]);(repeat apply Exists.intro);refine ⟨?rel,rfl⟩)
   case rel => exact ⟨_,(decide ((a0.size : Int) > 32)),XR.rf,H',XR.om,by repeat (first | exact Drawn0.refl _ | apply Drawn0.step)⟩
 case rest =>
  clear HC2;(try clear p2);(try clear c3);(try clear c3b0);(try clear c3b1);obtain ⟨kq,x10_1,rfl,HA,HJ1,⟨mc1,rfl⟩⟩ := hcut
  cases kq with
  | zero => exact absurd HA.out (by simp [delegate_named.j0])
  | succ kj1 =>
   have H := HA.out;clear HA;simp only [delegate_named.j0] at H;by_cases c4 : x10_1 = true
   ·subst c4;rw [if_pos rfl] at H;(try dsimp only at H);obtain rfl := Option.some.inj H;go_wp2;go_ret;exact ⟨by first | rfl | (simp;done) | (simp [*];done),by repeat (first | exact Drawn0.refl _ | apply Drawn0.step)⟩
   ·replace c4 := Bool.eq_false_iff.mpr c4;subst c4;rw [if_neg (show ¬ (false = true) by decide)] at H;(try dsimp only at H);have H' := Aside0.mk H;clear H;go_wp2;go_loopg [13] kj1 (fun kq v13 w' => ∃ (x13_2 : Int),v13 = .int .i64 x13_2 ∧ Aside0 (delegate_named.l0 kq a0 (a0.size : Int) x13_2 = some r) ∧ Aside0 (kq ≤ kj1) ∧ Drawn0 w w')
    case atStart => exact ⟨(0),XR.rf,H',⟨Nat.le_refl _⟩,by repeat (first | exact Drawn0.refl _ | apply Drawn0.step)⟩
    case round =>
     clear H';(try clear c1);(try clear p2);(try clear c3);(try clear c3b0);(try clear c3b1);(try clear c4);(try clear p2);obtain ⟨x13_2,rfl,HA,HK2,⟨m2,rfl⟩⟩ := hrel
     cases gk with
     | zero => exact absurd HA.out (by simp [delegate_named.l0])
     | succ k2 =>
      have H := HA.out;clear HA;simp only [delegate_named.l0] at H;by_cases c5 : x13_2 < (a0.size : Int)
      ·rw [if_pos c5] at H;have c5b0 := decide_eq_true c5;clear c5;have HC6 := Aside0.mk H;clear H;go_upto_region 6 with (fail);go_cut [25] (fun v25 wc => ∃ (kq : Nat) (x25_5 : Bool),v25 = .bool x25_5 ∧ Aside0 (delegate_named.j2 kq a0 (a0.size : Int) x13_2 x25_5 = some r) ∧ Aside0 (kq ≤ k2) ∧ Drawn0 w wc)
       case first =>
        have H := HC6.out;clear HC6;by_cases c7 : 0 ≤ x13_2
        ·rw [if_pos c7] at H;have c7b0 := decide_eq_true c7;clear c7;(first | rw [c7b0] | (simp only [i64_w,i32_w];rw [c7b0]) | skip);by_cases c8 : x13_2 < (a0.size : Int)
         ·rw [if_pos c8] at H;have c8b0 := decide_eq_true c8;clear c8;by_cases c10 : (bt a0 x13_2) < 33
          ·rw [if_pos c10] at H;have c10b0 := decide_eq_true c10;clear c10;have H' := Aside0.mk H;clear H;have p9 : 0 ≤ (x13_2 : Int) := XR.od;have q9 : x13_2 < (a0.size : Int) := XR.od;have hx9 := bt_at a0 x13_2;replace p9 := eq_true p9;replace q9 := eq_true q9;go_wp2
           first | go_meet | ((refine Met.intro ?_);go_step;(try simp only [c5b0,c7b0,c8b0,c10b0]);(repeat apply Exists.intro);refine ⟨?rel,rfl⟩)
           case rel => exact ⟨_,(true),XR.rf,(by first | exact H' | (have h_ := H';simp only [c5b0,c7b0,c8b0,c10b0] at h_;exact h_)),⟨by have := HJ1.out;have := HK2.out;first | omega | exact Nat.le_refl _⟩,by repeat (first | exact Drawn0.refl _ | apply Drawn0.step)⟩
          ·rw [if_neg c10] at H;have c10b0 := decide_eq_false c10;clear c10;have H' := Aside0.mk H;clear H;have p9 : 0 ≤ (x13_2 : Int) := XR.od;have q9 : x13_2 < (a0.size : Int) := XR.od;have hx9 := bt_at a0 x13_2;replace p9 := eq_true p9;replace q9 := eq_true q9;have p11 : 0 ≤ (x13_2 : Int) := XR.od;have q11 : x13_2 < (a0.size : Int) := XR.od;have hx11 := bt_at a0 x13_2;replace p11 := eq_true p11;replace q11 := eq_true q11;go_wp2
           first | go_meet | ((refine Met.intro ?_);go_step;(try simp only [c5b0,c7b0,c8b0,c10b0]);(repeat apply Exists.intro);refine ⟨?rel,rfl⟩)
           case rel => exact ⟨_,(decide ((bt a0 x13_2) > 126)),XR.rf,(by first | exact H' | (have h_ := H';simp only [c5b0,c7b0,c8b0,c10b0] at h_;exact h_)),⟨by have := HJ1.out;have := HK2.out;first | omega | exact Nat.le_refl _⟩,by repeat (first | exact Drawn0.refl _ | apply Drawn0.step)⟩
         ·rw [if_neg c8] at H;exact absurd H (by simp)
        ·rw [if_neg c7] at H;exact absurd H (by simp)
       case rest =>
        clear HC6;(try clear c1);(try clear p1);(try clear q1);(try clear hx1);(try clear p2);(try clear c3);(try clear c3b0);(try clear c3b1);(try clear c4);(try clear c5);(try clear c5b0);(try clear c7);(try clear c7b0);(try clear c8);(try clear c8b0);(try clear p9);(try clear q9);(try clear hx9);(try clear c10);(try clear c10b0);(try clear p11);(try clear q11);(try clear hx11);(try clear p11);(try clear p2);(try clear p9);(try clear q11);(try clear q9);obtain ⟨kq,x25_5,rfl,HA,HJ5,⟨mc5,rfl⟩⟩ := hcut
        cases kq with
        | zero => exact absurd HA.out (by simp [delegate_named.j2])
        | succ kj5 =>
         have H := HA.out;clear HA;simp only [delegate_named.j2] at H;by_cases c12 : x25_5 = true
         ·subst c12;rw [if_pos rfl] at H;(try dsimp only at H);obtain rfl := Option.some.inj H;go_wp2;go_ret;exact ⟨by first | rfl | (simp;done) | (simp [*];done),by repeat (first | exact Drawn0.refl _ | apply Drawn0.step)⟩
         ·replace c12 := Bool.eq_false_iff.mpr c12;subst c12;rw [if_neg (show ¬ (false = true) by decide)] at H;(try dsimp only at H);have H' := Aside0.mk H;clear H;go_wp2;go_roundg kj5
          case measure => have := HJ1.out;have := HK2.out;have := HJ5.out;omega
          case rel => exact ⟨(wrap64 (x13_2 + 1)),XR.rf,H',⟨by have := HJ1.out;have := HK2.out;have := HJ5.out;omega⟩,by repeat (first | exact Drawn0.refl _ | apply Drawn0.step)⟩
      ·rw [if_neg c5] at H;have c5b0 := decide_eq_false c5;clear c5;obtain rfl := Option.some.inj H;go_wp2;go_ret;exact ⟨by first | rfl | (simp;done) | (simp [*];done),by repeat (first | exact Drawn0.refl _ | apply Drawn0.step)⟩
set_option maxHeartbeats 8000000 in
set_option maxRecDepth 100000 in
theorem delegate_Check_1.calls (a0_0 : Bool) (a0_1 : Int) (a0_2 : Int) (a0_3 : Int) (a0_4 : ByteArray) (a0_5 : Int) (g1_0 : Nat) (a1_0 : Bool) (a1_1 : Int) (a1_2 : Int) (a1_3 : Int) (a1_4 : ByteArray) (a1_5 : Int) (r : Bool) (w : World) (hb1_0 : w.heap[g1_0]? = some (.cells #[.bool a1_0,.int .u64 a1_1,.int .u64 a1_2,.int .i64 a1_3,.string a1_4,.int .i64 a1_5] 61 (0,0))) (h : delegate_Check_1.f a0_0 a0_1 a0_2 a0_3 a0_4 a0_5 a1_0 a1_1 a1_2 a1_3 a1_4 a1_5 = some r) :
  Calls Try.prog 37 #[.agg #[.bool a0_0,.int .u64 a0_1,.int .u64 a0_2,.int .i64 a0_3,.string a0_4,.int .i64 a0_5],.pointer (some ⟨g1_0,0,none⟩)] w fun e w' => e = .returned (.bool r) ∧ Below w.heap.size w w' := by
 have hu61 := Try.underlying61;have BK700100 := Aside0.mk hb1_0;clear hb1_0;have HB := Aside0.mk (Below.refl w.heap.size w);have H : (some (a0_4.toList == a1_4.toList)) = some r := h;clear h;obtain rfl := Option.some.inj H;go_enter Try.func37,Try.ntmps37;go_wp2_with (first | ((with_reducible refine gate_dst (N := 2) rfl ?_);refine XR.bx 2 61 #[.bool a0_0,.int .u64 a0_1,.int .u64 a0_2,.int .i64 a0_3,.string a0_4,.int .i64 a0_5] ?_;intro gb187 hg w3 hbox hb;have BK187 := Aside0.mk (hbox);have GW187 := Aside0.mk (XR.ge hg HB.out);have GE187 := GW187;have NB700100_187 := Aside0.mk ((by rw [hg];exact Nat.ne_of_lt (blk_lt (g := g1_0) (o := .cells #[.bool a1_0,.int .u64 a1_1,.int .u64 a1_2,.int .i64 a1_3,.string a1_4,.int .i64 a1_5] 61 (0,0)) (XR.lb BK700100.out)) : g1_0 ≠ gb187));have NB187_700100 := Aside0.mk ((by rw [hg];exact Nat.ne_of_gt (blk_lt (g := g1_0) (o := .cells #[.bool a1_0,.int .u64 a1_1,.int .u64 a1_2,.int .i64 a1_3,.string a1_4,.int .i64 a1_5] 61 (0,0)) (XR.lb BK700100.out)) : gb187 ≠ g1_0));replace BK700100 := Aside0.mk (blk_below (g := g1_0) (o := .cells #[.bool a1_0,.int .u64 a1_1,.int .u64 a1_2,.int .i64 a1_3,.string a1_4,.int .i64 a1_5] 61 (0,0)) (XR.lb BK700100.out) hb);replace HB := Aside0.mk (below_step (XR.sB HB.out) hb);clear hb hbox hg;have hnb4 := NB187_700100.out;have hnc4 := NB700100_187.out;obtain ⟨Y5_0,Y5_1,Y5_2,Y5_3,Y5_4,Y5_5⟩ := XR.c6 BK187.out;obtain ⟨Z5_0,Z5_1,Z5_2,Z5_3,Z5_4,Z5_5⟩ := XR.f6 BK187.out;have Y6_0 : w3.cell? ⟨g1_0,0,none⟩ = some (.bool a1_0) := (blk_cell BK700100.out 0).trans rfl;have Y6_1 : w3.cell? ⟨g1_0,1,none⟩ = some (.int .u64 a1_1) := (blk_cell BK700100.out 1).trans rfl;have Y6_2 : w3.cell? ⟨g1_0,2,none⟩ = some (.int .u64 a1_2) := (blk_cell BK700100.out 2).trans rfl;have Y6_3 : w3.cell? ⟨g1_0,3,none⟩ = some (.int .i64 a1_3) := (blk_cell BK700100.out 3).trans rfl;have Y6_4 : w3.cell? ⟨g1_0,4,none⟩ = some (.string a1_4) := (blk_cell BK700100.out 4).trans rfl;have Y6_5 : w3.cell? ⟨g1_0,5,none⟩ = some (.int .i64 a1_5) := (blk_cell BK700100.out 5).trans rfl;obtain ⟨Z6_0,Z6_1,Z6_2,Z6_3,Z6_4,Z6_5⟩ := XR.f6 BK700100.out));go_ret;exact XR.re HB.out
set_option maxHeartbeats 8000000 in
set_option maxRecDepth 100000 in
theorem slices_IndexFunc_37.calls (k : Nat) (A0 : Option Addr) (c0 : Nat) (l0 : List (S61)) (g1_0 : Nat) (a1_0 : Bool) (a1_1 : Int) (a1_2 : Int) (a1_3 : Int) (a1_4 : ByteArray) (a1_5 : Int) (r : Int) (w : World) (hr0 : Kd.C k61 w A0 l0.length l0) (hc0 : l0.length ≤ c0) (hb1_0 : w.heap[g1_0]? = some (.cells #[.bool a1_0,.int .u64 a1_1,.int .u64 a1_2,.int .i64 a1_3,.string a1_4,.int .i64 a1_5] 61 (0,0))) (h : slices_IndexFunc_37.f k l0 a1_0 a1_1 a1_2 a1_3 a1_4 a1_5 = some r) :
  Calls Try.prog 46 #[.slice A0 l0.length c0,.func (.func 37) #[] #[.pointer (some ⟨g1_0,0,none⟩)]] w fun e w' => e = .returned (.int .i64 r) ∧ Below w.heap.size w w' := by
 have hu61 := Try.underlying61;have HR0 := Aside0.mk hr0;have HC0 := Aside0.mk hc0;clear hr0 hc0;have BK700100 := Aside0.mk hb1_0;clear hb1_0;have HB := Aside0.mk (Below.refl w.heap.size w);have H : (slices_IndexFunc_37.l0 k l0 (l0.length : Int) 0 a1_0 a1_1 a1_2 a1_3 a1_4 a1_5) = some r := h;clear h;have H' := Aside0.mk H;clear H;go_enter Try.func46,Try.ntmps46;go_wp2;go_loopg [8] k (fun kq v8 w' => ∃ (x8_1 : Int),v8 = .int .i64 x8_1 ∧ Aside0 (slices_IndexFunc_37.l0 kq l0 (l0.length : Int) x8_1 a1_0 a1_1 a1_2 a1_3 a1_4 a1_5 = some r) ∧ Aside0 (kq ≤ k) ∧ Aside0 (w'.heap[g1_0]? = some (.cells #[.bool a1_0,.int .u64 a1_1,.int .u64 a1_2,.int .i64 a1_3,.string a1_4,.int .i64 a1_5] 61 (0,0))) ∧ Aside0 (Below w.heap.size w w'))
 case atStart => exact ⟨(0),XR.rf,H',⟨Nat.le_refl _⟩,(XR.fb BK700100.out),⟨XR.sB HB.out⟩⟩
 case round =>
  clear H';(try clear p2);obtain ⟨x8_1,rfl,HA,HK1,BK700100,HB⟩ := hrel
  cases gk with
  | zero => exact absurd HA.out (by simp [slices_IndexFunc_37.l0])
  | succ k1 =>
   have H := HA.out;clear HA;simp only [slices_IndexFunc_37.l0] at H;by_cases c3 : x8_1 < (l0.length : Int)
   ·rw [if_pos c3] at H;have c3b0 := decide_eq_true c3;clear c3;by_cases c4 : 0 ≤ x8_1
    ·rw [if_pos c4] at H;have c4b0 := decide_eq_true c4;clear c4;by_cases c5 : x8_1 < (l0.length : Int)
     ·rw [if_pos c5] at H;have c5b0 := decide_eq_true c5;clear c5;replace H := Option.bind_eq_some_iff.mp H;obtain ⟨t189,A60,H⟩ := H;(try dsimp only at H);have A6 := Aside0.mk A60;clear A60;by_cases c7 : t189 = true
      ·subst c7;rw [if_pos rfl] at H;(try dsimp only at H);obtain rfl := Option.some.inj H;have p188 : 0 ≤ (x8_1 : Int) := XR.od;have q188 : x8_1 < (l0.length : Int) := XR.od;obtain ⟨ad188,e188,hx188_0,hx188_1,hx188_2,hx188_3,hx188_4,hx188_5⟩ := at_T61 (Kd.C_below HR0.out HB.out) x8_1 p188 q188
       cases e188
       replace p188 := eq_true p188;replace q188 := eq_true q188;go_wp2_with (first | (go_at_call 37;(with_reducible refine (delegate_Check_1.calls ((rd_T61 l0 x8_1).f0.f0.f0) ((rd_T61 l0 x8_1).f0.f0.f1) ((rd_T61 l0 x8_1).f0.f0.f2) ((rd_T61 l0 x8_1).f0.f1) ((rd_T61 l0 x8_1).f1) ((rd_T61 l0 x8_1).f2) g1_0 a1_0 a1_1 a1_2 a1_3 a1_4 a1_5 true _ ?side1 A6.out).mono ?_);(case side1 => (with_reducible repeat (first | refine blk_drewN ?_ _ | refine blk_drew ?_ | refine blk_alloc ?_ _));exact BK700100.out);rintro e w8 ⟨rfl,hb⟩;replace BK700100 := Aside0.mk (blk_below (g := g1_0) (o := .cells #[.bool a1_0,.int .u64 a1_1,.int .u64 a1_2,.int .i64 a1_3,.string a1_4,.int .i64 a1_5] 61 (0,0)) (XR.lb BK700100.out) hb);replace HB := Aside0.mk (below_step (XR.sB HB.out) hb);(try clear hb)));go_ret;exact XR.re HB.out
      ·replace c7 := Bool.eq_false_iff.mpr c7;subst c7;rw [if_neg (show ¬ (false = true) by decide)] at H;(try dsimp only at H);have H' := Aside0.mk H;clear H;have p188 : 0 ≤ (x8_1 : Int) := XR.od;have q188 : x8_1 < (l0.length : Int) := XR.od;obtain ⟨ad188,e188,hx188_0,hx188_1,hx188_2,hx188_3,hx188_4,hx188_5⟩ := at_T61 (Kd.C_below HR0.out HB.out) x8_1 p188 q188
       cases e188
       replace p188 := eq_true p188;replace q188 := eq_true q188;go_wp2_with (first | (go_at_call 37;(with_reducible refine (delegate_Check_1.calls ((rd_T61 l0 x8_1).f0.f0.f0) ((rd_T61 l0 x8_1).f0.f0.f1) ((rd_T61 l0 x8_1).f0.f0.f2) ((rd_T61 l0 x8_1).f0.f1) ((rd_T61 l0 x8_1).f1) ((rd_T61 l0 x8_1).f2) g1_0 a1_0 a1_1 a1_2 a1_3 a1_4 a1_5 false _ ?side1 A6.out).mono ?_);(case side1 => (with_reducible repeat (first | refine blk_drewN ?_ _ | refine blk_drew ?_ | refine blk_alloc ?_ _));exact BK700100.out);rintro e w9 ⟨rfl,hb⟩;replace BK700100 := Aside0.mk (blk_below (g := g1_0) (o := .cells #[.bool a1_0,.int .u64 a1_1,.int .u64 a1_2,.int .i64 a1_3,.string a1_4,.int .i64 a1_5] 61 (0,0)) (XR.lb BK700100.out) hb);replace HB := Aside0.mk (below_step (XR.sB HB.out) hb);(try clear hb)));go_roundg k1
       case measure => have := HK1.out;omega
       case rel => exact ⟨(wrap64 (x8_1 + 1)),XR.rf,H',⟨by have := HK1.out;omega⟩,(XR.fb BK700100.out),⟨XR.sB HB.out⟩⟩
     ·rw [if_neg c5] at H;exact absurd H (by simp)
    ·rw [if_neg c4] at H;exact absurd H (by simp)
   ·rw [if_neg c3] at H;have c3b0 := decide_eq_false c3;clear c3;obtain rfl := Option.some.inj H;go_wp2;go_ret;exact XR.re HB.out
set_option maxHeartbeats 8000000 in
set_option maxRecDepth 100000 in
theorem slices_ContainsFunc_37.calls (k : Nat) (A0 : Option Addr) (c0 : Nat) (l0 : List (S61)) (g1_0 : Nat) (a1_0 : Bool) (a1_1 : Int) (a1_2 : Int) (a1_3 : Int) (a1_4 : ByteArray) (a1_5 : Int) (r : Bool) (w : World) (hr0 : Kd.C k61 w A0 l0.length l0) (hc0 : l0.length ≤ c0) (hb1_0 : w.heap[g1_0]? = some (.cells #[.bool a1_0,.int .u64 a1_1,.int .u64 a1_2,.int .i64 a1_3,.string a1_4,.int .i64 a1_5] 61 (0,0))) (h : slices_ContainsFunc_37.f k l0 a1_0 a1_1 a1_2 a1_3 a1_4 a1_5 = some r) :
  Calls Try.prog 36 #[.slice A0 l0.length c0,.func (.func 37) #[] #[.pointer (some ⟨g1_0,0,none⟩)]] w fun e w' => e = .returned (.bool r) ∧ Below w.heap.size w w' := by
 have HR0 := Aside0.mk hr0;have HC0 := Aside0.mk hc0;clear hr0 hc0;have BK700100 := Aside0.mk hb1_0;clear hb1_0;have HB := Aside0.mk (Below.refl w.heap.size w);have H : ((slices_IndexFunc_37.f k l0 a1_0 a1_1 a1_2 a1_3 a1_4 a1_5).bind fun t190 => (some (decide (t190 ≥ 0)))) = some r := h;clear h;replace H := Option.bind_eq_some_iff.mp H;obtain ⟨t190,A30,H⟩ := H;replace H : (some (decide (t190 ≥ 0))) = some r := H;have A3 := Aside0.mk A30;clear A30;obtain rfl := Option.some.inj H;go_enter Try.func36,Try.ntmps36;go_wp2_with (first | ((with_reducible refine gate_callee (f := 46) rfl ?_);refine XR.gL 7 Try.func46 #[.slice A0 l0.length c0,.func (.func 37) #[] #[.pointer (some ⟨g1_0,0,none⟩)]] ?_;(with_reducible refine (slices_IndexFunc_37.calls k _ _ l0 g1_0 a1_0 a1_1 a1_2 a1_3 a1_4 a1_5 t190 _ ?side1 ?side2 ?side3 A3.out).mono ?_);(case side1 => repeat (first | exact HR0.out | (with_reducible refine Kd.C_alloc ?_ _) | (with_reducible refine Kd.C_drewN ?_ _) | (with_reducible refine Kd.C_drew ?_)));(case side2 => exact HC0.out);(case side3 => (with_reducible repeat (first | refine blk_drewN ?_ _ | refine blk_drew ?_ | refine blk_alloc ?_ _));exact BK700100.out);rintro e w4 ⟨rfl,hb⟩;refine ⟨_,rfl,?_⟩;replace BK700100 := Aside0.mk (blk_below (g := g1_0) (o := .cells #[.bool a1_0,.int .u64 a1_1,.int .u64 a1_2,.int .i64 a1_3,.string a1_4,.int .i64 a1_5] 61 (0,0)) (XR.lb BK700100.out) hb);replace HB := Aside0.mk (below_step (XR.sB HB.out) hb);(try clear hb)));go_ret;exact XR.re HB.out
end Go.Proofs.Ythjngcjhjnigjaa.QA
