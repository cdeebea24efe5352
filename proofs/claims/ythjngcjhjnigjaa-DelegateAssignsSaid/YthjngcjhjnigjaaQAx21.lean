import Derived.Test.YthjngcjhjnigjaaQAd1
import Derived.Test.YthjngcjhjnigjaaQAx0
import Derived.Test.YthjngcjhjnigjaaQAx2
import Derived.Test.YthjngcjhjnigjaaQAx3
import Derived.Test.YthjngcjhjnigjaaQAx18
import Derived.Test.YthjngcjhjnigjaaQAx20
namespace Go.Proofs.Ythjngcjhjnigjaa.QA
open Go.RowKit Go.Proofs.YthjngcjhjnigjaaW.PrintWords Go.Proofs.YthjngcjhjnigjaaW.PrintLast Go.Proofs.YthjngcjhjnigjaaW.PrintMore
attribute [local go_sem] max2_int min2_int max_two min_two max_three min_three max_four min_four
attribute [local go_sem high] Go.Proofs.Ythjngcjhjnigjaa.XW.cell_setCell_lit
set_option linter.unusedVariables false
set_option linter.unusedSimpArgs false
attribute [local go_sem high] eqA61 eqA70
set_option maxHeartbeats 8000000 in
set_option maxRecDepth 100000 in
theorem ddilaw43_same.calls (k : Nat) (A0 : Option Addr) (c0 : Nat) (l0 : List (S61)) (A1 : Option Addr) (c1 : Nat) (l1 : List (S70)) (r : Bool) (w : World) (hr0 : Kd.C k61 w A0 l0.length l0) (hc0 : l0.length ≤ c0) (hr1 : Kd.C k70 w A1 l1.length l1) (hc1 : l1.length ≤ c1) (h : ddilaw43_same.f k l0 l1 = some r) :
  Calls Try.prog 16 #[.slice A0 l0.length c0,.slice A1 l1.length c1] w fun e w' => e = .returned (.bool r) ∧ Drawn0 w w' := by
 have hu61 := Try.underlying61;have hu70 := Try.underlying70;have HR0 := Aside0.mk hr0;have HC0 := Aside0.mk hc0;clear hr0 hc0;have HR1 := Aside0.mk hr1;have HC1 := Aside0.mk hc1;clear hr1 hc1;have H : (if (l0.length : Int) = (l1.length : Int) then (ddilaw43_same.l0 k l0 l1 (l0.length : Int) 0) else (some false)) = some r := h;clear h;by_cases c3 : (l0.length : Int) = (l1.length : Int)
 ·rw [if_pos c3] at H;have c3b0 := beq_iff_eq.mpr c3;have c3b1 := bne_eq_false_iff_eq.mpr c3;have c3b2 : (l0.length == l1.length) = true := by first | simpa using c3 | (simp at c3 ⊢;omega)
  clear c3;have H' := Aside0.mk H;clear H;go_enter Try.func16,Try.ntmps16;go_wp2
  repeat (go_quiet (fail);try go_wp2)
  go_loopg [13] k (fun kq v13 w' => ∃ (x13_1 : Int),v13 = .int .i64 x13_1 ∧ Aside0 (ddilaw43_same.l0 kq l0 l1 (l0.length : Int) x13_1 = some r) ∧ Aside0 (kq ≤ k) ∧ Drawn0 w w')
  case atStart => exact ⟨(0),XR.rf,H',⟨Nat.le_refl _⟩,by repeat (first | exact Drawn0.refl _ | apply Drawn0.step)⟩
  case round =>
   clear H';(try clear c1);(try clear p2);(try clear c3);(try clear c3b0);(try clear c3b1);(try clear c3b2);obtain ⟨x13_1,rfl,HA,HK1,⟨m1,rfl⟩⟩ := hrel
   cases gk with
   | zero => exact absurd HA.out (by simp [ddilaw43_same.l0])
   | succ k1 =>
    have H := HA.out;clear HA;simp only [ddilaw43_same.l0] at H;by_cases c4 : x13_1 < (l0.length : Int)
    ·rw [if_pos c4] at H;have c4b0 := decide_eq_true c4;clear c4;by_cases c5 : 0 ≤ x13_1
     ·rw [if_pos c5] at H;have c5b0 := decide_eq_true c5;clear c5;by_cases c6 : x13_1 < (l0.length : Int)
      ·rw [if_pos c6] at H;have c6b0 := decide_eq_true c6;clear c6;by_cases c7 : x13_1 < (l1.length : Int)
       ·rw [if_pos c7] at H;have c7b0 := decide_eq_true c7;clear c7;by_cases c8 : (((!(((rd_T61 l0 x13_1).f0.f0.f0) == ((rd_T70 l1 x13_1).f0.f0.f0)) || (!(((rd_T61 l0 x13_1).f0.f0.f1) == ((rd_T70 l1 x13_1).f0.f0.f1)) || (!(((rd_T61 l0 x13_1).f0.f0.f2) == ((rd_T70 l1 x13_1).f0.f0.f2))))) || (!(((rd_T61 l0 x13_1).f0.f1) == ((rd_T70 l1 x13_1).f0.f1)))) || (!((((rd_T61 l0 x13_1).f1).toList) == (((rd_T70 l1 x13_1).f1).toList)) || (!(((rd_T61 l0 x13_1).f2) == ((rd_T70 l1 x13_1).f2))))) = true
        ·rw [if_pos c8] at H;have c8b0 : (((!(((rd_T61 l0 x13_1).f0.f0.f0) == ((rd_T70 l1 x13_1).f0.f0.f0)) || (!(((rd_T61 l0 x13_1).f0.f0.f1) == ((rd_T70 l1 x13_1).f0.f0.f1)) || (!(((rd_T61 l0 x13_1).f0.f0.f2) == ((rd_T70 l1 x13_1).f0.f0.f2))))) || (!(((rd_T61 l0 x13_1).f0.f1) == ((rd_T70 l1 x13_1).f0.f1)))) || (!((((rd_T61 l0 x13_1).f1).toList) == (((rd_T70 l1 x13_1).f1).toList)) || (!(((rd_T61 l0 x13_1).f2) == ((rd_T70 l1 x13_1).f2))))) = true := c8;clear c8;obtain rfl := Option.some.inj H;have p268 : 0 ≤ (x13_1 : Int) := XR.od;have q268 : x13_1 < (l0.length : Int) := XR.od;obtain ⟨ad268,e268,hx268_0,hx268_1,hx268_2,hx268_3,hx268_4,hx268_5⟩ := at_T61 HR0.out x13_1 p268 q268
         cases e268
         replace p268 := eq_true p268;replace q268 := eq_true q268;have p269 : 0 ≤ (x13_1 : Int) := XR.od;have q269 : x13_1 < (l1.length : Int) := XR.od;obtain ⟨ad269,e269,hx269_0,hx269_1,hx269_2,hx269_3,hx269_4,hx269_5⟩ := at_T70 HR1.out x13_1 p269 q269
         cases e269
         replace p269 := eq_true p269;replace q269 := eq_true q269;go_wp2
         repeat (go_quiet (fail);try go_wp2)
         go_ret;exact ⟨by first | rfl | (simp;done) | (simp [*];done),by repeat (first | exact Drawn0.refl _ | apply Drawn0.step)⟩
        ·rw [if_neg c8] at H;have c8b0 : (((!(((rd_T61 l0 x13_1).f0.f0.f0) == ((rd_T70 l1 x13_1).f0.f0.f0)) || (!(((rd_T61 l0 x13_1).f0.f0.f1) == ((rd_T70 l1 x13_1).f0.f0.f1)) || (!(((rd_T61 l0 x13_1).f0.f0.f2) == ((rd_T70 l1 x13_1).f0.f0.f2))))) || (!(((rd_T61 l0 x13_1).f0.f1) == ((rd_T70 l1 x13_1).f0.f1)))) || (!((((rd_T61 l0 x13_1).f1).toList) == (((rd_T70 l1 x13_1).f1).toList)) || (!(((rd_T61 l0 x13_1).f2) == ((rd_T70 l1 x13_1).f2))))) = false := by simpa using c8
         clear c8;have H' := Aside0.mk H;clear H;have p268 : 0 ≤ (x13_1 : Int) := XR.od;have q268 : x13_1 < (l0.length : Int) := XR.od;obtain ⟨ad268,e268,hx268_0,hx268_1,hx268_2,hx268_3,hx268_4,hx268_5⟩ := at_T61 HR0.out x13_1 p268 q268
         cases e268
         replace p268 := eq_true p268;replace q268 := eq_true q268;have p269 : 0 ≤ (x13_1 : Int) := XR.od;have q269 : x13_1 < (l1.length : Int) := XR.od;obtain ⟨ad269,e269,hx269_0,hx269_1,hx269_2,hx269_3,hx269_4,hx269_5⟩ := at_T70 HR1.out x13_1 p269 q269
         cases e269
         replace p269 := eq_true p269;replace q269 := eq_true q269;go_wp2
         repeat (go_quiet (fail);try go_wp2)
         go_roundg k1
         case measure => have := HK1.out;omega
         case rel => exact ⟨(wrap64 (x13_1 + 1)),XR.rf,H',⟨by have := HK1.out;omega⟩,by repeat (first | exact Drawn0.refl _ | apply Drawn0.step)⟩
       ·rw [if_neg c7] at H;exact absurd H (by simp)
      ·rw [if_neg c6] at H;exact absurd H (by simp)
     ·rw [if_neg c5] at H;exact absurd H (by simp)
    ·rw [if_neg c4] at H;have c4b0 := decide_eq_false c4;clear c4;obtain rfl := Option.some.inj H;go_wp2
     repeat (go_quiet (fail);try go_wp2)
     go_ret;exact ⟨by first | rfl | (simp;done) | (simp [*];done),by repeat (first | exact Drawn0.refl _ | apply Drawn0.step)⟩
 ·rw [if_neg c3] at H;have c3b0 := beq_eq_false_iff_ne.mpr c3;have c3b1 := bne_iff_ne.mpr c3;have c3b2 : (l0.length == l1.length) = false := by first | simpa using c3 | (simp at c3 ⊢;omega)
  obtain rfl := Option.some.inj H;go_enter Try.func16,Try.ntmps16;go_wp2
  repeat (go_quiet (fail);try go_wp2)
  go_ret;exact ⟨by first | rfl | (simp;done) | (simp [*];done),by repeat (first | exact Drawn0.refl _ | apply Drawn0.step)⟩
set_option maxHeartbeats 8000000 in
set_option maxRecDepth 100000 in
theorem delegate_Assign_1.calls (a0_0 : Bool) (a0_1 : Int) (a0_2 : Int) (a0_3 : Int) (a0_4 : ByteArray) (a0_5 : Int) (g1_0 : Nat) (a1_0 : ByteArray) (r : Bool) (w : World) (hb1_0 : w.heap[g1_0]? = some (.cells #[.string a1_0] 9 (0,0))) (h : delegate_Assign_1.f a0_0 a0_1 a0_2 a0_3 a0_4 a0_5 a1_0 = some r) :
  Calls Try.prog 47 #[.agg #[.bool a0_0,.int .u64 a0_1,.int .u64 a0_2,.int .i64 a0_3,.string a0_4,.int .i64 a0_5],.pointer (some ⟨g1_0,0,none⟩)] w fun e w' => e = .returned (.bool r) ∧ Below w.heap.size w w' := by
 have hu61 := Try.underlying61;have BK700100 := Aside0.mk hb1_0;clear hb1_0;have HB := Aside0.mk (Below.refl w.heap.size w);have H : (some (a0_4.toList == a1_0.toList)) = some r := h;clear h;obtain rfl := Option.some.inj H;go_enter Try.func47,Try.ntmps47;go_wp2_with (first | ((with_reducible refine gate_dst (N := 2) rfl ?_);refine XR.bx 2 61 #[.bool a0_0,.int .u64 a0_1,.int .u64 a0_2,.int .i64 a0_3,.string a0_4,.int .i64 a0_5] ?_;intro gb270 hg w3 hbox hb;have BK270 := Aside0.mk (hbox);have GW270 := Aside0.mk (XR.ge hg HB.out);have GE270 := GW270;have NB700100_270 := Aside0.mk ((by rw [hg];exact Nat.ne_of_lt (blk_lt (g := g1_0) (o := .cells #[.string a1_0] 9 (0,0)) (XR.lb BK700100.out)) : g1_0 ≠ gb270));have NB270_700100 := Aside0.mk ((by rw [hg];exact Nat.ne_of_gt (blk_lt (g := g1_0) (o := .cells #[.string a1_0] 9 (0,0)) (XR.lb BK700100.out)) : gb270 ≠ g1_0));replace BK700100 := Aside0.mk (blk_below (g := g1_0) (o := .cells #[.string a1_0] 9 (0,0)) (XR.lb BK700100.out) hb);replace HB := Aside0.mk (below_step (XR.sB HB.out) hb);clear hb hbox hg;have hnb4 := NB270_700100.out;have hnc4 := NB700100_270.out;obtain ⟨Y5_0,Y5_1,Y5_2,Y5_3,Y5_4,Y5_5⟩ := XR.c6 BK270.out;obtain ⟨Z5_0,Z5_1,Z5_2,Z5_3,Z5_4,Z5_5⟩ := XR.f6 BK270.out;have Y6_0 : w3.cell? ⟨g1_0,0,none⟩ = some (.string a1_0) := (blk_cell BK700100.out 0).trans rfl;have Z6_0 := blk_frozen BK700100.out 0));go_ret;exact XR.re HB.out
end Go.Proofs.Ythjngcjhjnigjaa.QA
