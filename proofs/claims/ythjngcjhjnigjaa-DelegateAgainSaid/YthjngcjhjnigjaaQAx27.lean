import Derived.Test.YthjngcjhjnigjaaQAd1
import Derived.Test.YthjngcjhjnigjaaQAx0
import Derived.Test.YthjngcjhjnigjaaQAx25
namespace Go.Proofs.Ythjngcjhjnigjaa.QA
open Go.RowKit Go.Proofs.YthjngcjhjnigjaaW.PrintWords Go.Proofs.YthjngcjhjnigjaaW.PrintLast Go.Proofs.YthjngcjhjnigjaaW.PrintMore
attribute [local go_sem] max2_int min2_int max_two min_two max_three min_three max_four min_four
attribute [local go_sem high] Go.Proofs.Ythjngcjhjnigjaa.XW.cell_setCell_lit
set_option linter.unusedVariables false
set_option linter.unusedSimpArgs false
set_option maxHeartbeats 8000000 in
set_option maxRecDepth 100000 in
theorem slices_IndexFunc_49.calls (k : Nat) (A0 : Option Addr) (c0 : Nat) (l0 : List (S61)) (g1_0 : Nat) (a1_0 : Bool) (a1_1 : Int) (a1_2 : Int) (a1_3 : Int) (r : Int) (w : World) (hr0 : Kd.C k61 w A0 l0.length l0) (hc0 : l0.length ≤ c0) (hb1_0 : w.heap[g1_0]? = some (.cells #[.bool a1_0,.int .u64 a1_1,.int .u64 a1_2,.int .i64 a1_3] 26 (0,0))) (h : slices_IndexFunc_49.f k l0 a1_0 a1_1 a1_2 a1_3 = some r) :
  Calls Try.prog 46 #[.slice A0 l0.length c0,.func (.func 49) #[] #[.pointer (some ⟨g1_0,0,none⟩)]] w fun e w' => e = .returned (.int .i64 r) ∧ Below w.heap.size w w' := by
 have hu61 := Try.underlying61;have HR0 := Aside0.mk hr0;have HC0 := Aside0.mk hc0;clear hr0 hc0;have BK700100 := Aside0.mk hb1_0;clear hb1_0;have HB := Aside0.mk (Below.refl w.heap.size w);have H : (slices_IndexFunc_49.l0 k l0 (l0.length : Int) 0 a1_0 a1_1 a1_2 a1_3) = some r := h;clear h;have H' := Aside0.mk H;clear H;go_enter Try.func46,Try.ntmps46;go_wp2;go_loopg [8] k (fun kq v8 w' => ∃ (x8_1 : Int),v8 = .int .i64 x8_1 ∧ Aside0 (slices_IndexFunc_49.l0 kq l0 (l0.length : Int) x8_1 a1_0 a1_1 a1_2 a1_3 = some r) ∧ Aside0 (kq ≤ k) ∧ Aside0 (w'.heap[g1_0]? = some (.cells #[.bool a1_0,.int .u64 a1_1,.int .u64 a1_2,.int .i64 a1_3] 26 (0,0))) ∧ Aside0 (Below w.heap.size w w'))
 case atStart => exact ⟨(0),XR.rf,H',⟨Nat.le_refl _⟩,(XR.fb BK700100.out),⟨XR.sB HB.out⟩⟩
 case round =>
  clear H';(try clear p2);obtain ⟨x8_1,rfl,HA,HK1,BK700100,HB⟩ := hrel
  cases gk with
  | zero => exact absurd HA.out (by simp [slices_IndexFunc_49.l0])
  | succ k1 =>
   have H := HA.out;clear HA;simp only [slices_IndexFunc_49.l0] at H;by_cases c3 : x8_1 < (l0.length : Int)
   ·rw [if_pos c3] at H;have c3b0 := decide_eq_true c3;clear c3;by_cases c4 : 0 ≤ x8_1
    ·rw [if_pos c4] at H;have c4b0 := decide_eq_true c4;clear c4;by_cases c5 : x8_1 < (l0.length : Int)
     ·rw [if_pos c5] at H;have c5b0 := decide_eq_true c5;clear c5;replace H := Option.bind_eq_some_iff.mp H;obtain ⟨t310,A60,H⟩ := H;(try dsimp only at H);have A6 := Aside0.mk A60;clear A60;by_cases c7 : t310 = true
      ·subst c7;rw [if_pos rfl] at H;(try dsimp only at H);obtain rfl := Option.some.inj H;have p309 : 0 ≤ (x8_1 : Int) := XR.od;have q309 : x8_1 < (l0.length : Int) := XR.od;obtain ⟨ad309,e309,hx309_0,hx309_1,hx309_2,hx309_3,hx309_4,hx309_5⟩ := at_T61 (Kd.C_below HR0.out HB.out) x8_1 p309 q309
       cases e309
       replace p309 := eq_true p309;replace q309 := eq_true q309;go_wp2_with (first | (go_at_call 49;(with_reducible refine (delegate_Assign_2.calls k1 ((rd_T61 l0 x8_1).f0.f0.f0) ((rd_T61 l0 x8_1).f0.f0.f1) ((rd_T61 l0 x8_1).f0.f0.f2) ((rd_T61 l0 x8_1).f0.f1) ((rd_T61 l0 x8_1).f1) ((rd_T61 l0 x8_1).f2) g1_0 a1_0 a1_1 a1_2 a1_3 true _ ?side1 A6.out).mono ?_);(case side1 => (with_reducible repeat (first | refine blk_drewN ?_ _ | refine blk_drew ?_ | refine blk_alloc ?_ _));exact BK700100.out);rintro e w8 ⟨rfl,hb⟩;replace BK700100 := Aside0.mk (blk_below (g := g1_0) (o := .cells #[.bool a1_0,.int .u64 a1_1,.int .u64 a1_2,.int .i64 a1_3] 26 (0,0)) (XR.lb BK700100.out) hb);replace HB := Aside0.mk (below_step (XR.sB HB.out) hb);(try clear hb)));go_ret;exact XR.re HB.out
      ·replace c7 := Bool.eq_false_iff.mpr c7;subst c7;rw [if_neg (show ¬ (false = true) by decide)] at H;(try dsimp only at H);have H' := Aside0.mk H;clear H;have p309 : 0 ≤ (x8_1 : Int) := XR.od;have q309 : x8_1 < (l0.length : Int) := XR.od;obtain ⟨ad309,e309,hx309_0,hx309_1,hx309_2,hx309_3,hx309_4,hx309_5⟩ := at_T61 (Kd.C_below HR0.out HB.out) x8_1 p309 q309
       cases e309
       replace p309 := eq_true p309;replace q309 := eq_true q309;go_wp2_with (first | (go_at_call 49;(with_reducible refine (delegate_Assign_2.calls k1 ((rd_T61 l0 x8_1).f0.f0.f0) ((rd_T61 l0 x8_1).f0.f0.f1) ((rd_T61 l0 x8_1).f0.f0.f2) ((rd_T61 l0 x8_1).f0.f1) ((rd_T61 l0 x8_1).f1) ((rd_T61 l0 x8_1).f2) g1_0 a1_0 a1_1 a1_2 a1_3 false _ ?side1 A6.out).mono ?_);(case side1 => (with_reducible repeat (first | refine blk_drewN ?_ _ | refine blk_drew ?_ | refine blk_alloc ?_ _));exact BK700100.out);rintro e w9 ⟨rfl,hb⟩;replace BK700100 := Aside0.mk (blk_below (g := g1_0) (o := .cells #[.bool a1_0,.int .u64 a1_1,.int .u64 a1_2,.int .i64 a1_3] 26 (0,0)) (XR.lb BK700100.out) hb);replace HB := Aside0.mk (below_step (XR.sB HB.out) hb);(try clear hb)));go_roundg k1
       case measure => have := HK1.out;omega
       case rel => exact ⟨(wrap64 (x8_1 + 1)),XR.rf,H',⟨by have := HK1.out;omega⟩,(XR.fb BK700100.out),⟨XR.sB HB.out⟩⟩
     ·rw [if_neg c5] at H;exact absurd H (by simp)
    ·rw [if_neg c4] at H;exact absurd H (by simp)
   ·rw [if_neg c3] at H;have c3b0 := decide_eq_false c3;clear c3;obtain rfl := Option.some.inj H;go_wp2;go_ret;exact XR.re HB.out
end Go.Proofs.Ythjngcjhjnigjaa.QA
