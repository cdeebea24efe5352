import Derived.Test.YthjngcjhjnigjaaQAd1
import Derived.Test.YthjngcjhjnigjaaQAx0
import Derived.Test.YthjngcjhjnigjaaQAx6
namespace Go.Proofs.Ythjngcjhjnigjaa.QA
open Go.RowKit Go.Proofs.YthjngcjhjnigjaaW.PrintWords Go.Proofs.YthjngcjhjnigjaaW.PrintLast Go.Proofs.YthjngcjhjnigjaaW.PrintMore
attribute [local go_sem] max2_int min2_int max_two min_two max_three min_three max_four min_four
attribute [local go_sem high] Go.Proofs.Ythjngcjhjnigjaa.XW.cell_setCell_lit
set_option linter.unusedVariables false
set_option linter.unusedSimpArgs false
set_option maxHeartbeats 8000000 in
set_option maxRecDepth 100000 in
theorem delegate_Route.calls (k : Nat) (A0 : Option Addr) (c0 : Nat) (l0 : List (S61)) (a1_0 : Bool) (a1_1 : Int) (a1_2 : Int) (a2 : Int) (r1 : ByteArray) (r2 : Bool) (w : World) (hr0 : Kd.C k61 w A0 l0.length l0) (hc0 : l0.length ≤ c0) (h : delegate_Route.f k l0 a1_0 a1_1 a1_2 a2 = some (r1,r2)) :
  Calls Try.prog 10 #[.slice A0 l0.length c0,.agg #[.bool a1_0,.int .u64 a1_1,.int .u64 a1_2],.int .i64 a2] w fun e w' => e = .returned (.tuple #[.string r1,.bool r2]) ∧ Below w.heap.size w w' := by
 have hu24 := Try.underlying24;have hu61 := Try.underlying61;have hu26 := Try.underlying26;have HR0 := Aside0.mk hr0;have HC0 := Aside0.mk hc0;clear hr0 hc0;have HB := Aside0.mk (Below.refl w.heap.size w);have H : (delegate_Route.l0 k a2 l0 (l0.length : Int) 0 a1_0 a1_1 a1_2) = some (r1,r2) := h;clear h;have H' := Aside0.mk H;clear H;go_enter Try.func10,Try.ntmps10;go_wp2_with (first | ((with_reducible refine gate_dst (N := 4) rfl ?_);refine XR.bx 4 24 #[.bool a1_0,.int .u64 a1_1,.int .u64 a1_2] ?_;intro gb136 hg w4 hbox hb;have BK136 := Aside0.mk (hbox);have GW136 := Aside0.mk (XR.ge hg HB.out);have GE136 := GW136;replace HB := Aside0.mk (XR.bB HB.out hb);clear hb hbox hg));go_loopg [12] k (fun kq v12 w' => ∃ (x12_1 : Int),v12 = .int .i64 x12_1 ∧ Aside0 (delegate_Route.l0 kq a2 l0 (l0.length : Int) x12_1 a1_0 a1_1 a1_2 = some (r1,r2)) ∧ Aside0 (kq ≤ k) ∧ Aside0 (w'.heap[gb136]? = some (.cells #[.bool a1_0,.int .u64 a1_1,.int .u64 a1_2] 24 (0,0))) ∧ Aside0 (Below w.heap.size w w'))
 case atStart => exact ⟨(0),XR.rf,H',⟨Nat.le_refl _⟩,(XR.fb BK136.out),⟨XR.sB HB.out⟩⟩
 case round =>
  clear H';(try clear c1);(try clear p2);obtain ⟨x12_1,rfl,HA,HK1,BK136,HB⟩ := hrel
  cases gk with
  | zero => exact absurd HA.out (by simp [delegate_Route.l0])
  | succ k1 =>
   have H := HA.out;clear HA;simp only [delegate_Route.l0] at H;by_cases c5 : x12_1 < (l0.length : Int)
   ·rw [if_pos c5] at H;have c5b0 := decide_eq_true c5;clear c5;by_cases c6 : 0 ≤ x12_1
    ·rw [if_pos c6] at H;have c6b0 := decide_eq_true c6;clear c6;by_cases c7 : x12_1 < (l0.length : Int)
     ·rw [if_pos c7] at H;have c7b0 := decide_eq_true c7;clear c7;have HC8 := Aside0.mk H;clear H;have p137 : 0 ≤ (x12_1 : Int) := XR.od;have q137 : x12_1 < (l0.length : Int) := XR.od;obtain ⟨ad137,e137,hx137_0,hx137_1,hx137_2,hx137_3,hx137_4,hx137_5⟩ := at_T61 (Kd.C_below HR0.out HB.out) x12_1 p137 q137
      cases e137
      replace p137 := eq_true p137;replace q137 := eq_true q137;go_upto_region 4 with (first | ((with_reducible refine gate_dst (N := 9) rfl ?_);refine XR.bx 9 61 #[.bool false,.int .u64 0,.int .u64 0,.int .i64 0,.string (⟨#[]⟩ : ByteArray),.int .i64 0] ?_;intro gb138 hg w9 hbox hb;have BK138 := Aside0.mk (hbox);have GW138 := Aside0.mk (XR.ge hg HB.out);have GE138 := GW138;have NB136_138 := Aside0.mk (XR.ne hg BK136.out);have NB138_136 := Aside0.mk (XR.en hg BK136.out);replace BK136 := Aside0.mk (XR.bb BK136.out hb);replace HB := Aside0.mk (below_step (XR.sB HB.out) hb);clear hb hbox hg;have hnb10 := NB138_136.out;have hnc10 := NB136_138.out;obtain ⟨Y11_0,Y11_1,Y11_2,Y11_3,Y11_4,Y11_5⟩ := XR.c6 BK138.out;obtain ⟨Z11_0,Z11_1,Z11_2,Z11_3,Z11_4,Z11_5⟩ := XR.f6 BK138.out));(try simp only [Act.put,List.setIfInBounds_toArray,List.set_cons_zero,List.set_cons_succ]);go_cut [25] (fun v25 wc => ∃ (kq : Nat) (x25_7 : Bool),v25 = .bool x25_7 ∧ Aside0 (delegate_Route.j1 kq a2 l0 (l0.length : Int) x12_1 x25_7 a1_0 a1_1 a1_2 ((rd_T61 l0 x12_1).f0.f0.f0) ((rd_T61 l0 x12_1).f0.f0.f1) ((rd_T61 l0 x12_1).f0.f0.f2) ((rd_T61 l0 x12_1).f0.f1) ((rd_T61 l0 x12_1).f1) ((rd_T61 l0 x12_1).f2) = some (r1,r2)) ∧ Aside0 (kq ≤ k1) ∧ Aside0 (wc.heap[gb136]? = some (.cells #[.bool a1_0,.int .u64 a1_1,.int .u64 a1_2] 24 (0,0))) ∧ Aside0 (wc.heap[gb138]? = some (.cells #[.bool ((rd_T61 l0 x12_1).f0.f0.f0),.int .u64 ((rd_T61 l0 x12_1).f0.f0.f1),.int .u64 ((rd_T61 l0 x12_1).f0.f0.f2),.int .i64 ((rd_T61 l0 x12_1).f0.f1),.string ((rd_T61 l0 x12_1).f1),.int .i64 ((rd_T61 l0 x12_1).f2)] 61 (0,0))) ∧ Aside0 (Below w.heap.size w wc))
      case first =>
       have H := HC8.out;clear HC8;by_cases c12 : a2 < ((rd_T61 l0 x12_1).f2)
       ·rw [if_pos c12] at H;have c12b0 := decide_eq_true c12;clear c12;(first | rw [c12b0] | (simp only [i64_w,i32_w];rw [c12b0]) | skip);replace H := Option.bind_eq_some_iff.mp H;obtain ⟨t139,A130,H⟩ := H;(try dsimp only at H);have A13 := Aside0.mk A130;clear A130;have H' := Aside0.mk H;clear H;have hnb14 := NB138_136.out;have hnc14 := NB136_138.out;obtain ⟨Y15_0,Y15_1,Y15_2,Y15_3,Y15_4,Y15_5⟩ := XR.c6 BK138.out;obtain ⟨Z15_0,Z15_1,Z15_2,Z15_3,Z15_4,Z15_5⟩ := XR.f6 BK138.out;obtain ⟨Y16_0,Y16_1,Y16_2⟩ := XR.c3 BK136.out;obtain ⟨Z16_0,Z16_1,Z16_2⟩ := XR.f3 BK136.out;go_wp2_with (first | (go_at_call 30;(with_reducible refine (prefix_Contains.calls k1 ((rd_T61 l0 x12_1).f0.f0.f0) ((rd_T61 l0 x12_1).f0.f0.f1) ((rd_T61 l0 x12_1).f0.f0.f2) ((rd_T61 l0 x12_1).f0.f1) a1_0 a1_1 a1_2 t139 _ A13.out).mono ?_);rintro e w17 ⟨rfl,hb⟩;replace BK136 := Aside0.mk (blk_below (g := gb136) (o := .cells #[.bool a1_0,.int .u64 a1_1,.int .u64 a1_2] 24 (0,0)) (by (with_reducible repeat (first | refine blk_far ?_ NB136_138.out _ | refine blk_drewN ?_ _ | refine blk_drew ?_ | refine blk_alloc ?_ _));exact BK136.out) hb);replace BK138 := Aside0.mk (blk_below (g := gb138) (o := .cells #[.bool ((rd_T61 l0 x12_1).f0.f0.f0),.int .u64 ((rd_T61 l0 x12_1).f0.f0.f1),.int .u64 ((rd_T61 l0 x12_1).f0.f0.f2),.int .i64 ((rd_T61 l0 x12_1).f0.f1),.string ((rd_T61 l0 x12_1).f1),.int .i64 ((rd_T61 l0 x12_1).f2)] 61 (0,0)) (by first | exact XR.lb (XR.p6 BK138.out) | exact XR.p6 (XR.lb BK138.out)) hb);replace HB := Aside0.mk (below_step (XR.sB HB.out) hb);(try clear hb)))
        first | go_meet | ((refine Met.intro ?_);go_step;(try simp only [c5b0,c6b0,c7b0,c12b0]);(repeat apply Exists.intro);refine ⟨?rel,rfl⟩)
        case rel => exact ⟨_,(t139),XR.rf,(by first | exact H' | (have h_ := H';simp only [c5b0,c6b0,c7b0,c12b0] at h_;exact h_)),(XR.ok HK1.out),(XR.fb BK136.out),(XR.fb BK138.out),⟨XR.sB HB.out⟩⟩
       ·rw [if_neg c12] at H;have c12b0 := decide_eq_false c12;clear c12;(first | rw [c12b0] | (simp only [i64_w,i32_w];rw [c12b0]) | skip);have H' := Aside0.mk H;clear H;have hnb18 := NB138_136.out;have hnc18 := NB136_138.out;obtain ⟨Y19_0,Y19_1,Y19_2,Y19_3,Y19_4,Y19_5⟩ := XR.c6 BK138.out;obtain ⟨Z19_0,Z19_1,Z19_2,Z19_3,Z19_4,Z19_5⟩ := XR.f6 BK138.out;go_wp2
        first | go_meet | ((refine Met.intro ?_);go_step;(try simp only [c5b0,c6b0,c7b0,c12b0]);(repeat apply Exists.intro);refine ⟨?rel,rfl⟩)
        case rel => exact ⟨_,(false),XR.rf,(by first | exact H' | (have h_ := H';simp only [c5b0,c6b0,c7b0,c12b0] at h_;exact h_)),(XR.ok HK1.out),(XR.fb BK136.out),⟨by first | exact XR.lb (XR.p6 BK138.out) | exact XR.p6 (XR.lb BK138.out)⟩,⟨XR.sB HB.out⟩⟩
      case rest =>
       clear HC8;(try clear c1);(try clear p1);(try clear q1);(try clear hx1);(try clear p2);(try clear c5);(try clear c5b0);(try clear c6);(try clear c6b0);(try clear c7);(try clear c7b0);(try clear c10);(try clear c12);(try clear c12b0);(try clear p13);(try clear q13);(try clear hx13);(try clear c14);(try clear c18);(try clear Y11_0 Y11_1 Y11_2 Y11_3 Y11_4 Y11_5);(try clear Y15_0 Y15_1 Y15_2 Y15_3 Y15_4 Y15_5);(try clear Y16_0 Y16_1 Y16_2);(try clear Y19_0 Y19_1 Y19_2 Y19_3 Y19_4 Y19_5);(try clear Z11_0 Z11_1 Z11_2 Z11_3 Z11_4 Z11_5);(try clear Z15_0 Z15_1 Z15_2 Z15_3 Z15_4 Z15_5);(try clear Z16_0 Z16_1 Z16_2);(try clear Z19_0 Z19_1 Z19_2 Z19_3 Z19_4 Z19_5);(try clear hx137_0);(try clear hx137_1);(try clear hx137_2);(try clear hx137_3);(try clear hx137_4);(try clear hx137_5);(try clear p137);(try clear p2);(try clear q137);obtain ⟨kq,x25_7,rfl,HA,HJ7,BK136,BK138,HB⟩ := hcut
       cases kq with
       | zero => exact absurd HA.out (by simp [delegate_Route.j1])
       | succ kj7 =>
        have H := HA.out;clear HA;simp only [delegate_Route.j1] at H;by_cases c20 : x25_7 = true
        ·subst c20;rw [if_pos rfl] at H;(try dsimp only at H);simp only [Option.some.injEq,Prod.mk.injEq] at H;obtain ⟨rfl,rfl⟩ := H;have hnb21 := NB138_136.out;have hnc21 := NB136_138.out;obtain ⟨Y22_0,Y22_1,Y22_2,Y22_3,Y22_4,Y22_5⟩ := XR.c6 BK138.out;obtain ⟨Z22_0,Z22_1,Z22_2,Z22_3,Z22_4,Z22_5⟩ := XR.f6 BK138.out;go_wp2;go_ret2;exact XR.re HB.out
        ·replace c20 := Bool.eq_false_iff.mpr c20;subst c20;rw [if_neg (show ¬ (false = true) by decide)] at H;(try dsimp only at H);have H' := Aside0.mk H;clear H;go_wp2;go_roundg kj7
         case measure => have := HK1.out;have := HJ7.out;omega
         case rel => exact ⟨(wrap64 (x12_1 + 1)),XR.rf,H',⟨by have := HK1.out;have := HJ7.out;omega⟩,(XR.fb BK136.out),⟨XR.sB HB.out⟩⟩
     ·rw [if_neg c7] at H;exact absurd H (by simp)
    ·rw [if_neg c6] at H;exact absurd H (by simp)
   ·rw [if_neg c5] at H;have c5b0 := decide_eq_false c5;clear c5;simp only [Option.some.injEq,Prod.mk.injEq] at H;obtain ⟨rfl,rfl⟩ := H;go_wp2;go_ret2;exact XR.re HB.out
end Go.Proofs.Ythjngcjhjnigjaa.QA
