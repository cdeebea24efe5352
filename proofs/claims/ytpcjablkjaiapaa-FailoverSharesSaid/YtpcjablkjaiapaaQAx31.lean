import Derived.Test.YtpcjablkjaiapaaQAd
import Derived.Test.YtpcjablkjaiapaaQAx0
namespace Go.Proofs.Ytpcjablkjaiapaa.QA
open Go.RowKit Go.Proofs.YtpcjablkjaiapaaW.PrintWords Go.Proofs.YtpcjablkjaiapaaW.PrintLast Go.Proofs.YtpcjablkjaiapaaW.PrintMore
attribute [local go_sem] max2_int min2_int max_two min_two max_three min_three max_four min_four   -- for this text's walks alone
attribute [local go_sem high] Go.Proofs.Ytpcjablkjaiapaa.XW.cell_setCell_lit
set_option linter.unusedVariables false
set_option linter.unusedSimpArgs false
set_option maxHeartbeats 8000000 in
set_option maxRecDepth 100000 in
theorem ddiref44_state.calls (k : Nat) (a0_0 : Bool) (a0_1 : Int) (a0_2 : Int) (a0_3 : Int) (r : Int) (w : World) (h : ddiref44_state.f k a0_0 a0_1 a0_2 a0_3 = some r) :
  Calls Try.prog 44 #[.agg #[.bool a0_0,.int .i64 a0_1,.int .i64 a0_2,.int .i64 a0_3]] w fun e w' => e = .returned (.int .i64 r) ∧ Below w.heap.size w w' := by
 have hu23 := Try.underlying23;have HB := Aside0.mk (Below.refl w.heap.size w);have H : (if a0_1 < 0 then (ddiref44_state.j0 k true a0_0 a0_1 a0_2 a0_3) else (ddiref44_state.j0 k (decide (a0_1 > 4)) a0_0 a0_1 a0_2 a0_3)) = some r := h;clear h;have HC2 := Aside0.mk H;clear H;go_enter Try.func44,Try.ntmps44;go_upto_region 1 with (first | ((with_reducible refine gate_dst (N := 1) rfl ?_);refine XR.bx 1 23 #[.bool a0_0,.int .i64 a0_1,.int .i64 a0_2,.int .i64 a0_3] ?_;intro gb440 hg w3 hbox hb;have BK440 := Aside0.mk (hbox);have GW440 := Aside0.mk (XR.ge hg HB.out);have GE440 := GW440;replace HB := Aside0.mk (XR.bB HB.out hb);clear hb hbox hg));(try simp only [Act.put,List.setIfInBounds_toArray,List.set_cons_zero,List.set_cons_succ]);go_cut [10] (fun v10 wc => ∃ (kq : Nat) (x10_1 : Bool),v10 = .bool x10_1 ∧ Aside0 (ddiref44_state.j0 kq x10_1 a0_0 a0_1 a0_2 a0_3 = some r) ∧ Aside0 (kq ≤ k) ∧ Aside0 (wc.heap[gb440]? = some (.cells #[.bool a0_0,.int .i64 a0_1,.int .i64 a0_2,.int .i64 a0_3] 23 (0,0))) ∧ Aside0 (Below w.heap.size w wc))
 case first =>
  have H := HC2.out;clear HC2;by_cases c4 : a0_1 < 0
  ·rw [if_pos c4] at H;have c4b0 := decide_eq_true c4;clear c4;(first | rw [c4b0] | (simp only [i64_w,i32_w];rw [c4b0]) | skip);have H' := Aside0.mk H;clear H;obtain ⟨Y5_0,Y5_1,Y5_2,Y5_3⟩ := XR.c4 BK440.out;obtain ⟨Z5_0,Z5_1,Z5_2,Z5_3⟩ := XR.f4 BK440.out;go_wp2
   first | go_meet | ((refine Met.intro ?_);go_step;(try simp only [c4b0]);(repeat apply Exists.intro);refine ⟨?rel,rfl⟩)
   case rel => exact ⟨_,(true),XR.rf,(by first | exact H' | (have h_ := H';simp only [c4b0] at h_;exact h_)),XR.om,(XR.fb BK440.out),⟨XR.sB HB.out⟩⟩
  ·rw [if_neg c4] at H;have c4b0 := decide_eq_false c4;clear c4;(first | rw [c4b0] | (simp only [i64_w,i32_w];rw [c4b0]) | skip);have H' := Aside0.mk H;clear H;obtain ⟨Y6_0,Y6_1,Y6_2,Y6_3⟩ := XR.c4 BK440.out;obtain ⟨Z6_0,Z6_1,Z6_2,Z6_3⟩ := XR.f4 BK440.out;go_wp2
   first | go_meet | ((refine Met.intro ?_);go_step;(try simp only [c4b0]);(repeat apply Exists.intro);refine ⟨?rel,rfl⟩)
   case rel => exact ⟨_,(decide (a0_1 > 4)),XR.rf,(by first | exact H' | (have h_ := H';simp only [c4b0] at h_;exact h_)),XR.om,(XR.fb BK440.out),⟨XR.sB HB.out⟩⟩
 case rest =>
  clear HC2;(try clear p2);(try clear c4);(try clear c4b0);(try clear Y5_0 Y5_1 Y5_2 Y5_3);(try clear Y6_0 Y6_1 Y6_2 Y6_3);(try clear Z5_0 Z5_1 Z5_2 Z5_3);(try clear Z6_0 Z6_1 Z6_2 Z6_3);obtain ⟨kq,x10_1,rfl,HA,HJ1,BK440,HB⟩ := hcut
  cases kq with
  | zero => exact absurd HA.out (by simp [ddiref44_state.j0])
  | succ kj1 =>
   have H := HA.out;clear HA;simp only [ddiref44_state.j0] at H;by_cases c7 : x10_1 = true
   ·subst c7;rw [if_pos rfl] at H;(try dsimp only at H);obtain rfl := Option.some.inj H;go_wp2;go_ret;exact XR.re HB.out
   ·replace c7 := Bool.eq_false_iff.mpr c7;subst c7;rw [if_neg (show ¬ (false = true) by decide)] at H;(try dsimp only at H);obtain rfl := Option.some.inj H;obtain ⟨Y8_0,Y8_1,Y8_2,Y8_3⟩ := XR.c4 BK440.out;obtain ⟨Z8_0,Z8_1,Z8_2,Z8_3⟩ := XR.f4 BK440.out;go_wp2;go_ret;exact XR.re HB.out
end Go.Proofs.Ytpcjablkjaiapaa.QA
