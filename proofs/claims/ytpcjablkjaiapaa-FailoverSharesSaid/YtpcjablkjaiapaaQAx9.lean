import Derived.Test.YtpcjablkjaiapaaQAd
import Derived.Test.YtpcjablkjaiapaaQAx0
import Derived.Test.YtpcjablkjaiapaaQAx8
import Derived.Test.YtpcjablkjaiapaaXS
namespace Go.Proofs.Ytpcjablkjaiapaa.QA
open Go.RowKit Go.Proofs.YtpcjablkjaiapaaW.PrintWords Go.Proofs.YtpcjablkjaiapaaW.PrintLast Go.Proofs.YtpcjablkjaiapaaW.PrintMore
attribute [local go_sem] max2_int min2_int max_two min_two max_three min_three max_four min_four   -- for this text's walks alone
attribute [local go_sem high] Go.Proofs.Ytpcjablkjaiapaa.XW.cell_setCell_lit
set_option linter.unusedVariables false
set_option linter.unusedSimpArgs false
set_option maxHeartbeats 8000000 in
set_option maxRecDepth 100000 in
theorem failover_state.calls (k : Nat) (a0_0 : Bool) (a0_1 : Int) (a0_2 : Int) (a0_3 : Int) (r : Int) (w : World) (h : failover_state.f k a0_0 a0_1 a0_2 a0_3 = some r) :
  Calls Try.prog 66 #[.agg #[.bool a0_0,.int .i64 a0_1,.int .i64 a0_2,.int .i64 a0_3]] w fun e w' => e = .returned (.int .i64 r) ∧ Below w.heap.size w w' := by
 have hu23 := Try.underlying23;have HB := Aside0.mk (Below.refl w.heap.size w);have H : (if a0_1 < 0 then (failover_state.j0 k true a0_0 a0_1 a0_2 a0_3) else (failover_state.j0 k (decide (a0_1 > 4)) a0_0 a0_1 a0_2 a0_3)) = some r := h;clear h;have HC2 := Aside0.mk H;clear H;go_enter Try.func66,Try.ntmps66;go_upto_region 1 with (first | ((with_reducible refine gate_dst (N := 1) rfl ?_);refine XR.bx 1 23 #[.bool a0_0,.int .i64 a0_1,.int .i64 a0_2,.int .i64 a0_3] ?_;intro gb150 hg w3 hbox hb;have BK150 := Aside0.mk (hbox);have GW150 := Aside0.mk (XR.ge hg HB.out);have GE150 := GW150;replace HB := Aside0.mk (XR.bB HB.out hb);clear hb hbox hg));(try simp only [Act.put,List.setIfInBounds_toArray,List.set_cons_zero,List.set_cons_succ]);go_cut [10] (fun v10 wc => ∃ (kq : Nat) (x10_1 : Bool),v10 = .bool x10_1 ∧ Aside0 (failover_state.j0 kq x10_1 a0_0 a0_1 a0_2 a0_3 = some r) ∧ Aside0 (kq ≤ k) ∧ Aside0 (wc.heap[gb150]? = some (.cells #[.bool a0_0,.int .i64 a0_1,.int .i64 a0_2,.int .i64 a0_3] 23 (0,0))) ∧ Aside0 (Below w.heap.size w wc))
 case first =>
  have H := HC2.out;clear HC2;by_cases c4 : a0_1 < 0
  ·rw [if_pos c4] at H;have c4b0 := decide_eq_true c4;clear c4;(first | rw [c4b0] | (simp only [i64_w,i32_w];rw [c4b0]) | skip);have H' := Aside0.mk H;clear H;obtain ⟨Y5_0,Y5_1,Y5_2,Y5_3⟩ := XR.c4 BK150.out;obtain ⟨Z5_0,Z5_1,Z5_2,Z5_3⟩ := XR.f4 BK150.out;go_wp2
   first | go_meet | ((refine Met.intro ?_);go_step;(try simp only [c4b0]);(repeat apply Exists.intro);refine ⟨?rel,rfl⟩)
   case rel => exact ⟨_,(true),XR.rf,(by first | exact H' | (have h_ := H';simp only [c4b0] at h_;exact h_)),XR.om,(XR.fb BK150.out),⟨XR.sB HB.out⟩⟩
  ·rw [if_neg c4] at H;have c4b0 := decide_eq_false c4;clear c4;(first | rw [c4b0] | (simp only [i64_w,i32_w];rw [c4b0]) | skip);have H' := Aside0.mk H;clear H;obtain ⟨Y6_0,Y6_1,Y6_2,Y6_3⟩ := XR.c4 BK150.out;obtain ⟨Z6_0,Z6_1,Z6_2,Z6_3⟩ := XR.f4 BK150.out;go_wp2
   first | go_meet | ((refine Met.intro ?_);go_step;(try simp only [c4b0]);(repeat apply Exists.intro);refine ⟨?rel,rfl⟩)
   case rel => exact ⟨_,(decide (a0_1 > 4)),XR.rf,(by first | exact H' | (have h_ := H';simp only [c4b0] at h_;exact h_)),XR.om,(XR.fb BK150.out),⟨XR.sB HB.out⟩⟩
 case rest =>
  clear HC2;(try clear p2);(try clear c4);(try clear c4b0);(try clear c6);(try clear Y5_0 Y5_1 Y5_2 Y5_3);(try clear Y6_0 Y6_1 Y6_2 Y6_3);(try clear Z5_0 Z5_1 Z5_2 Z5_3);(try clear Z6_0 Z6_1 Z6_2 Z6_3);obtain ⟨kq,x10_1,rfl,HA,HJ1,BK150,HB⟩ := hcut
  cases kq with
  | zero => exact absurd HA.out (by simp [failover_state.j0])
  | succ kj1 =>
   have H := HA.out;clear HA;simp only [failover_state.j0] at H;by_cases c7 : x10_1 = true
   ·subst c7;rw [if_pos rfl] at H;(try dsimp only at H);obtain rfl := Option.some.inj H;go_wp2;go_ret;exact XR.re HB.out
   ·replace c7 := Bool.eq_false_iff.mpr c7;subst c7;rw [if_neg (show ¬ (false = true) by decide)] at H;(try dsimp only at H);obtain rfl := Option.some.inj H;obtain ⟨Y8_0,Y8_1,Y8_2,Y8_3⟩ := XR.c4 BK150.out;obtain ⟨Z8_0,Z8_1,Z8_2,Z8_3⟩ := XR.f4 BK150.out;go_wp2;go_ret;exact XR.re HB.out
set_option maxHeartbeats 8000000 in
set_option maxRecDepth 100000 in
theorem failover_is.calls (k : Nat) (a0_0 : Bool) (a0_1 : Int) (a0_2 : Int) (a0_3 : Int) (A1 : Option Addr) (c1 : Nat) (l1 : List Int) (r : Bool) (w : World) (hr1 : Kd.C (Kd.int .i64) w A1 l1.length l1) (hc1 : l1.length ≤ c1) (h : failover_is.f k a0_0 a0_1 a0_2 a0_3 l1 = some r) :
  Calls Try.prog 41 #[.agg #[.bool a0_0,.int .i64 a0_1,.int .i64 a0_2,.int .i64 a0_3],.slice A1 l1.length c1] w fun e w' => e = .returned (.bool r) ∧ Below w.heap.size w w' := by
 have hu23 := Try.underlying23;have HR1 := Aside0.mk hr1;have HC1 := Aside0.mk hc1;clear hr1 hc1;have HB := Aside0.mk (Below.refl w.heap.size w);have H : ((failover_state.f k a0_0 a0_1 a0_2 a0_3).bind fun t152 => ((slices_Contains.f k l1 t152).bind fun t153 => (some t153))) = some r := h;clear h;replace H := Option.bind_eq_some_iff.mp H;obtain ⟨t152,A30,H⟩ := H;replace H : ((slices_Contains.f k l1 t152).bind fun t153 => (some t153)) = some r := H;have A3 := Aside0.mk A30;clear A30;replace H := Option.bind_eq_some_iff.mp H;obtain ⟨t153,A40,H⟩ := H;replace H : (some t153) = some r := H;have A4 := Aside0.mk A40;clear A40;obtain rfl := Option.some.inj H;go_enter Try.func41,Try.ntmps41;go_wp2_with (first | ((with_reducible refine gate_dst (N := 2) rfl ?_);refine XR.bx 2 23 #[.bool a0_0,.int .i64 a0_1,.int .i64 a0_2,.int .i64 a0_3] ?_;intro gb151 hg w5 hbox hb;have BK151 := Aside0.mk (hbox);have GW151 := Aside0.mk (XR.ge hg HB.out);have GE151 := GW151;replace HB := Aside0.mk (XR.bB HB.out hb);clear hb hbox hg;obtain ⟨Y6_0,Y6_1,Y6_2,Y6_3⟩ := XR.c4 BK151.out;obtain ⟨Z6_0,Z6_1,Z6_2,Z6_3⟩ := XR.f4 BK151.out) | ((with_reducible refine gate_callee (f := 66) rfl ?_);refine XR.gL 7 Try.func66 #[.agg #[.bool a0_0,.int .i64 a0_1,.int .i64 a0_2,.int .i64 a0_3]] ?_;(with_reducible refine (failover_state.calls k a0_0 a0_1 a0_2 a0_3 t152 _ A3.out).mono ?_);rintro e w7 ⟨rfl,hb⟩;refine ⟨_,rfl,?_⟩;replace BK151 := Aside0.mk (XR.bb BK151.out hb);replace HB := Aside0.mk (below_step (XR.sB HB.out) hb);(try clear hb)) | ((with_reducible refine gate_callee (f := 65) rfl ?_);refine XR.gL 8 Try.func65 #[.slice A1 l1.length c1,.int .i64 t152] ?_;(with_reducible refine (slices_Contains.calls k _ _ l1 t152 t153 _ ?side1 ?side2 A4.out).mono ?_);(case side1 => exact XR.lC (Kd.C_below HR1.out HB.out));(case side2 => exact HC1.out);rintro e w' ⟨rfl,⟨nd,rfl⟩⟩;refine ⟨_,rfl,?_⟩));go_ret;exact XR.re HB.out
set_option maxHeartbeats 8000000 in
set_option maxRecDepth 100000 in
theorem slices_Clone_42.calls (A0 : Option Addr) (c0 : Nat) (l0 : List (S64)) (r : List (S64)) (w : World) (hr0 : Kd.C k64 w A0 l0.length l0) (hc0 : l0.length ≤ c0) (h : slices_Clone_42.f l0 = some r) :
  Calls Try.prog 42 #[.slice A0 l0.length c0] w fun e w' => ∃ v0_ : Value,e = .returned (v0_) ∧ Kd.R k64 64 w' w.heap.size (fun _ => True) v0_ r ∧ Below w.heap.size w w' := by
 unfold slices_Clone_42.f at h
 by_cases hl : l0.length * 48 ≤ 140737488355328
 case neg => rw [if_neg hl] at h;cases h
 rw [if_pos hl] at h;obtain rfl := Option.some.inj h;clear h;have hu28 := Try.underlying29;have hnil : ∀ (a : Option Addr) n c w,(binOp .eql 29 (.slice a n c) (.slice none 0 0)).run Try.prog w = .ok (.bool a.isNone) w := fun a n c w => XS.run_eql_nil w 29 64 a n c 0 0 hu28
 cases A0 with
 | none =>
  have h0 : l0 = [] := by
   rcases Nat.eq_zero_or_pos l0.length with h | h
   ·exact List.length_eq_zero_iff.1 h
   ·obtain ⟨ad,e,_⟩ := hr0.2.2 h
    cases e
  subst h0;clear hr0 hc0 hl;go_enter Try.func42,Try.ntmps42;go_wp2;go_ret;exact ⟨.slice none 0 0,rfl,Kd.R_nil _ _ _ _ _,Below.refl _ _⟩
 | some ad =>
  have HR := Aside0.mk hr0;have HL := Aside0.mk hl;clear hr0 hl;go_enter Try.func42,Try.ntmps42;go_wp2_with (first | ((with_reducible refine gate_builtin (b := .append) (xs := #[.tmp 5,.tmp 6]) rfl ?_);at_builtin;refine Kd.R_append_rows k64 (Rr := k64.K (w.alloc (.cells #[] 64))) (w0 := w) w.heap.size rfl (.tmp 5) (.tmp 6) 29 64 (.agg #[(.bool false),(.int .u64 0),(.int .u64 0),(.bool false),(.int .u64 0),(.int .u64 0)]) 48 rfl Try.underlying29 info64 rfl (by decide) (by omega) (.slice (some ⟨w.heap.size,0,none⟩) 0 0) ([] : List (S64)) l0 _ _ _ (fun _ => True) (fun _ => False) rfl rfl ?aO ?aR (fun x cs h => by obtain rfl := k64_open h;exact k64_mkM _ _ _ x) (fun _ h => h.elim) (fun _ _ => trivial) (below_alloc (Below.refl _ _) _) ?aS ?aL ?_;(case aO => exact ⟨fun _ _ => trivial,[],World.ownsRow_made w #[] 0 (Nat.le_refl _) (by decide) rfl,Reps.none _ _⟩);(case aR => exact Kd.C_below HR.out (below_alloc (Below.refl _ _) _));(case aS => simp);(case aL => have := HL.out;simpa using this);intro v1 w1 ho hb hg hat;have HO := Aside0.mk ho;have HB := Aside0.mk hb;clear ho hb hg hat));go_ret;exact ⟨v1,rfl,HO.out,HB.out⟩
set_option maxHeartbeats 8000000 in
set_option maxRecDepth 100000 in
theorem slices_Clone_43.calls (A0 : Option Addr) (c0 : Nat) (l0 : List (S55)) (r : List (S55)) (w : World) (hr0 : Kd.C k55 w A0 l0.length l0) (hc0 : l0.length ≤ c0) (h : slices_Clone_43.f l0 = some r) :
  Calls Try.prog 43 #[.slice A0 l0.length c0] w fun e w' => ∃ v0_ : Value,e = .returned (v0_) ∧ Kd.R k55 55 w' w.heap.size (fun _ => True) v0_ r ∧ Below w.heap.size w w' := by
 unfold slices_Clone_43.f at h
 by_cases hl : l0.length * 56 ≤ 140737488355328
 case neg => rw [if_neg hl] at h;cases h
 rw [if_pos hl] at h;obtain rfl := Option.some.inj h;clear h;have hu28 := Try.underlying30;have hnil : ∀ (a : Option Addr) n c w,(binOp .eql 30 (.slice a n c) (.slice none 0 0)).run Try.prog w = .ok (.bool a.isNone) w := fun a n c w => XS.run_eql_nil w 30 55 a n c 0 0 hu28
 cases A0 with
 | none =>
  have h0 : l0 = [] := by
   rcases Nat.eq_zero_or_pos l0.length with h | h
   ·exact List.length_eq_zero_iff.1 h
   ·obtain ⟨ad,e,_⟩ := hr0.2.2 h
    cases e
  subst h0;clear hr0 hc0 hl;go_enter Try.func43,Try.ntmps43;go_wp2;go_ret;exact ⟨.slice none 0 0,rfl,Kd.R_nil _ _ _ _ _,Below.refl _ _⟩
 | some ad =>
  have HR := Aside0.mk hr0;have HL := Aside0.mk hl;clear hr0 hl;go_enter Try.func43,Try.ntmps43;go_wp2_with (first | ((with_reducible refine gate_builtin (b := .append) (xs := #[.tmp 5,.tmp 6]) rfl ?_);at_builtin;refine Kd.R_append_rows k55 (Rr := k55.K (w.alloc (.cells #[] 55))) (w0 := w) w.heap.size rfl (.tmp 5) (.tmp 6) 30 55 (.agg #[(.string ⟨#[]⟩),(.bool false),(.int .u64 0),(.int .u64 0),(.string ⟨#[]⟩)]) 56 rfl Try.underlying30 info55 rfl (by decide) (by omega) (.slice (some ⟨w.heap.size,0,none⟩) 0 0) ([] : List (S55)) l0 _ _ _ (fun _ => True) (fun _ => False) rfl rfl ?aO ?aR (fun x cs h => by obtain rfl := k55_open h;exact k55_mkM _ _ _ x) (fun _ h => h.elim) (fun _ _ => trivial) (below_alloc (Below.refl _ _) _) ?aS ?aL ?_;(case aO => exact ⟨fun _ _ => trivial,[],World.ownsRow_made w #[] 0 (Nat.le_refl _) (by decide) rfl,Reps.none _ _⟩);(case aR => exact Kd.C_below HR.out (below_alloc (Below.refl _ _) _));(case aS => simp);(case aL => have := HL.out;simpa using this);intro v1 w1 ho hb hg hat;have HO := Aside0.mk ho;have HB := Aside0.mk hb;clear ho hb hg hat));go_ret;exact ⟨v1,rfl,HO.out,HB.out⟩
end Go.Proofs.Ytpcjablkjaiapaa.QA
