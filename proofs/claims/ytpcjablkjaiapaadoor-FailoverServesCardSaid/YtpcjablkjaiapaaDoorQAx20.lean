import Derived.Test.YtpcjablkjaiapaaDoorQAd2
import Derived.Test.YtpcjablkjaiapaaDoorQAx0
namespace Go.Proofs.YtpcjablkjaiapaaDoor.QA
open Go.RowKit Go.Proofs.YtpcjablkjaiapaaDoorW.PrintWords Go.Proofs.YtpcjablkjaiapaaDoorW.PrintLast Go.Proofs.YtpcjablkjaiapaaDoorW.PrintMore
attribute [local go_sem] max2_int min2_int max_two min_two max_three min_three max_four min_four   -- for this text's walks alone
attribute [local go_sem high] Go.Proofs.YtpcjablkjaiapaaDoor.XW.cell_setCell_lit
set_option linter.unusedVariables false
set_option linter.unusedSimpArgs false
set_option maxHeartbeats 8000000 in
set_option maxRecDepth 100000 in
theorem failover_state.calls (k : Nat) (a0_0 : Bool) (a0_1 : Int) (a0_2 : Int) (a0_3 : Int) (r : Int) (w : World) (h : failover_state.f k a0_0 a0_1 a0_2 a0_3 = some r) :
  Calls Tryd.prog 33 #[.agg #[.bool a0_0,.int .i64 a0_1,.int .i64 a0_2,.int .i64 a0_3]] w fun e w' => e = .returned (.int .i64 r) ∧ Below w.heap.size w w' := by
 have hu37 := Tryd.underlying37;have HB := Aside0.mk (Below.refl w.heap.size w);have H : (if a0_1 < 0 then (failover_state.j0 k true a0_0 a0_1 a0_2 a0_3) else (failover_state.j0 k (decide (a0_1 > 4)) a0_0 a0_1 a0_2 a0_3)) = some r := h;clear h;have HC2 := Aside0.mk H;clear H;go_enter Tryd.func33,Tryd.ntmps33;go_upto_region 1 with (first | ((with_reducible refine gate_dst (N := 1) rfl ?_);refine XR.bx 1 37 #[.bool a0_0,.int .i64 a0_1,.int .i64 a0_2,.int .i64 a0_3] ?_;intro gb256 hg w3 hbox hb;have BK256 := Aside0.mk (hbox);have GW256 := Aside0.mk (XR.ge hg HB.out);have GE256 := GW256;replace HB := Aside0.mk (XR.bB HB.out hb);clear hb hbox hg));(try simp only [Act.put,List.setIfInBounds_toArray,List.set_cons_zero,List.set_cons_succ]);go_cut [10] (fun v10 wc => ∃ (kq : Nat) (x10_1 : Bool),v10 = .bool x10_1 ∧ Aside0 (failover_state.j0 kq x10_1 a0_0 a0_1 a0_2 a0_3 = some r) ∧ Aside0 (kq ≤ k) ∧ Aside0 (wc.heap[gb256]? = some (.cells #[.bool a0_0,.int .i64 a0_1,.int .i64 a0_2,.int .i64 a0_3] 37 (0,0))) ∧ Aside0 (Below w.heap.size w wc))
 case first =>
  have H := HC2.out;clear HC2;by_cases c4 : a0_1 < 0
  ·rw [if_pos c4] at H;have c4b0 := decide_eq_true c4;clear c4;(first | rw [c4b0] | (simp only [i64_w,i32_w];rw [c4b0]) | skip);have H' := Aside0.mk H;clear H;obtain ⟨Y5_0,Y5_1,Y5_2,Y5_3⟩ := XR.c4 BK256.out;obtain ⟨Z5_0,Z5_1,Z5_2,Z5_3⟩ := XR.f4 BK256.out;go_wp2
   first | go_meet | ((refine Met.intro ?_);go_step;(try simp only [c4b0]);(repeat apply Exists.intro);refine ⟨?rel,rfl⟩)
   case rel => exact ⟨_,(true),XR.rf,(by first | exact H' | (have h_ := H';simp only [c4b0] at h_;exact h_)),XR.om,(XR.fb BK256.out),⟨XR.sB HB.out⟩⟩
  ·rw [if_neg c4] at H;have c4b0 := decide_eq_false c4;clear c4;(first | rw [c4b0] | (simp only [i64_w,i32_w];rw [c4b0]) | skip);have H' := Aside0.mk H;clear H;obtain ⟨Y6_0,Y6_1,Y6_2,Y6_3⟩ := XR.c4 BK256.out;obtain ⟨Z6_0,Z6_1,Z6_2,Z6_3⟩ := XR.f4 BK256.out;go_wp2
   first | go_meet | ((refine Met.intro ?_);go_step;(try simp only [c4b0]);(repeat apply Exists.intro);refine ⟨?rel,rfl⟩)
   case rel => exact ⟨_,(decide (a0_1 > 4)),XR.rf,(by first | exact H' | (have h_ := H';simp only [c4b0] at h_;exact h_)),XR.om,(XR.fb BK256.out),⟨XR.sB HB.out⟩⟩
 case rest =>
  clear HC2;(try clear p2);(try clear c3);(try clear c4);(try clear c4b0);(try clear Y5_0 Y5_1 Y5_2 Y5_3);(try clear Y6_0 Y6_1 Y6_2 Y6_3);(try clear Z5_0 Z5_1 Z5_2 Z5_3);(try clear Z6_0 Z6_1 Z6_2 Z6_3);obtain ⟨kq,x10_1,rfl,HA,HJ1,BK256,HB⟩ := hcut
  cases kq with
  | zero => exact absurd HA.out (by simp [failover_state.j0])
  | succ kj1 =>
   have H := HA.out;clear HA;simp only [failover_state.j0] at H;by_cases c7 : x10_1 = true
   ·subst c7;rw [if_pos rfl] at H;(try dsimp only at H);obtain rfl := Option.some.inj H;go_wp2;go_ret;exact XR.re HB.out
   ·replace c7 := Bool.eq_false_iff.mpr c7;subst c7;rw [if_neg (show ¬ (false = true) by decide)] at H;(try dsimp only at H);obtain rfl := Option.some.inj H;obtain ⟨Y8_0,Y8_1,Y8_2,Y8_3⟩ := XR.c4 BK256.out;obtain ⟨Z8_0,Z8_1,Z8_2,Z8_3⟩ := XR.f4 BK256.out;go_wp2;go_ret;exact XR.re HB.out
set_option maxHeartbeats 8000000 in
set_option maxRecDepth 100000 in
theorem digest_Sum.calls (k : Nat) (a0 : ByteArray) (r : Int) (w : World) (h : digest_Sum.f k a0 = some r) :
  Calls Tryd.prog 34 #[.string a0] w fun e w' => e = .returned (.int .u64 r) ∧ Drawn0 w w' := by
 have H : (digest_Sum.l0 k a0 14695981039346656037 0) = some r := h;clear h;have H' := Aside0.mk H;clear H;go_enter Tryd.func34,Tryd.ntmps34;go_wp2;go_loopg [3,4] k (fun kq v3 v4 w' => ∃ (x3_1 : Int) (x4_1 : Int),v3 = .int .u64 x3_1 ∧ v4 = .int .i64 x4_1 ∧ Aside0 (digest_Sum.l0 kq a0 x3_1 x4_1 = some r) ∧ Aside0 (kq ≤ k) ∧ Drawn0 w w')
 case atStart => exact ⟨(14695981039346656037),(0),XR.rf,XR.rf,H',⟨Nat.le_refl _⟩,by repeat (first | exact Drawn0.refl _ | apply Drawn0.step)⟩
 case round =>
  clear H';obtain ⟨x3_1,x4_1,rfl,rfl,HA,HK1,⟨m1,rfl⟩⟩ := hrel
  cases gk with
  | zero => exact absurd HA.out (by simp [digest_Sum.l0])
  | succ k1 =>
   have H := HA.out;clear HA;simp only [digest_Sum.l0] at H;by_cases c2 : x4_1 < (a0.size : Int)
   ·rw [if_pos c2] at H;have c2b0 := decide_eq_true c2;clear c2;by_cases c3 : 0 ≤ x4_1
    ·rw [if_pos c3] at H;have c3b0 := decide_eq_true c3;clear c3;have H' := Aside0.mk H;clear H;have p4 : 0 ≤ (x4_1 : Int) := XR.od;have q4 : x4_1 < (a0.size : Int) := XR.od;have hx4 := bt_at a0 x4_1;replace p4 := eq_true p4;replace q4 := eq_true q4;go_wp2;go_roundg k1
     case measure => have := HK1.out;omega
     case rel => exact ⟨(IntKind.u64.wrap ((Go.bits .xor .u64 x3_1 (IntKind.u64.wrap (bt a0 x4_1))) * 1099511628211)),(wrap64 (x4_1 + 1)),XR.rf,XR.rf,H',⟨by have := HK1.out;omega⟩,by repeat (first | exact Drawn0.refl _ | apply Drawn0.step)⟩
    ·rw [if_neg c3] at H;exact absurd H (by simp)
   ·rw [if_neg c2] at H;have c2b0 := decide_eq_false c2;clear c2;have H' := Aside0.mk H;clear H;go_wp2;go_loopg [3,18] k1 (fun kq v3 v18 w' => ∃ (x3_2 : Int) (x18_2 : Int),v3 = .int .u64 x3_2 ∧ v18 = .int .i64 x18_2 ∧ Aside0 (digest_Sum.l1 kq x3_2 x18_2 = some r) ∧ Aside0 (kq ≤ k1) ∧ Drawn0 w w')
    case atStart => exact ⟨(x3_1),(0),XR.rf,XR.rf,H',⟨Nat.le_refl _⟩,by repeat (first | exact Drawn0.refl _ | apply Drawn0.step)⟩
    case round =>
     clear H';(try clear c2);(try clear c2b0);(try clear p2);(try clear c3);(try clear c3b0);(try clear p4);(try clear q4);(try clear hx4);(try clear p4);(try clear q4);obtain ⟨x3_2,x18_2,rfl,rfl,HA,HK2,⟨m2,rfl⟩⟩ := hrel
     cases gk with
     | zero => exact absurd HA.out (by simp [digest_Sum.l1])
     | succ k2 =>
      have H := HA.out;clear HA;simp only [digest_Sum.l1] at H;by_cases c5 : x18_2 < 3
      ·rw [if_pos c5] at H;have c5b0 := decide_eq_true c5;clear c5;have H' := Aside0.mk H;clear H;go_wp2;go_roundg k2
       case measure => have := HK1.out;have := HK2.out;omega
       case rel => exact ⟨(IntKind.u64.wrap ((Go.bits .xor .u64 x3_2 (x3_2 / 4294967296)) * 11400714819323198485)),(wrap64 (x18_2 + 1)),XR.rf,XR.rf,H',⟨by have := HK1.out;have := HK2.out;omega⟩,by repeat (first | exact Drawn0.refl _ | apply Drawn0.step)⟩
      ·rw [if_neg c5] at H;have c5b0 := decide_eq_false c5;clear c5;obtain rfl := Option.some.inj H;go_wp2;go_ret;exact ⟨by first | rfl | (simp;done) | (simp [*];done),by repeat (first | exact Drawn0.refl _ | apply Drawn0.step)⟩
set_option maxHeartbeats 8000000 in
set_option maxRecDepth 100000 in
theorem failover_Serves.calls (k : Nat) (a0_0 : Bool) (a0_1 : Int) (a0_2 : Int) (a0_3 : Int) (a1 : ByteArray) (a2 : Int) (r : Bool) (w : World) (h : failover_Serves.f k a0_0 a0_1 a0_2 a0_3 a1 a2 = some r) :
  Calls Tryd.prog 11 #[.agg #[.bool a0_0,.int .i64 a0_1,.int .i64 a0_2,.int .i64 a0_3],.string a1,.int .i64 a2] w fun e w' => e = .returned (.bool r) ∧ Below w.heap.size w w' := by
 have hu37 := Tryd.underlying37;have HB := Aside0.mk (Below.refl w.heap.size w);have H : ((failover_state.f k a0_0 a0_1 a0_2 a0_3).bind fun t258 => (if t258 = 1 then ((digest_Sum.f k a1).bind fun t259 => (some (((Int.tmod t259 2) == 0) == a0_0))) else (if t258 = 2 then (failover_Serves.j0 k (t258 == 2)) else (failover_Serves.j0 k (t258 == 3))))) = some r := h;clear h;replace H := Option.bind_eq_some_iff.mp H;obtain ⟨t258,A40,H⟩ := H;(try dsimp only at H);have A4 := Aside0.mk A40;clear A40;by_cases c5 : t258 = 1
 ·rw [if_pos c5] at H;have c5b0 := beq_iff_eq.mpr c5;have c5b1 := bne_eq_false_iff_eq.mpr c5;clear c5;replace H := Option.bind_eq_some_iff.mp H;obtain ⟨t259,A60,H⟩ := H;replace H : (some (((Int.tmod t259 2) == 0) == a0_0)) = some r := H;have A6 := Aside0.mk A60;clear A60;obtain rfl := Option.some.inj H;go_enter Tryd.func11,Tryd.ntmps11;go_wp2_with (first | ((with_reducible refine gate_dst (N := 3) rfl ?_);refine XR.bx 3 37 #[.bool a0_0,.int .i64 a0_1,.int .i64 a0_2,.int .i64 a0_3] ?_;intro gb257 hg w7 hbox hb;have BK257 := Aside0.mk (hbox);have GW257 := Aside0.mk (XR.ge hg HB.out);have GE257 := GW257;replace HB := Aside0.mk (XR.bB HB.out hb);clear hb hbox hg;obtain ⟨Y8_0,Y8_1,Y8_2,Y8_3⟩ := XR.c4 BK257.out;obtain ⟨Z8_0,Z8_1,Z8_2,Z8_3⟩ := XR.f4 BK257.out) | (go_at_call 33;(with_reducible refine (failover_state.calls k a0_0 a0_1 a0_2 a0_3 t258 _ A4.out).mono ?_);rintro e w9 ⟨rfl,hb⟩;replace BK257 := Aside0.mk (XR.bb BK257.out hb);replace HB := Aside0.mk (below_step (XR.sB HB.out) hb);(try clear hb)) | (go_at_call 34;(with_reducible refine (digest_Sum.calls k a1 t259 _ A6.out).mono ?_);rintro e w' ⟨rfl,⟨nd,rfl⟩⟩;(try first | exact ⟨rfl,_,World.drewN_drewN _ _ _⟩ | exact ⟨rfl,_,Eq.trans (World.drewN_drewN _ _ _) (congrArg (World.drewN _) (Nat.add_assoc _ _ _))⟩);obtain ⟨Y10_0,Y10_1,Y10_2,Y10_3⟩ := XR.c4 BK257.out;obtain ⟨Z10_0,Z10_1,Z10_2,Z10_3⟩ := XR.f4 BK257.out))
  repeat (go_quiet (first | ((with_reducible refine gate_dst (N := 3) rfl ?_);refine XR.bx 3 37 #[.bool a0_0,.int .i64 a0_1,.int .i64 a0_2,.int .i64 a0_3] ?_;intro gb257 hg w7 hbox hb;have BK257 := Aside0.mk (hbox);have GW257 := Aside0.mk (XR.ge hg HB.out);have GE257 := GW257;replace HB := Aside0.mk (XR.bB HB.out hb);clear hb hbox hg;obtain ⟨Y8_0,Y8_1,Y8_2,Y8_3⟩ := XR.c4 BK257.out;obtain ⟨Z8_0,Z8_1,Z8_2,Z8_3⟩ := XR.f4 BK257.out) | (go_at_call 33;(with_reducible refine (failover_state.calls k a0_0 a0_1 a0_2 a0_3 t258 _ A4.out).mono ?_);rintro e w9 ⟨rfl,hb⟩;replace BK257 := Aside0.mk (XR.bb BK257.out hb);replace HB := Aside0.mk (below_step (XR.sB HB.out) hb);(try clear hb)) | (go_at_call 34;(with_reducible refine (digest_Sum.calls k a1 t259 _ A6.out).mono ?_);rintro e w' ⟨rfl,⟨nd,rfl⟩⟩;(try first | exact ⟨rfl,_,World.drewN_drewN _ _ _⟩ | exact ⟨rfl,_,Eq.trans (World.drewN_drewN _ _ _) (congrArg (World.drewN _) (Nat.add_assoc _ _ _))⟩);obtain ⟨Y10_0,Y10_1,Y10_2,Y10_3⟩ := XR.c4 BK257.out;obtain ⟨Z10_0,Z10_1,Z10_2,Z10_3⟩ := XR.f4 BK257.out));try go_wp2_with (first | ((with_reducible refine gate_dst (N := 3) rfl ?_);refine XR.bx 3 37 #[.bool a0_0,.int .i64 a0_1,.int .i64 a0_2,.int .i64 a0_3] ?_;intro gb257 hg w7 hbox hb;have BK257 := Aside0.mk (hbox);have GW257 := Aside0.mk (XR.ge hg HB.out);have GE257 := GW257;replace HB := Aside0.mk (XR.bB HB.out hb);clear hb hbox hg;obtain ⟨Y8_0,Y8_1,Y8_2,Y8_3⟩ := XR.c4 BK257.out;obtain ⟨Z8_0,Z8_1,Z8_2,Z8_3⟩ := XR.f4 BK257.out) | (go_at_call 33;(with_reducible refine (failover_state.calls k a0_0 a0_1 a0_2 a0_3 t258 _ A4.out).mono ?_);rintro e w9 ⟨rfl,hb⟩;replace BK257 := Aside0.mk (XR.bb BK257.out hb);replace HB := Aside0.mk (below_step (XR.sB HB.out) hb);(try clear hb)) | (go_at_call 34;(with_reducible refine (digest_Sum.calls k a1 t259 _ A6.out).mono ?_);rintro e w' ⟨rfl,⟨nd,rfl⟩⟩;(try first | exact ⟨rfl,_,World.drewN_drewN _ _ _⟩ | exact ⟨rfl,_,Eq.trans (World.drewN_drewN _ _ _) (congrArg (World.drewN _) (Nat.add_assoc _ _ _))⟩);obtain ⟨Y10_0,Y10_1,Y10_2,Y10_3⟩ := XR.c4 BK257.out;obtain ⟨Z10_0,Z10_1,Z10_2,Z10_3⟩ := XR.f4 BK257.out)))
  go_ret;exact XR.re HB.out
 ·rw [if_neg c5] at H;have c5b0 := beq_eq_false_iff_ne.mpr c5;have c5b1 := bne_iff_ne.mpr c5;have HC11 := Aside0.mk H;clear H;go_enter Tryd.func11,Tryd.ntmps11;go_upto_if 18 with (first | ((with_reducible refine gate_dst (N := 3) rfl ?_);refine XR.bx 3 37 #[.bool a0_0,.int .i64 a0_1,.int .i64 a0_2,.int .i64 a0_3] ?_;intro gb257 hg w12 hbox hb;have BK257 := Aside0.mk (hbox);have GW257 := Aside0.mk (XR.ge hg HB.out);have GE257 := GW257;replace HB := Aside0.mk (XR.bB HB.out hb);clear hb hbox hg;obtain ⟨Y13_0,Y13_1,Y13_2,Y13_3⟩ := XR.c4 BK257.out;obtain ⟨Z13_0,Z13_1,Z13_2,Z13_3⟩ := XR.f4 BK257.out) | (go_at_call 33;(with_reducible refine (failover_state.calls k a0_0 a0_1 a0_2 a0_3 t258 _ A4.out).mono ?_);rintro e w14 ⟨rfl,hb⟩;replace BK257 := Aside0.mk (XR.bb BK257.out hb);replace HB := Aside0.mk (below_step (XR.sB HB.out) hb);(try clear hb)))
  repeat (go_quiet (first | ((with_reducible refine gate_dst (N := 3) rfl ?_);refine XR.bx 3 37 #[.bool a0_0,.int .i64 a0_1,.int .i64 a0_2,.int .i64 a0_3] ?_;intro gb257 hg w12 hbox hb;have BK257 := Aside0.mk (hbox);have GW257 := Aside0.mk (XR.ge hg HB.out);have GE257 := GW257;replace HB := Aside0.mk (XR.bB HB.out hb);clear hb hbox hg;obtain ⟨Y13_0,Y13_1,Y13_2,Y13_3⟩ := XR.c4 BK257.out;obtain ⟨Z13_0,Z13_1,Z13_2,Z13_3⟩ := XR.f4 BK257.out) | (go_at_call 33;(with_reducible refine (failover_state.calls k a0_0 a0_1 a0_2 a0_3 t258 _ A4.out).mono ?_);rintro e w14 ⟨rfl,hb⟩;replace BK257 := Aside0.mk (XR.bb BK257.out hb);replace HB := Aside0.mk (below_step (XR.sB HB.out) hb);(try clear hb)));go_upto_if 18 with (first | ((with_reducible refine gate_dst (N := 3) rfl ?_);refine XR.bx 3 37 #[.bool a0_0,.int .i64 a0_1,.int .i64 a0_2,.int .i64 a0_3] ?_;intro gb257 hg w12 hbox hb;have BK257 := Aside0.mk (hbox);have GW257 := Aside0.mk (XR.ge hg HB.out);have GE257 := GW257;replace HB := Aside0.mk (XR.bB HB.out hb);clear hb hbox hg;obtain ⟨Y13_0,Y13_1,Y13_2,Y13_3⟩ := XR.c4 BK257.out;obtain ⟨Z13_0,Z13_1,Z13_2,Z13_3⟩ := XR.f4 BK257.out) | (go_at_call 33;(with_reducible refine (failover_state.calls k a0_0 a0_1 a0_2 a0_3 t258 _ A4.out).mono ?_);rintro e w14 ⟨rfl,hb⟩;replace BK257 := Aside0.mk (XR.bb BK257.out hb);replace HB := Aside0.mk (below_step (XR.sB HB.out) hb);(try clear hb))))
  (try simp only [Act.put,List.setIfInBounds_toArray,List.set_cons_zero,List.set_cons_succ]);go_cut [18] (fun v18 wc => ∃ (kq : Nat) (x18_10 : Bool),v18 = .bool x18_10 ∧ Aside0 (failover_Serves.j0 kq x18_10 = some r) ∧ Aside0 (kq ≤ k) ∧ Aside0 (wc.heap[gb257]? = some (.cells #[.bool a0_0,.int .i64 a0_1,.int .i64 a0_2,.int .i64 a0_3] 37 (0,0))) ∧ Aside0 (Below w.heap.size w wc))
  case first =>
   have H := HC11.out;clear HC11;by_cases c15 : t258 = 2
   ·rw [if_pos c15] at H;have c15b0 := beq_iff_eq.mpr c15;have c15b1 := bne_eq_false_iff_eq.mpr c15;clear c15;(first | rw [c15b0] | (simp only [i64_w,i32_w];rw [c15b0]) | skip);have H' := Aside0.mk H;clear H;go_wp2
    repeat (go_quiet (fail);try go_wp2)
    first | go_meet | ((refine Met.intro ?_);go_step;(try simp only [c5b0,c15b0]);(repeat apply Exists.intro);refine ⟨?rel,rfl⟩)
    case rel => exact ⟨_,((t258 == 2)),XR.rf,H',XR.om,(XR.fb BK257.out),⟨XR.sB HB.out⟩⟩
   ·rw [if_neg c15] at H;have c15b0 := beq_eq_false_iff_ne.mpr c15;have c15b1 := bne_iff_ne.mpr c15;(first | rw [c15b0] | (simp only [i64_w,i32_w];rw [c15b0]) | skip);have H' := Aside0.mk H;clear H;go_wp2
    repeat (go_quiet (fail);try go_wp2)
    first | go_meet | ((refine Met.intro ?_);go_step;(try simp only [c5b0,c15b0]);(repeat apply Exists.intro);refine ⟨?rel,rfl⟩)
    case rel => exact ⟨_,((t258 == 3)),XR.rf,H',XR.om,(XR.fb BK257.out),⟨XR.sB HB.out⟩⟩
  case rest =>
   clear HC11;(try clear c1);(try clear p2);(try clear c5);(try clear c5b0);(try clear c5b1);(try clear c11);(try clear c15);(try clear c15b0);(try clear c15b1);(try clear Y10_0 Y10_1 Y10_2 Y10_3);(try clear Y13_0 Y13_1 Y13_2 Y13_3);(try clear Y8_0 Y8_1 Y8_2 Y8_3);(try clear Z10_0 Z10_1 Z10_2 Z10_3);(try clear Z13_0 Z13_1 Z13_2 Z13_3);(try clear Z8_0 Z8_1 Z8_2 Z8_3);obtain ⟨kq,x18_10,rfl,HA,HJ10,BK257,HB⟩ := hcut
   cases kq with
   | zero => exact absurd HA.out (by simp [failover_Serves.j0])
   | succ kj10 =>
    have H := HA.out;clear HA;simp only [failover_Serves.j0] at H;by_cases c16 : x18_10 = true
    ·subst c16;rw [if_pos rfl] at H;(try dsimp only at H);obtain rfl := Option.some.inj H;go_wp2
     repeat (go_quiet (fail);try go_wp2)
     go_ret;exact XR.re HB.out
    ·replace c16 := Bool.eq_false_iff.mpr c16;subst c16;rw [if_neg (show ¬ (false = true) by decide)] at H;(try dsimp only at H);obtain rfl := Option.some.inj H;go_wp2
     repeat (go_quiet (fail);try go_wp2)
     go_ret;exact XR.re HB.out
end Go.Proofs.YtpcjablkjaiapaaDoor.QA
