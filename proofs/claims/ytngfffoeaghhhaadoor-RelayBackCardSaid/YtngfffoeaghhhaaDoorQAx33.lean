import Derived.Test.YtngfffoeaghhhaaDoorQAd
import Derived.Test.YtngfffoeaghhhaaDoorQAx0
import Derived.Test.YtngfffoeaghhhaaDoorQAx7
namespace Go.Proofs.YtngfffoeaghhhaaDoor.QA
open Go.RowKit Go.Proofs.YtngfffoeaghhhaaDoorW.PrintWords Go.Proofs.YtngfffoeaghhhaaDoorW.PrintLast Go.Proofs.YtngfffoeaghhhaaDoorW.PrintMore
attribute [local go_sem] max2_int min2_int max_two min_two max_three min_three max_four min_four   -- for this text's walks alone
attribute [local go_sem high] Go.Proofs.YtngfffoeaghhhaaDoor.XW.cell_setCell_lit
set_option linter.unusedVariables false
set_option linter.unusedSimpArgs false
set_option maxHeartbeats 8000000 in
set_option maxRecDepth 100000 in
theorem dhcp_client.calls (k : Nat) (a0 : ByteArray) (r : Bool) (w : World) (h : dhcp_client.f k a0 = some r) :
  Calls Tryd.prog 42 #[.string a0] w fun e w' => e = .returned (.bool r) ∧ Drawn0 w w' := by
 have H : (if a0.toList = ([] : List UInt8) then (dhcp_client.j0 k a0 true) else (dhcp_client.j0 k a0 (decide ((a0.size : Int) > 32)))) = some r := h;clear h;have HC2 := Aside0.mk H;clear H;go_enter Tryd.func42,Tryd.ntmps42;go_upto_region 1 with (fail);go_cut [10] (fun v10 wc => ∃ (kq : Nat) (x10_1 : Bool),v10 = .bool x10_1 ∧ Aside0 (dhcp_client.j0 kq a0 x10_1 = some r) ∧ Aside0 (kq ≤ k) ∧ Drawn0 w wc)
 case first =>
  have H := HC2.out;clear HC2;by_cases c3 : a0.toList = ([] : List UInt8)
  ·rw [if_pos c3] at H;have c3b0 := beq_iff_eq.mpr c3;have c3b1 := bne_eq_false_iff_eq.mpr c3;clear c3;(first | rw [c3b0] | (simp only [i64_w,i32_w];rw [c3b0]) | skip);have H' := Aside0.mk H;clear H;go_wp2
   first | go_meet | ((refine Met.intro ?_);go_step;(try simp only [c3b0]);(repeat apply Exists.intro);refine ⟨?rel,rfl⟩)
   case rel => exact ⟨_,(true),XR.rf,H',XR.om,by repeat (first | exact Drawn0.refl _ | apply Drawn0.step)⟩
  ·rw [if_neg c3] at H;have c3b0 := beq_eq_false_iff_ne.mpr c3;have c3b1 := bne_iff_ne.mpr c3;(first | rw [c3b0] | (simp only [i64_w,i32_w];rw [c3b0]) | skip);have H' := Aside0.mk H;clear H;go_wp2
   first | go_meet | ((refine Met.intro ?_);go_step;(try simp only [c3b0]);(repeat apply Exists.intro);refine ⟨?rel,rfl⟩)
   case rel => exact ⟨_,(decide ((a0.size : Int) > 32)),XR.rf,H',XR.om,by repeat (first | exact Drawn0.refl _ | apply Drawn0.step)⟩
 case rest =>
  clear HC2;(try clear p2);(try clear c3);(try clear c3b0);(try clear c3b1);obtain ⟨kq,x10_1,rfl,HA,HJ1,⟨mc1,rfl⟩⟩ := hcut
  cases kq with
  | zero => exact absurd HA.out (by simp [dhcp_client.j0])
  | succ kj1 =>
   have H := HA.out;clear HA;simp only [dhcp_client.j0] at H;by_cases c4 : x10_1 = true
   ·subst c4;rw [if_pos rfl] at H;(try dsimp only at H);obtain rfl := Option.some.inj H;go_wp2;go_ret;exact ⟨by first | rfl | (simp;done) | (simp [*];done),by repeat (first | exact Drawn0.refl _ | apply Drawn0.step)⟩
   ·replace c4 := Bool.eq_false_iff.mpr c4;subst c4;rw [if_neg (show ¬ (false = true) by decide)] at H;(try dsimp only at H);have H' := Aside0.mk H;clear H;go_wp2;go_loopg [13] kj1 (fun kq v13 w' => ∃ (x13_2 : Int),v13 = .int .i64 x13_2 ∧ Aside0 (dhcp_client.l0 kq a0 (a0.size : Int) x13_2 = some r) ∧ Aside0 (kq ≤ kj1) ∧ Drawn0 w w')
    case atStart => exact ⟨(0),XR.rf,H',⟨Nat.le_refl _⟩,by repeat (first | exact Drawn0.refl _ | apply Drawn0.step)⟩
    case round =>
     clear H';(try clear c1);(try clear p2);(try clear c3);(try clear c3b0);(try clear c3b1);(try clear c4);(try clear p2);obtain ⟨x13_2,rfl,HA,HK2,⟨m2,rfl⟩⟩ := hrel
     cases gk with
     | zero => exact absurd HA.out (by simp [dhcp_client.l0])
     | succ k2 =>
      have H := HA.out;clear HA;simp only [dhcp_client.l0] at H;by_cases c5 : x13_2 < (a0.size : Int)
      ·rw [if_pos c5] at H;have c5b0 := decide_eq_true c5;clear c5;have HC6 := Aside0.mk H;clear H;go_upto_region 6 with (fail);go_cut [25] (fun v25 wc => ∃ (kq : Nat) (x25_5 : Bool),v25 = .bool x25_5 ∧ Aside0 (dhcp_client.j2 kq a0 (a0.size : Int) x13_2 x25_5 = some r) ∧ Aside0 (kq ≤ k2) ∧ Drawn0 w wc)
       case first =>
        have H := HC6.out;clear HC6;by_cases c7 : 0 ≤ x13_2
        ·rw [if_pos c7] at H;have c7b0 := decide_eq_true c7;clear c7;(first | rw [c7b0] | (simp only [i64_w,i32_w];rw [c7b0]) | skip);by_cases c8 : x13_2 < (a0.size : Int)
         ·rw [if_pos c8] at H;have c8b0 := decide_eq_true c8;clear c8;by_cases c10 : (bt a0 x13_2) < 33
          ·rw [if_pos c10] at H;have c10b0 := decide_eq_true c10;clear c10;have H' := Aside0.mk H;clear H;have p9 : 0 ≤ (x13_2 : Int) := XR.od;have q9 : x13_2 < (a0.size : Int) := XR.od;have hx9 := bt_at a0 x13_2;replace p9 := eq_true p9;replace q9 := eq_true q9;go_wp2
           first | go_meet | ((refine Met.intro ?_);go_step;(try simp only [c5b0,c7b0,c8b0,c10b0]);(repeat apply Exists.intro);refine ⟨?rel,rfl⟩)
           case rel => exact ⟨_,(true),XR.rf,(by first | exact H' | (have h_ := H';simp only [c5b0,c7b0,c8b0,c10b0] at h_;exact h_)),⟨by have := HJ1.out;have := HK2.out;first | omega | exact Nat.le_refl _⟩,by repeat (first | exact Drawn0.refl _ | apply Drawn0.step)⟩
          ·rw [if_neg c10] at H;have c10b0 := decide_eq_false c10;clear c10;have H' := Aside0.mk H;clear H;have p9 : 0 ≤ (x13_2 : Int) := XR.od;have q9 : x13_2 < (a0.size : Int) := XR.od;have hx9 := bt_at a0 x13_2;replace p9 := eq_true p9;replace q9 := eq_true q9;have p11 : 0 ≤ (x13_2 : Int) := XR.od;have q11 : x13_2 < (a0.size : Int) := XR.od;have hx11 := bt_at a0 x13_2;replace p11 := eq_true p11;replace q11 := eq_true q11;go_wp2
           first | go_meet | ((refine Met.intro ?_);go_step;(try simp only [c5b0,c7b0,c8b0,c10b0]);(repeat apply Exists.intro);refine ⟨?rel,rfl⟩)
           case rel => exact ⟨_,(decide ((bt a0 x13_2) > 126)),XR.rf,(by first | exact H' | (have h_ := H';simp only [c5b0,c7b0,c8b0,c10b0] at h_;exact h_)),⟨by have := HJ1.out;have := HK2.out;first | omega | exact Nat.le_refl _⟩,by repeat (first | exact Drawn0.refl _ | apply Drawn0.step)⟩
         ·rw [if_neg c8] at H;exact absurd H (by simp)
        ·rw [if_neg c7] at H;exact absurd H (by simp)
       case rest =>
        clear HC6;(try clear c1);(try clear p1);(try clear q1);(try clear hx1);(try clear p2);(try clear c3);(try clear c3b0);(try clear c3b1);(try clear c4);(try clear c5);(try clear c5b0);(try clear c7);(try clear c7b0);(try clear c8);(try clear c8b0);(try clear p9);(try clear q9);(try clear hx9);(try clear c10);(try clear c10b0);(try clear p11);(try clear q11);(try clear hx11);(try clear p11);(try clear p2);(try clear p9);(try clear q11);(try clear q9);obtain ⟨kq,x25_5,rfl,HA,HJ5,⟨mc5,rfl⟩⟩ := hcut
        cases kq with
        | zero => exact absurd HA.out (by simp [dhcp_client.j2])
        | succ kj5 =>
         have H := HA.out;clear HA;simp only [dhcp_client.j2] at H;by_cases c12 : x25_5 = true
         ·subst c12;rw [if_pos rfl] at H;(try dsimp only at H);obtain rfl := Option.some.inj H;go_wp2;go_ret;exact ⟨by first | rfl | (simp;done) | (simp [*];done),by repeat (first | exact Drawn0.refl _ | apply Drawn0.step)⟩
         ·replace c12 := Bool.eq_false_iff.mpr c12;subst c12;rw [if_neg (show ¬ (false = true) by decide)] at H;(try dsimp only at H);have H' := Aside0.mk H;clear H;go_wp2;go_roundg kj5
          case measure => have := HJ1.out;have := HK2.out;have := HJ5.out;omega
          case rel => exact ⟨(wrap64 (x13_2 + 1)),XR.rf,H',⟨by have := HJ1.out;have := HK2.out;have := HJ5.out;omega⟩,by repeat (first | exact Drawn0.refl _ | apply Drawn0.step)⟩
      ·rw [if_neg c5] at H;have c5b0 := decide_eq_false c5;clear c5;obtain rfl := Option.some.inj H;go_wp2;go_ret;exact ⟨by first | rfl | (simp;done) | (simp [*];done),by repeat (first | exact Drawn0.refl _ | apply Drawn0.step)⟩
set_option maxHeartbeats 8000000 in
set_option maxRecDepth 100000 in
theorem dhcp_ipv4.calls (a0_0 : Bool) (a0_1 : Int) (a0_2 : Int) (r : Bool) (w : World) (h : dhcp_ipv4.f a0_0 a0_1 a0_2 = some r) :
  Calls Tryd.prog 43 #[.agg #[.bool a0_0,.int .u64 a0_1,.int .u64 a0_2]] w fun e w' => e = .returned (.bool r) ∧ Below w.heap.size w w' := by
 have hu24 := Tryd.underlying24;have HB := Aside0.mk (Below.refl w.heap.size w);have H : (if a0_0 = true then (some false) else ((addr_Valid.f a0_0 a0_1 a0_2).bind fun t503 => (some t503))) = some r := h;clear h;by_cases c2 : a0_0 = true
 ·subst c2;rw [if_pos rfl] at H;(try dsimp only at H);obtain rfl := Option.some.inj H;go_enter Tryd.func43,Tryd.ntmps43;go_wp2_with (first | ((with_reducible refine gate_dst (N := 1) rfl ?_);refine XR.bx 1 24 #[.bool true,.int .u64 a0_1,.int .u64 a0_2] ?_;intro gb502 hg w3 hbox hb;have BK502 := Aside0.mk (hbox);have GW502 := Aside0.mk (XR.ge hg HB.out);have GE502 := GW502;replace HB := Aside0.mk (XR.bB HB.out hb);clear hb hbox hg;obtain ⟨Y4_0,Y4_1,Y4_2⟩ := XR.c3 BK502.out;obtain ⟨Z4_0,Z4_1,Z4_2⟩ := XR.f3 BK502.out));go_ret;exact XR.re HB.out
 ·replace c2 := Bool.eq_false_iff.mpr c2;subst c2;rw [if_neg (show ¬ (false = true) by decide)] at H;(try dsimp only at H);replace H := Option.bind_eq_some_iff.mp H;obtain ⟨t503,A50,H⟩ := H;replace H : (some t503) = some r := H;have A5 := Aside0.mk A50;clear A50;obtain rfl := Option.some.inj H;go_enter Tryd.func43,Tryd.ntmps43;go_wp2_with (first | ((with_reducible refine gate_dst (N := 1) rfl ?_);refine XR.bx 1 24 #[.bool false,.int .u64 a0_1,.int .u64 a0_2] ?_;intro gb502 hg w6 hbox hb;have BK502 := Aside0.mk (hbox);have GW502 := Aside0.mk (XR.ge hg HB.out);have GE502 := GW502;replace HB := Aside0.mk (XR.bB HB.out hb);clear hb hbox hg;obtain ⟨Y7_0,Y7_1,Y7_2⟩ := XR.c3 BK502.out;obtain ⟨Z7_0,Z7_1,Z7_2⟩ := XR.f3 BK502.out) | (go_at_call 27;(with_reducible refine (addr_Valid.calls false a0_1 a0_2 t503 _ A5.out).mono ?_);rintro e w8 ⟨rfl,hb⟩;replace BK502 := Aside0.mk (XR.bb BK502.out hb);replace HB := Aside0.mk (below_step (XR.sB HB.out) hb);(try clear hb)));go_ret;exact XR.re HB.out
end Go.Proofs.YtngfffoeaghhhaaDoor.QA
