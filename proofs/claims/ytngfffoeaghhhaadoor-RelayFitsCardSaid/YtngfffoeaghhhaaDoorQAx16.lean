import Derived.Test.YtngfffoeaghhhaaDoorQAd
import Derived.Test.YtngfffoeaghhhaaDoorQAx0
import Derived.Test.YtngfffoeaghhhaaDoorQAx1
import Derived.Test.YtngfffoeaghhhaaDoorQAx4
import Derived.Test.YtngfffoeaghhhaaDoorXB
import Derived.Test.YtngfffoeaghhhaaDoorXC
namespace Go.Proofs.YtngfffoeaghhhaaDoor.QA
open Go.RowKit Go.Proofs.YtngfffoeaghhhaaDoorW.PrintWords Go.Proofs.YtngfffoeaghhhaaDoorW.PrintLast Go.Proofs.YtngfffoeaghhhaaDoorW.PrintMore
attribute [local go_sem] max2_int min2_int max_two min_two max_three min_three max_four min_four
attribute [local go_sem high] Go.Proofs.YtngfffoeaghhhaaDoor.XW.cell_setCell_lit
set_option linter.unusedVariables false
set_option linter.unusedSimpArgs false
attribute [local go_sem high] eqA24
set_option maxHeartbeats 8000000 in
set_option maxRecDepth 100000 in
theorem pool_client_1.calls (a0 : Int) (r : Bool) (w : World) (h : pool_client_1.f a0 = some r) :
  Calls Tryd.prog 77 #[.int .u8 a0] w fun e w' => e = .returned (.bool r) ∧ Drawn0 w w' := by
 have H : (if a0 < 33 then (some true) else (some (decide (a0 > 126)))) = some r := h;clear h;by_cases c2 : a0 < 33
 ·rw [if_pos c2] at H;have c2b0 := decide_eq_true c2;clear c2;obtain rfl := Option.some.inj H;go_enter Tryd.func77,Tryd.ntmps77;go_wp2;go_ret;exact ⟨by first | rfl | (simp;done) | (simp [*];done),by repeat (first | exact Drawn0.refl _ | apply Drawn0.step)⟩
 ·rw [if_neg c2] at H;have c2b0 := decide_eq_false c2;clear c2;obtain rfl := Option.some.inj H;go_enter Tryd.func77,Tryd.ntmps77;go_wp2;go_ret;exact ⟨by first | rfl | (simp;done) | (simp [*];done),by repeat (first | exact Drawn0.refl _ | apply Drawn0.step)⟩
set_option maxHeartbeats 8000000 in
set_option maxRecDepth 100000 in
theorem slices_IndexFunc_77.calls (k : Nat) (A0 : Option Addr) (c0 : Nat) (l0 : List Int)  (r : Int) (w : World) (hr0 : Kd.C (Kd.int .u8) w A0 l0.length l0) (hc0 : l0.length ≤ c0) (h : slices_IndexFunc_77.f k l0 = some r) :
  Calls Tryd.prog 84 #[.slice A0 l0.length c0,.func (.func 77) #[] #[]] w fun e w' => e = .returned (.int .i64 r) ∧ Drawn0 w w' := by
 have HR0 := Aside0.mk hr0;have HC0 := Aside0.mk hc0;clear hr0 hc0;have H : (slices_IndexFunc_77.l0 k l0 (l0.length : Int) 0) = some r := h;clear h;have H' := Aside0.mk H;clear H;go_enter Tryd.func84,Tryd.ntmps84;go_wp2;go_loopg [8] k (fun kq v8 w' => ∃ (x8_1 : Int),v8 = .int .i64 x8_1 ∧ Aside0 (slices_IndexFunc_77.l0 kq l0 (l0.length : Int) x8_1 = some r) ∧ Aside0 (kq ≤ k) ∧ Drawn0 w w')
 case atStart => exact ⟨(0),XR.rf,H',⟨Nat.le_refl _⟩,by repeat (first | exact Drawn0.refl _ | apply Drawn0.step)⟩
 case round =>
  clear H';(try clear p2);obtain ⟨x8_1,rfl,HA,HK1,⟨m1,rfl⟩⟩ := hrel
  cases gk with
  | zero => exact absurd HA.out (by simp [slices_IndexFunc_77.l0])
  | succ k1 =>
   have H := HA.out;clear HA;simp only [slices_IndexFunc_77.l0] at H;by_cases c3 : x8_1 < (l0.length : Int)
   ·rw [if_pos c3] at H;have c3b0 := decide_eq_true c3;clear c3;by_cases c4 : 0 ≤ x8_1
    ·rw [if_pos c4] at H;have c4b0 := decide_eq_true c4;clear c4;by_cases c5 : x8_1 < (l0.length : Int)
     ·rw [if_pos c5] at H;have c5b0 := decide_eq_true c5;clear c5;replace H := Option.bind_eq_some_iff.mp H;obtain ⟨t225,A60,H⟩ := H;(try dsimp only at H);have A6 := Aside0.mk A60;clear A60;by_cases c7 : t225 = true
      ·subst c7;rw [if_pos rfl] at H;(try dsimp only at H);obtain rfl := Option.some.inj H;have p224 : 0 ≤ (x8_1 : Int) := XR.od;have q224 : x8_1 < (l0.length : Int) := XR.od;obtain ⟨ad224,e224,hx224_0⟩ := Kd.at_int HR0.out x8_1 p224 q224
       cases e224
       replace p224 := eq_true p224;replace q224 := eq_true q224;go_wp2_with (first | (go_at_call 77;(with_reducible refine (pool_client_1.calls (rd l0 x8_1) true _ A6.out).mono ?_);rintro e w' ⟨rfl,⟨nd,rfl⟩⟩));go_ret;exact ⟨by first | rfl | (simp;done) | (simp [*];done),by repeat (first | exact Drawn0.refl _ | apply Drawn0.step)⟩
      ·replace c7 := Bool.eq_false_iff.mpr c7;subst c7;rw [if_neg (show ¬ (false = true) by decide)] at H;(try dsimp only at H);have H' := Aside0.mk H;clear H;have p224 : 0 ≤ (x8_1 : Int) := XR.od;have q224 : x8_1 < (l0.length : Int) := XR.od;obtain ⟨ad224,e224,hx224_0⟩ := Kd.at_int HR0.out x8_1 p224 q224
       cases e224
       replace p224 := eq_true p224;replace q224 := eq_true q224;go_wp2_with (first | (go_at_call 77;(with_reducible refine (pool_client_1.calls (rd l0 x8_1) false _ A6.out).mono ?_);rintro e w' ⟨rfl,⟨nd,rfl⟩⟩));go_roundg k1
       case measure => have := HK1.out;omega
       case rel => exact ⟨(wrap64 (x8_1 + 1)),XR.rf,H',⟨by have := HK1.out;omega⟩,by repeat (first | exact Drawn0.refl _ | apply Drawn0.step)⟩
     ·rw [if_neg c5] at H;exact absurd H (by simp)
    ·rw [if_neg c4] at H;exact absurd H (by simp)
   ·rw [if_neg c3] at H;have c3b0 := decide_eq_false c3;clear c3;obtain rfl := Option.some.inj H;go_wp2;go_ret;exact ⟨by first | rfl | (simp;done) | (simp [*];done),by repeat (first | exact Drawn0.refl _ | apply Drawn0.step)⟩
set_option maxHeartbeats 8000000 in
set_option maxRecDepth 100000 in
theorem slices_ContainsFunc_77.calls (k : Nat) (A0 : Option Addr) (c0 : Nat) (l0 : List Int)  (r : Bool) (w : World) (hr0 : Kd.C (Kd.int .u8) w A0 l0.length l0) (hc0 : l0.length ≤ c0) (h : slices_ContainsFunc_77.f k l0 = some r) :
  Calls Tryd.prog 76 #[.slice A0 l0.length c0,.func (.func 77) #[] #[]] w fun e w' => e = .returned (.bool r) ∧ Drawn0 w w' := by
 have HR0 := Aside0.mk hr0;have HC0 := Aside0.mk hc0;clear hr0 hc0;have H : ((slices_IndexFunc_77.f k l0).bind fun t226 => (some (decide (t226 ≥ 0)))) = some r := h;clear h;replace H := Option.bind_eq_some_iff.mp H;obtain ⟨t226,A30,H⟩ := H;replace H : (some (decide (t226 ≥ 0))) = some r := H;have A3 := Aside0.mk A30;clear A30;obtain rfl := Option.some.inj H;go_enter Tryd.func76,Tryd.ntmps76;go_wp2_with (first | ((with_reducible refine gate_callee (f := 84) rfl ?_);refine XR.gL 7 Tryd.func84 #[.slice A0 l0.length c0,.func (.func 77) #[] #[]] ?_;(with_reducible refine (slices_IndexFunc_77.calls k _ _ l0  t226 _ ?side1 ?side2 A3.out).mono ?_);(case side1 => repeat (first | exact HR0.out | (with_reducible refine Kd.C_alloc ?_ _) | (with_reducible refine Kd.C_drewN ?_ _) | (with_reducible refine Kd.C_drew ?_)));(case side2 => exact HC0.out);rintro e w' ⟨rfl,⟨nd,rfl⟩⟩;refine ⟨_,rfl,?_⟩));go_ret;exact ⟨by first | rfl | (simp;done) | (simp [*];done),by repeat (first | exact Drawn0.refl _ | apply Drawn0.step)⟩
set_option maxHeartbeats 8000000 in
set_option maxRecDepth 100000 in
theorem pool_client.calls (k : Nat) (a0 : ByteArray) (r : Bool) (w : World) (h : pool_client.f k a0 = some r) :
  Calls Tryd.prog 62 #[.string a0] w fun e w' => e = .returned (.bool r) ∧ Below w.heap.size w w' := by
 have HB := Aside0.mk (Below.refl w.heap.size w);have H : (if (a0.size : Int) ≥ 1 then (if (a0.size : Int) ≤ 32 then ((conv_bytes_54.f a0).bind fun t227 => ((slices_ContainsFunc_77.f k t227).bind fun t230 => (some (!t230)))) else (some false)) else (some false)) = some r := h;clear h;by_cases c2 : (a0.size : Int) ≥ 1
 ·rw [if_pos c2] at H;have c2b0 := decide_eq_true c2;have c2b1 : decide (1 ≤ a0.size) = true := decide_eq_true (by omega);clear c2;by_cases c3 : (a0.size : Int) ≤ 32
  ·rw [if_pos c3] at H;have c3b0 := decide_eq_true c3;have c3b1 : decide (a0.size ≤ 32) = true := decide_eq_true (by omega);clear c3;replace H := Option.bind_eq_some_iff.mp H;obtain ⟨t227,A40,H⟩ := H;replace H : ((slices_ContainsFunc_77.f k t227).bind fun t230 => (some (!t230))) = some r := H;have A4 := Aside0.mk A40;clear A40;replace H := Option.bind_eq_some_iff.mp H;obtain ⟨t230,A50,H⟩ := H;replace H : (some (!t230)) = some r := H;have A5 := Aside0.mk A50;clear A50;obtain rfl := Option.some.inj H;go_enter Tryd.func62,Tryd.ntmps62;go_wp2_with (first | ((with_reducible refine gate_dst (N := 13) rfl ?_);(try (refine gate_guard (by rfl) ?_;dsimp only));(try (refine gate_guard (by rfl) ?_;dsimp only));refine XC.convL_ (some 13) rfl rfl rfl (.string a0) (by first | rfl) ?_;(with_reducible refine (conv_bytes_54.calls a0 t227 _ A4.out).mono ?_);rintro e w6 ⟨v228,rfl,ho0,hb⟩;refine ⟨_,rfl,?_⟩;have HO229 := Aside0.mk (Kd.V_lower (Kd.V_mono (ok' := fun k_ => True) ho0 (fun k_ hk_ => trivial)) (below_size (XR.lB HB.out)));replace HB := Aside0.mk (XR.bB HB.out hb);(try clear hb);(try clear ho0);obtain ⟨Ao7,co7,eo7⟩ := Kd.V_slice HO229.out;subst eo7) | (go_at_call 76;(with_reducible refine (slices_ContainsFunc_77.calls k _ _ t227  t230 _ ?side1 ?side2 A5.out).mono ?_);(case side1 => repeat (first | exact (Kd.V_reads' HO229.out).2.2 | (with_reducible refine Kd.C_alloc ?_ _) | (with_reducible refine Kd.C_drewN ?_ _) | (with_reducible refine Kd.C_drew ?_)));(case side2 => exact (Kd.V_reads' HO229.out).2.1);rintro e w' ⟨rfl,⟨nd,rfl⟩⟩));go_ret;exact XR.re HB.out
  ·rw [if_neg c3] at H;have c3b0 := decide_eq_false c3;have c3b1 : decide (a0.size ≤ 32) = false := decide_eq_false (by omega);clear c3;obtain rfl := Option.some.inj H;go_enter Tryd.func62,Tryd.ntmps62;go_wp2;go_ret;exact XR.re HB.out
 ·rw [if_neg c2] at H;have c2b0 := decide_eq_false c2;have c2b1 : decide (1 ≤ a0.size) = false := decide_eq_false (by omega);clear c2;obtain rfl := Option.some.inj H;go_enter Tryd.func62,Tryd.ntmps62;go_wp2;go_ret;exact XR.re HB.out
set_option maxHeartbeats 8000000 in
set_option maxRecDepth 100000 in
theorem pool_reserved_1.calls (a0_0 : ByteArray) (a0_1 : Bool) (a0_2 : Int) (a0_3 : Int) (a0_4 : ByteArray) (g1_0 : Nat) (a1_0 : ByteArray) (a1_1 : Bool) (a1_2 : Int) (a1_3 : Int) (a1_4 : ByteArray) (r : Bool) (w : World) (hb1_0 : w.heap[g1_0]? = some (.cells #[.string a1_0,.bool a1_1,.int .u64 a1_2,.int .u64 a1_3,.string a1_4] 81 (0,0))) (h : pool_reserved_1.f a0_0 a0_1 a0_2 a0_3 a0_4 a1_0 a1_1 a1_2 a1_3 a1_4 = some r) :
  Calls Tryd.prog 64 #[.agg #[.string a0_0,.bool a0_1,.int .u64 a0_2,.int .u64 a0_3,.string a0_4],.pointer (some ⟨g1_0,0,none⟩)] w fun e w' => e = .returned (.bool r) ∧ Below w.heap.size w w' := by
 have hu81 := Tryd.underlying81;have hu24 := Tryd.underlying24;have BK700100 := Aside0.mk hb1_0;clear hb1_0;have HB := Aside0.mk (Below.refl w.heap.size w);have H : (if a0_0.toList = a1_0.toList then (some true) else (some (a0_1 == a1_1 && (a0_2 == a1_2 && (a0_3 == a1_3))))) = some r := h;clear h;by_cases c3 : a0_0.toList = a1_0.toList
 ·rw [if_pos c3] at H;have c3b0 := beq_iff_eq.mpr c3;have c3b1 := bne_eq_false_iff_eq.mpr c3;clear c3;obtain rfl := Option.some.inj H;go_enter Tryd.func64,Tryd.ntmps64;go_wp2_with (first | ((with_reducible refine gate_dst (N := 2) rfl ?_);refine XR.bx 2 81 #[.string a0_0,.bool a0_1,.int .u64 a0_2,.int .u64 a0_3,.string a0_4] ?_;intro gb231 hg w4 hbox hb;have BK231 := Aside0.mk (hbox);have GW231 := Aside0.mk (XR.ge hg HB.out);have GE231 := GW231;have NB700100_231 := Aside0.mk ((by rw [hg];exact Nat.ne_of_lt (blk_lt (g := g1_0) (o := .cells #[.string a1_0,.bool a1_1,.int .u64 a1_2,.int .u64 a1_3,.string a1_4] 81 (0,0)) (XR.lb BK700100.out)) : g1_0 ≠ gb231));have NB231_700100 := Aside0.mk ((by rw [hg];exact Nat.ne_of_gt (blk_lt (g := g1_0) (o := .cells #[.string a1_0,.bool a1_1,.int .u64 a1_2,.int .u64 a1_3,.string a1_4] 81 (0,0)) (XR.lb BK700100.out)) : gb231 ≠ g1_0));replace BK700100 := Aside0.mk (blk_below (g := g1_0) (o := .cells #[.string a1_0,.bool a1_1,.int .u64 a1_2,.int .u64 a1_3,.string a1_4] 81 (0,0)) (XR.lb BK700100.out) hb);replace HB := Aside0.mk (below_step (XR.sB HB.out) hb);clear hb hbox hg;have hnb5 := NB231_700100.out;have hnc5 := NB700100_231.out;obtain ⟨Y6_0,Y6_1,Y6_2,Y6_3,Y6_4⟩ := XR.c5 BK231.out;obtain ⟨Z6_0,Z6_1,Z6_2,Z6_3,Z6_4⟩ := XR.f5 BK231.out;have Y7_0 : w4.cell? ⟨g1_0,0,none⟩ = some (.string a1_0) := (blk_cell BK700100.out 0).trans rfl;have Y7_1 : w4.cell? ⟨g1_0,1,none⟩ = some (.bool a1_1) := (blk_cell BK700100.out 1).trans rfl;have Y7_2 : w4.cell? ⟨g1_0,2,none⟩ = some (.int .u64 a1_2) := (blk_cell BK700100.out 2).trans rfl;have Y7_3 : w4.cell? ⟨g1_0,3,none⟩ = some (.int .u64 a1_3) := (blk_cell BK700100.out 3).trans rfl;have Y7_4 : w4.cell? ⟨g1_0,4,none⟩ = some (.string a1_4) := (blk_cell BK700100.out 4).trans rfl;obtain ⟨Z7_0,Z7_1,Z7_2,Z7_3,Z7_4⟩ := XR.f5 BK700100.out));go_ret;exact XR.re HB.out
 ·rw [if_neg c3] at H;have c3b0 := beq_eq_false_iff_ne.mpr c3;have c3b1 := bne_iff_ne.mpr c3;obtain rfl := Option.some.inj H;go_enter Tryd.func64,Tryd.ntmps64;go_wp2_with (first | ((with_reducible refine gate_dst (N := 2) rfl ?_);refine XR.bx 2 81 #[.string a0_0,.bool a0_1,.int .u64 a0_2,.int .u64 a0_3,.string a0_4] ?_;intro gb231 hg w8 hbox hb;have BK231 := Aside0.mk (hbox);have GW231 := Aside0.mk (XR.ge hg HB.out);have GE231 := GW231;have NB700100_231 := Aside0.mk ((by rw [hg];exact Nat.ne_of_lt (blk_lt (g := g1_0) (o := .cells #[.string a1_0,.bool a1_1,.int .u64 a1_2,.int .u64 a1_3,.string a1_4] 81 (0,0)) (XR.lb BK700100.out)) : g1_0 ≠ gb231));have NB231_700100 := Aside0.mk ((by rw [hg];exact Nat.ne_of_gt (blk_lt (g := g1_0) (o := .cells #[.string a1_0,.bool a1_1,.int .u64 a1_2,.int .u64 a1_3,.string a1_4] 81 (0,0)) (XR.lb BK700100.out)) : gb231 ≠ g1_0));replace BK700100 := Aside0.mk (blk_below (g := g1_0) (o := .cells #[.string a1_0,.bool a1_1,.int .u64 a1_2,.int .u64 a1_3,.string a1_4] 81 (0,0)) (XR.lb BK700100.out) hb);replace HB := Aside0.mk (below_step (XR.sB HB.out) hb);clear hb hbox hg;have hnb9 := NB231_700100.out;have hnc9 := NB700100_231.out;obtain ⟨Y10_0,Y10_1,Y10_2,Y10_3,Y10_4⟩ := XR.c5 BK231.out;obtain ⟨Z10_0,Z10_1,Z10_2,Z10_3,Z10_4⟩ := XR.f5 BK231.out;have Y11_0 : w8.cell? ⟨g1_0,0,none⟩ = some (.string a1_0) := (blk_cell BK700100.out 0).trans rfl;have Y11_1 : w8.cell? ⟨g1_0,1,none⟩ = some (.bool a1_1) := (blk_cell BK700100.out 1).trans rfl;have Y11_2 : w8.cell? ⟨g1_0,2,none⟩ = some (.int .u64 a1_2) := (blk_cell BK700100.out 2).trans rfl;have Y11_3 : w8.cell? ⟨g1_0,3,none⟩ = some (.int .u64 a1_3) := (blk_cell BK700100.out 3).trans rfl;have Y11_4 : w8.cell? ⟨g1_0,4,none⟩ = some (.string a1_4) := (blk_cell BK700100.out 4).trans rfl;obtain ⟨Z11_0,Z11_1,Z11_2,Z11_3,Z11_4⟩ := XR.f5 BK700100.out));go_ret;exact XR.re HB.out
set_option maxHeartbeats 8000000 in
set_option maxRecDepth 100000 in
theorem stringslite_HasSuffix.calls (a0 : ByteArray) (a1 : ByteArray) (r : Bool) (w : World) (h : stringslite_HasSuffix.f a0 a1 = some r) :
  Calls Tryd.prog 85 #[.string a0,.string a1] w fun e w' => e = .returned (.bool r) ∧ Drawn0 w w' := by
 have H : (if (a0.size : Int) ≥ (a1.size : Int) then (if 0 ≤ (wrap64 ((a0.size : Int) - (a1.size : Int))) then (if (wrap64 ((a0.size : Int) - (a1.size : Int))) ≤ (a0.size : Int) then (some ((a0.extract ((wrap64 ((a0.size : Int) - (a1.size : Int))) : Int).toNat a0.size).toList == a1.toList)) else (none)) else (none)) else (some false)) = some r := h;clear h;by_cases c3 : (a0.size : Int) ≥ (a1.size : Int)
 ·rw [if_pos c3] at H;have c3b0 := decide_eq_true c3;have c3b1 : decide (a1.size ≤ a0.size) = true := decide_eq_true (Int.ofNat_le.mp c3);clear c3;obtain ⟨ji4,hji4⟩ : ∃ j_ : Int,(wrap64 ((a0.size : Int) - (a1.size : Int))) = j_ := ⟨_,rfl⟩;replace H : (if 0 ≤ (ji4) then (if (ji4) ≤ (a0.size : Int) then (some ((a0.extract ((ji4) : Int).toNat a0.size).toList == a1.toList)) else (none)) else (none)) = some r := by first | (rw [hji4] at H;exact H) | (simp only [hji4] at H ⊢;exact H)
  have hji4w : (IntKind.i64.wrap ((a0.size : Int) - (a1.size : Int))) = ji4 := (i64_w _).trans hji4;by_cases c5 : 0 ≤ (ji4)
  ·rw [if_pos c5] at H;have c5b0 := eq_true c5;have c5b1 := decide_eq_true c5;clear c5;by_cases c6 : (ji4) ≤ (a0.size : Int)
   ·rw [if_pos c6] at H;have c6b0 := eq_true c6;have c6b1 := decide_eq_true c6;clear c6;obtain rfl := Option.some.inj H;go_enter Tryd.func85,Tryd.ntmps85;go_wp2;go_ret;exact ⟨by first | rfl | (simp;done) | (simp only [← hji4] <;> (first | rfl | simp)) | (simp [*];done),by repeat (first | exact Drawn0.refl _ | apply Drawn0.step)⟩
   ·rw [if_neg c6] at H;exact absurd H (by simp)
  ·rw [if_neg c5] at H;exact absurd H (by simp)
 ·rw [if_neg c3] at H;have c3b0 := decide_eq_false c3;have c3b1 : decide (a1.size ≤ a0.size) = false := decide_eq_false (fun h => c3 (Int.ofNat_le.mpr h));clear c3;obtain rfl := Option.some.inj H;go_enter Tryd.func85,Tryd.ntmps85;go_wp2;go_ret;exact ⟨by first | rfl | (simp;done) | (simp [*];done),by repeat (first | exact Drawn0.refl _ | apply Drawn0.step)⟩
set_option maxHeartbeats 8000000 in
set_option maxRecDepth 100000 in
theorem strings_HasSuffix.calls (a0 : ByteArray) (a1 : ByteArray) (r : Bool) (w : World) (h : strings_HasSuffix.f a0 a1 = some r) :
  Calls Tryd.prog 79 #[.string a0,.string a1] w fun e w' => e = .returned (.bool r) ∧ Drawn0 w w' := by
 have H : ((stringslite_HasSuffix.f a0 a1).bind fun t232 => (some t232)) = some r := h;clear h;replace H := Option.bind_eq_some_iff.mp H;obtain ⟨t232,A30,H⟩ := H;replace H : (some t232) = some r := H;have A3 := Aside0.mk A30;clear A30;obtain rfl := Option.some.inj H;go_enter Tryd.func79,Tryd.ntmps79;go_wp2_with (first | ((with_reducible refine gate_callee (f := 85) rfl ?_);refine XR.gL 7 Tryd.func85 #[.string a0,.string a1] ?_;(with_reducible refine (stringslite_HasSuffix.calls a0 a1 t232 _ A3.out).mono ?_);rintro e w' ⟨rfl,⟨nd,rfl⟩⟩;refine ⟨_,rfl,?_⟩));go_ret;exact ⟨by first | rfl | (simp;done) | (simp [*];done),by repeat (first | exact Drawn0.refl _ | apply Drawn0.step)⟩
theorem strings_explode.calls (a0 : ByteArray) (a1 : Int) (r : List ByteArray) (w : World) (h : strings_explode.f a0 a1 = some r) :
  Calls Tryd.prog 88 #[.string a0,.int .i64 a1] w fun e w' => ∃ v0_ : Value,e = .returned (v0_) ∧ Kd.R Kd.string 9 w' w.heap.size (fun _ => True) v0_ r ∧ Below w.heap.size w w' := by
 unfold strings_explode.f at h
 cases h
set_option maxHeartbeats 8000000 in
set_option maxRecDepth 100000 in
theorem stringslite_IndexByte.still (a0 : ByteArray) (a1 : Int) (w : World) :
  Calls Tryd.prog 96 #[.string a0,.int .u8 a1] w fun e w' => e = .returned (.int .i64 (XB.indexB a0 a1)) ∧ w' = w := by
 go_enter Tryd.func96,Tryd.ntmps96;go_wp2;rw [run_callFunc_extern Tryd.func100 (by kernel_rfl) (by kernel_rfl) (by kernel_rfl) (e := Extern.BytealgIndexByte.indexByte) (by kernel_rfl),Go.Lib.run_indexByteString];simp only [Result.andThen];rw [Oper.upon_value];go_wp2;go_ret;exact ⟨rfl,rfl⟩
end Go.Proofs.YtngfffoeaghhhaaDoor.QA
