import Derived.Test.YtikhpegamnnabaaDoorQAd2
import Derived.Test.YtikhpegamnnabaaDoorQAx0
import Derived.Test.YtikhpegamnnabaaDoorQAx32
namespace Go.Proofs.YtikhpegamnnabaaDoor.QA
open Go.RowKit Go.Proofs.YtikhpegamnnabaaDoorW.PrintWords Go.Proofs.YtikhpegamnnabaaDoorW.PrintLast Go.Proofs.YtikhpegamnnabaaDoorW.PrintMore
attribute [local go_sem] max2_int min2_int max_two min_two max_three min_three max_four min_four
attribute [local go_sem high] Go.Proofs.YtikhpegamnnabaaDoor.XW.cell_setCell_lit
set_option linter.unusedVariables false
set_option linter.unusedSimpArgs false
def ddiref02_Read.T4 : Bool × List (List Nat × List Nat) := (true,[([],[]),([0],[0]),([1],[1]),([],[]),([3],[3]),([4,2],[4]),([2,5],[2,5]),([6,5,0,1,2,3,4,5,6],[6]),([7,0,1,2,3,4,5,6,7],[])])
def ddiref02_Read.B4 : List Nat := [0,1,3,0,8,31,63,127,255]
theorem ddiref02_Read.tab4 : rtab .any (opsOf Tryd.f38 4) = ddiref02_Read.T4 := by kernel_rfl
theorem ddiref02_Read.bits4 : waitsOk ddiref02_Read.T4.2 ddiref02_Read.B4 = true := by kernel_rfl
set_option maxHeartbeats 8000000 in
set_option maxRecDepth 100000 in
theorem ddiref02_Read.calls (k : Nat) (a0 : ByteArray) (r1 : Bool) (r2 : Int) (r3 : Int) (r4 : Int) (w : World) (h : ddiref02_Read.f k a0 = some (r1,r2,r3,r4)) :
  Calls Tryd.prog 38 #[.string a0] w fun e w' => e = .returned (.tuple #[.agg #[.bool r1,.int .u64 r2,.int .u64 r3],.int .i64 r4]) ∧ Below w.heap.size w w' := by
 have hu24 := Tryd.underlying24;have HB := Aside0.mk (Below.refl w.heap.size w);have H : (if (a0.size : Int) > 16 then (some (false,0,0,8)) else (if (a0.size : Int) = 16 then (if 0 ≤ 8 then (if 8 ≤ (a0.size : Int) then ((ddiref02_value.f k (a0.extract 0 8)).bind fun t482 => ((ddiref02_value.f k (a0.extract 8 a0.size)).bind fun t483 => (some (true,t482,t483,0)))) else (none)) else (none)) else (if (a0.size : Int) = 4 then ((ddiref02_value.f k a0).bind fun t484 => (some (false,0,t484,0))) else (some (false,0,0,6))))) = some (r1,r2,r3,r4) := h;clear h;by_cases c2 : (a0.size : Int) > 16
 ·rw [if_pos c2] at H;have c2b0 := decide_eq_true c2;have c2b1 : decide (16 < a0.size) = true := decide_eq_true (by omega);clear c2;simp only [Option.some.injEq,Prod.mk.injEq] at H;obtain ⟨rfl,rfl,rfl,rfl⟩ := H;go_enter Tryd.func38,Tryd.ntmps38;go_wp2_with (first | ((with_reducible refine gate_dst (N := 2) rfl ?_);refine XR.bx 2 24 #[.bool false,.int .u64 0,.int .u64 0] ?_;intro gb481 hg w3 hbox hb;have BK481 := Aside0.mk (hbox);have GW481 := Aside0.mk (XR.ge hg HB.out);have GE481 := GW481;replace HB := Aside0.mk (XR.bB HB.out hb);clear hb hbox hg;obtain ⟨Y4_0,Y4_1,Y4_2⟩ := XR.c3 BK481.out;obtain ⟨Z4_0,Z4_1,Z4_2⟩ := XR.f3 BK481.out));refine bodyPost_ret (results_ct rfl _ _ gb481 24 #[.bool false,.int .u64 0,.int .u64 0] (0,0) _ rfl (by first | exact XR.lb (XR.p3 BK481.out) | exact XR.p3 (XR.lb BK481.out)) Tryd.underlying24 rfl (by kernel_rfl)) rfl ?_;exact XR.re HB.out
 ·rw [if_neg c2] at H;have c2b0 := decide_eq_false c2;have c2b1 : decide (16 < a0.size) = false := decide_eq_false (by omega);clear c2;by_cases c5 : (a0.size : Int) = 16
  ·rw [if_pos c5] at H;have c5b0 := beq_iff_eq.mpr c5;have c5b1 := bne_eq_false_iff_eq.mpr c5;clear c5;by_cases c6 : 0 ≤ 8
   ·rw [if_pos c6] at H;have c6b0 := eq_true c6;have c6b1 := decide_eq_true c6;clear c6;by_cases c7 : 8 ≤ (a0.size : Int)
    ·rw [if_pos c7] at H;have c7b0 := eq_true c7;have c7b1 := decide_eq_true c7;clear c7;replace H := Option.bind_eq_some_iff.mp H;obtain ⟨t482,A80,H⟩ := H;(try dsimp only at H);have A8 := Aside0.mk A80;clear A80;have c9b0 := eq_true (of_decide_eq_true (by first | (with_reducible assumption) | assumption) : 8 ≤ (a0.size : Int));replace H := Option.bind_eq_some_iff.mp H;obtain ⟨t483,A100,H⟩ := H;replace H : (some (true,t482,t483,0)) = some (r1,r2,r3,r4) := H;have A10 := Aside0.mk A100;clear A100;simp only [Option.some.injEq,Prod.mk.injEq] at H;obtain ⟨rfl,rfl,rfl,rfl⟩ := H;go_enter Tryd.func38,Tryd.ntmps38
     try go_wp2_with (first | ((with_reducible refine gate_dst (N := 2) rfl ?_);refine XR.bx 2 24 #[.bool false,.int .u64 0,.int .u64 0] ?_;intro gb481 hg w11 hbox hb;have BK481 := Aside0.mk (hbox);have GW481 := Aside0.mk (XR.ge hg HB.out);have GE481 := GW481;replace HB := Aside0.mk (XR.bB HB.out hb);clear hb hbox hg))
     replace BK481 := Aside0.mk (blk_drew BK481.out);replace HB := Aside0.mk (below_drew1 HB.out);refine start_ (n := 9) (S := fun w' => True) (ds := []) #[false,false,false,false,false,false,false,false,false] (by kernel_rfl) rfl rfl trivial (fun hHeld => ?_);refine with_tabW ddiref02_Read.tab4 ddiref02_Read.bits4 (fun HT_ HW_ => ?_);generalize w11.drew = w12 at BK481 HB hHeld ⊢;refine XR.pu 0 11 HT_.out ?_;refine XR.pu 1 12 HT_.out ?_;refine XR.pu 3 14 HT_.out ?_;refine XR.pu 4 15 HT_.out ?_;refine XR.on 2 (some 13) HT_.out (fun K hK => ?_);refine XR.gO Tryd.func59 #[.string (a0.extract 0 8)] ?_
     with_reducible refine (ddiref02_value.calls k (a0.extract 0 8) t482 _ A8.out).mono ?_
     rintro e w' ⟨rfl,⟨nd,rfl⟩⟩;refine ⟨_,rfl,?_⟩;refine hK.out _ _ trivial (fun hHeld => ?_);clear hK K;refine norm_ (a' := ?_) ?_ ?_
     rotate_left
     ·show Act.put _ (some 13) _ = _
      simp only [Act.put,List.setIfInBounds_toArray,List.set_cons_zero,List.set_cons_succ,i64_w,i32_w]
      rfl
     refine XR.on 5 (some 16) HT_.out (fun K hK => ?_);refine XR.gO Tryd.func59 #[.string (a0.extract 8 a0.size)] ?_
     with_reducible refine (ddiref02_value.calls k (a0.extract 8 a0.size) t483 _ A10.out).mono ?_
     rintro e w' ⟨rfl,⟨nd,rfl⟩⟩;refine ⟨_,rfl,?_⟩;refine hK.out _ _ trivial (fun hHeld => ?_);clear hK K;refine norm_ (a' := ?_) ?_ ?_
     rotate_left
     ·show Act.put _ (some 16) _ = _
      simp only [Act.put,List.setIfInBounds_toArray,List.set_cons_zero,List.set_cons_succ,i64_w,i32_w]
      rfl
     refine XR.pu 6 17 HT_.out ?_;refine XR.on 7 (none) HT_.out (fun K hK => ?_);have hs13 : w12.cell? ⟨gb481,0,none⟩ = some (.bool false) := (blk_cell BK481.out 0).trans rfl;have hfs13 := blk_frozen BK481.out 0;have hs14 : w12.cell? ⟨gb481,1,none⟩ = some (.int .u64 0) := (blk_cell BK481.out 1).trans rfl;have hfs14 := blk_frozen BK481.out 1;have hs15 : w12.cell? ⟨gb481,2,none⟩ = some (.int .u64 0) := (blk_cell BK481.out 2).trans rfl;have hfs15 := blk_frozen BK481.out 2;refine skip_ (w1 := ?_) (by rfl) rfl ?_ ?_
     rotate_left
     ·go_simp
      rfl
     refine hK.out _ _ trivial (fun hHeld => ?_);clear hK K;refine XR.pu 8 3 HT_.out ?_;refine done_ (done_of HT_.out (by kernel_rfl)) ?_
     try go_wp2
     refine bodyPost_ret (results_ct rfl _ _ gb481 24 #[.bool true,.int .u64 t482,.int .u64 t483] (0,0) _ rfl (by first | exact XR.lb (XR.p3 BK481.out) | exact XR.p3 (XR.lb BK481.out)) Tryd.underlying24 rfl (by kernel_rfl)) rfl ?_;exact XR.re HB.out
    ·rw [if_neg c7] at H;exact absurd H (by simp)
   ·rw [if_neg c6] at H;exact absurd H (by simp)
  ·rw [if_neg c5] at H;have c5b0 := beq_eq_false_iff_ne.mpr c5;have c5b1 := bne_iff_ne.mpr c5;by_cases c16 : (a0.size : Int) = 4
   ·rw [if_pos c16] at H;have c16b0 := beq_iff_eq.mpr c16;have c16b1 := bne_eq_false_iff_eq.mpr c16;clear c16;replace H := Option.bind_eq_some_iff.mp H;obtain ⟨t484,A170,H⟩ := H;replace H : (some (false,0,t484,0)) = some (r1,r2,r3,r4) := H;have A17 := Aside0.mk A170;clear A170;simp only [Option.some.injEq,Prod.mk.injEq] at H;obtain ⟨rfl,rfl,rfl,rfl⟩ := H;go_enter Tryd.func38,Tryd.ntmps38;go_wp2_with (first | ((with_reducible refine gate_dst (N := 2) rfl ?_);refine XR.bx 2 24 #[.bool false,.int .u64 0,.int .u64 0] ?_;intro gb481 hg w18 hbox hb;have BK481 := Aside0.mk (hbox);have GW481 := Aside0.mk (XR.ge hg HB.out);have GE481 := GW481;replace HB := Aside0.mk (XR.bB HB.out hb);clear hb hbox hg) | ((with_reducible refine gate_callee (f := 59) rfl ?_);refine XR.gL 23 Tryd.func59 #[.string a0] ?_;(with_reducible refine (ddiref02_value.calls k a0 t484 _ A17.out).mono ?_);rintro e w' ⟨rfl,⟨nd,rfl⟩⟩;refine ⟨_,rfl,?_⟩;(try (rw [drewN_self w18];generalize hq_ : World.drewN w18 _ = w18;have n0_ : Aside0 (w18.heap[gb481]? = some (.cells #[.bool false,.int .u64 0,.int .u64 0] 24 (0,0))) := ⟨by rw [← hq_];exact (XR.lb BK481.out)⟩;have n1_ : Aside0 (Below w.heap.size w w18) := ⟨by rw [← hq_];exact (XR.sB HB.out)⟩;clear BK481 HB hq_;have BK481 := n0_;have HB := n1_;clear n0_ n1_));obtain ⟨Y19_0,Y19_1,Y19_2⟩ := XR.c3 BK481.out;obtain ⟨Z19_0,Z19_1,Z19_2⟩ := XR.f3 BK481.out));refine bodyPost_ret (results_ct rfl _ _ gb481 24 #[.bool false,.int .u64 0,.int .u64 t484] (0,0) _ rfl (by first | exact XR.lb (XR.p3 BK481.out) | exact XR.p3 (XR.lb BK481.out)) Tryd.underlying24 rfl (by kernel_rfl)) rfl ?_;exact XR.re HB.out
   ·rw [if_neg c16] at H;have c16b0 := beq_eq_false_iff_ne.mpr c16;have c16b1 := bne_iff_ne.mpr c16;simp only [Option.some.injEq,Prod.mk.injEq] at H;obtain ⟨rfl,rfl,rfl,rfl⟩ := H;go_enter Tryd.func38,Tryd.ntmps38;go_wp2_with (first | ((with_reducible refine gate_dst (N := 2) rfl ?_);refine XR.bx 2 24 #[.bool false,.int .u64 0,.int .u64 0] ?_;intro gb481 hg w20 hbox hb;have BK481 := Aside0.mk (hbox);have GW481 := Aside0.mk (XR.ge hg HB.out);have GE481 := GW481;replace HB := Aside0.mk (XR.bB HB.out hb);clear hb hbox hg;obtain ⟨Y21_0,Y21_1,Y21_2⟩ := XR.c3 BK481.out;obtain ⟨Z21_0,Z21_1,Z21_2⟩ := XR.f3 BK481.out));refine bodyPost_ret (results_ct rfl _ _ gb481 24 #[.bool false,.int .u64 0,.int .u64 0] (0,0) _ rfl (by first | exact XR.lb (XR.p3 BK481.out) | exact XR.p3 (XR.lb BK481.out)) Tryd.underlying24 rfl (by kernel_rfl)) rfl ?_;exact XR.re HB.out
set_option maxHeartbeats 8000000 in
set_option maxRecDepth 100000 in
theorem ddiref45_number.calls (k : Nat) (a0 : ByteArray) (r : Int) (w : World) (h : ddiref45_number.f k a0 = some r) :
  Calls Tryd.prog 39 #[.string a0] w fun e w' => e = .returned (.int .i64 r) ∧ Drawn0 w w' := by
 have H : (ddiref45_number.l0 k a0 0 0) = some r := h;clear h;have H' := Aside0.mk H;clear H;go_enter Tryd.func39,Tryd.ntmps39;go_wp2;go_loopg [3,4] k (fun kq v3 v4 w' => ∃ (x3_1 : Int) (x4_1 : Int),v3 = .int .i64 x3_1 ∧ v4 = .int .i64 x4_1 ∧ Aside0 (ddiref45_number.l0 kq a0 x3_1 x4_1 = some r) ∧ Aside0 (kq ≤ k) ∧ Drawn0 w w')
 case atStart => exact ⟨(0),(0),XR.rf,XR.rf,H',⟨Nat.le_refl _⟩,by repeat (first | exact Drawn0.refl _ | apply Drawn0.step)⟩
 case round =>
  clear H';obtain ⟨x3_1,x4_1,rfl,rfl,HA,HK1,⟨m1,rfl⟩⟩ := hrel
  cases gk with
  | zero => exact absurd HA.out (by simp [ddiref45_number.l0])
  | succ k1 =>
   have H := HA.out;clear HA;simp only [ddiref45_number.l0] at H;by_cases c2 : x4_1 < (a0.size : Int)
   ·rw [if_pos c2] at H;have c2b0 := decide_eq_true c2;clear c2;by_cases c3 : 0 ≤ x4_1
    ·rw [if_pos c3] at H;have c3b0 := decide_eq_true c3;clear c3;have H' := Aside0.mk H;clear H;have p4 : 0 ≤ (x4_1 : Int) := XR.od;have q4 : x4_1 < (a0.size : Int) := XR.od;have hx4 := bt_at a0 x4_1;replace p4 := eq_true p4;replace q4 := eq_true q4;go_wp2;go_roundg k1
     case measure => have := HK1.out;omega
     case rel => exact ⟨(wrap64 ((wrap64 (256 * x3_1)) + (wrap64 (bt a0 x4_1)))),(wrap64 (x4_1 + 1)),XR.rf,XR.rf,H',⟨by have := HK1.out;omega⟩,by repeat (first | exact Drawn0.refl _ | apply Drawn0.step)⟩
    ·rw [if_neg c3] at H;exact absurd H (by simp)
   ·rw [if_neg c2] at H;have c2b0 := decide_eq_false c2;clear c2;obtain rfl := Option.some.inj H;go_wp2;go_ret;exact ⟨by first | rfl | (simp;done) | (simp [*];done),by repeat (first | exact Drawn0.refl _ | apply Drawn0.step)⟩
end Go.Proofs.YtikhpegamnnabaaDoor.QA
