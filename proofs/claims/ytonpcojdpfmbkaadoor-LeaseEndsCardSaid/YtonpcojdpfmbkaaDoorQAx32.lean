import Derived.Test.YtonpcojdpfmbkaaDoorQAd3
import Derived.Test.YtonpcojdpfmbkaaDoorQAx0
import Derived.Test.YtonpcojdpfmbkaaDoorQAx1
import Derived.Test.YtonpcojdpfmbkaaDoorQAx2
namespace Go.Proofs.YtonpcojdpfmbkaaDoor.QA
open Go.RowKit Go.Proofs.YtonpcojdpfmbkaaDoorW.PrintWords Go.Proofs.YtonpcojdpfmbkaaDoorW.PrintLast Go.Proofs.YtonpcojdpfmbkaaDoorW.PrintMore
attribute [local go_sem] max2_int min2_int max_two min_two max_three min_three max_four min_four   -- for this text's walks alone
attribute [local go_sem high] Go.Proofs.YtonpcojdpfmbkaaDoor.XW.cell_setCell_lit
set_option linter.unusedVariables false
set_option linter.unusedSimpArgs false
attribute [local go_sem high] eqA29 eqA41
set_option maxHeartbeats 8000000 in
set_option maxRecDepth 100000 in
theorem ddiref38_Same.calls (k : Nat) (A0 : Option Addr) (c0 : Nat) (l0 : List (S41)) (A1 : Option Addr) (c1 : Nat) (l1 : List (S41)) (r : Bool) (w : World) (hr0 : Kd.C k41 w A0 l0.length l0) (hc0 : l0.length ≤ c0) (hr1 : Kd.C k41 w A1 l1.length l1) (hc1 : l1.length ≤ c1) (h : ddiref38_Same.f k l0 l1 = some r) :
  Calls Tryd.prog 17 #[.slice A0 l0.length c0,.slice A1 l1.length c1] w fun e w' => e = .returned (.bool r) ∧ Drawn0 w w' := by
 have hu41 := Tryd.underlying41;have HR0 := Aside0.mk hr0;have HC0 := Aside0.mk hc0;clear hr0 hc0;have HR1 := Aside0.mk hr1;have HC1 := Aside0.mk hc1;clear hr1 hc1;have H : (if (l0.length : Int) = (l1.length : Int) then (ddiref38_Same.l0 k l0 l1 0) else (some false)) = some r := h;clear h;by_cases c3 : (l0.length : Int) = (l1.length : Int)
 ·rw [if_pos c3] at H;have c3b0 := beq_iff_eq.mpr c3;have c3b1 := bne_eq_false_iff_eq.mpr c3;have c3b2 : (l0.length == l1.length) = true := by first | simpa using c3 | (simp at c3 ⊢;omega)
  clear c3;have H' := Aside0.mk H;clear H;go_enter Tryd.func17,Tryd.ntmps17;go_wp2
  repeat (go_quiet (fail);try go_wp2)
  go_loopg [5] k (fun kq v5 w' => ∃ (x5_1 : Int),v5 = .int .i64 x5_1 ∧ Aside0 (ddiref38_Same.l0 kq l0 l1 x5_1 = some r) ∧ Aside0 (kq ≤ k) ∧ Drawn0 w w')
  case atStart => exact ⟨(0),XR.rf,H',⟨Nat.le_refl _⟩,by repeat (first | exact Drawn0.refl _ | apply Drawn0.step)⟩
  case round =>
   clear H';(try clear c1);(try clear p2);(try clear c3);(try clear c3b0);(try clear c3b1);(try clear c3b2);obtain ⟨x5_1,rfl,HA,HK1,⟨m1,rfl⟩⟩ := hrel
   cases gk with
   | zero => exact absurd HA.out (by simp [ddiref38_Same.l0])
   | succ k1 =>
    have H := HA.out;clear HA;simp only [ddiref38_Same.l0] at H;by_cases c4 : x5_1 < (l0.length : Int)
    ·rw [if_pos c4] at H;have c4b0 := decide_eq_true c4;clear c4;by_cases c5 : 0 ≤ x5_1
     ·rw [if_pos c5] at H;have c5b0 := decide_eq_true c5;clear c5;by_cases c6 : x5_1 < (l1.length : Int)
      ·rw [if_pos c6] at H;have c6b0 := decide_eq_true c6;clear c6;by_cases c7 : ((!(((rd_T41 l0 x5_1).f0.f0) == ((rd_T41 l1 x5_1).f0.f0)) || (!(((rd_T41 l0 x5_1).f0.f1) == ((rd_T41 l1 x5_1).f0.f1)) || (!(((rd_T41 l0 x5_1).f0.f2) == ((rd_T41 l1 x5_1).f0.f2))))) || (!((((rd_T41 l0 x5_1).f1).toList) == (((rd_T41 l1 x5_1).f1).toList)) || (!(((rd_T41 l0 x5_1).f2) == ((rd_T41 l1 x5_1).f2)) || (!(((rd_T41 l0 x5_1).f3) == ((rd_T41 l1 x5_1).f3)) || (!(((rd_T41 l0 x5_1).f4) == ((rd_T41 l1 x5_1).f4)) || (!((((rd_T41 l0 x5_1).f5).toList) == (((rd_T41 l1 x5_1).f5).toList)) || (!(((rd_T41 l0 x5_1).f6) == ((rd_T41 l1 x5_1).f6))))))))) = true
       ·rw [if_pos c7] at H;have c7b0 : ((!(((rd_T41 l0 x5_1).f0.f0) == ((rd_T41 l1 x5_1).f0.f0)) || (!(((rd_T41 l0 x5_1).f0.f1) == ((rd_T41 l1 x5_1).f0.f1)) || (!(((rd_T41 l0 x5_1).f0.f2) == ((rd_T41 l1 x5_1).f0.f2))))) || (!((((rd_T41 l0 x5_1).f1).toList) == (((rd_T41 l1 x5_1).f1).toList)) || (!(((rd_T41 l0 x5_1).f2) == ((rd_T41 l1 x5_1).f2)) || (!(((rd_T41 l0 x5_1).f3) == ((rd_T41 l1 x5_1).f3)) || (!(((rd_T41 l0 x5_1).f4) == ((rd_T41 l1 x5_1).f4)) || (!((((rd_T41 l0 x5_1).f5).toList) == (((rd_T41 l1 x5_1).f5).toList)) || (!(((rd_T41 l0 x5_1).f6) == ((rd_T41 l1 x5_1).f6))))))))) = true := c7;clear c7;obtain rfl := Option.some.inj H;have p425 : 0 ≤ (x5_1 : Int) := XR.od;have q425 : x5_1 < (l0.length : Int) := XR.od;obtain ⟨ad425,e425,hx425_0,hx425_1,hx425_2,hx425_3,hx425_4,hx425_5,hx425_6,hx425_7,hx425_8⟩ := at_T41 HR0.out x5_1 p425 q425
        cases e425
        replace p425 := eq_true p425;replace q425 := eq_true q425;have p426 : 0 ≤ (x5_1 : Int) := XR.od;have q426 : x5_1 < (l1.length : Int) := XR.od;obtain ⟨ad426,e426,hx426_0,hx426_1,hx426_2,hx426_3,hx426_4,hx426_5,hx426_6,hx426_7,hx426_8⟩ := at_T41 HR1.out x5_1 p426 q426
        cases e426
        replace p426 := eq_true p426;replace q426 := eq_true q426;go_wp2
        repeat (go_quiet (fail);try go_wp2)
        go_ret;exact ⟨by first | rfl | (simp;done) | (simp [*];done),by repeat (first | exact Drawn0.refl _ | apply Drawn0.step)⟩
       ·rw [if_neg c7] at H;have c7b0 : ((!(((rd_T41 l0 x5_1).f0.f0) == ((rd_T41 l1 x5_1).f0.f0)) || (!(((rd_T41 l0 x5_1).f0.f1) == ((rd_T41 l1 x5_1).f0.f1)) || (!(((rd_T41 l0 x5_1).f0.f2) == ((rd_T41 l1 x5_1).f0.f2))))) || (!((((rd_T41 l0 x5_1).f1).toList) == (((rd_T41 l1 x5_1).f1).toList)) || (!(((rd_T41 l0 x5_1).f2) == ((rd_T41 l1 x5_1).f2)) || (!(((rd_T41 l0 x5_1).f3) == ((rd_T41 l1 x5_1).f3)) || (!(((rd_T41 l0 x5_1).f4) == ((rd_T41 l1 x5_1).f4)) || (!((((rd_T41 l0 x5_1).f5).toList) == (((rd_T41 l1 x5_1).f5).toList)) || (!(((rd_T41 l0 x5_1).f6) == ((rd_T41 l1 x5_1).f6))))))))) = false := by simpa using c7
        clear c7;have H' := Aside0.mk H;clear H;have p425 : 0 ≤ (x5_1 : Int) := XR.od;have q425 : x5_1 < (l0.length : Int) := XR.od;obtain ⟨ad425,e425,hx425_0,hx425_1,hx425_2,hx425_3,hx425_4,hx425_5,hx425_6,hx425_7,hx425_8⟩ := at_T41 HR0.out x5_1 p425 q425
        cases e425
        replace p425 := eq_true p425;replace q425 := eq_true q425;have p426 : 0 ≤ (x5_1 : Int) := XR.od;have q426 : x5_1 < (l1.length : Int) := XR.od;obtain ⟨ad426,e426,hx426_0,hx426_1,hx426_2,hx426_3,hx426_4,hx426_5,hx426_6,hx426_7,hx426_8⟩ := at_T41 HR1.out x5_1 p426 q426
        cases e426
        replace p426 := eq_true p426;replace q426 := eq_true q426;go_wp2
        repeat (go_quiet (fail);try go_wp2)
        go_roundg k1
        case measure => have := HK1.out;omega
        case rel => exact ⟨(wrap64 (x5_1 + 1)),XR.rf,H',⟨by have := HK1.out;omega⟩,by repeat (first | exact Drawn0.refl _ | apply Drawn0.step)⟩
      ·rw [if_neg c6] at H;exact absurd H (by simp)
     ·rw [if_neg c5] at H;exact absurd H (by simp)
    ·rw [if_neg c4] at H;have c4b0 := decide_eq_false c4;clear c4;obtain rfl := Option.some.inj H;go_wp2
     repeat (go_quiet (fail);try go_wp2)
     go_ret;exact ⟨by first | rfl | (simp;done) | (simp [*];done),by repeat (first | exact Drawn0.refl _ | apply Drawn0.step)⟩
 ·rw [if_neg c3] at H;have c3b0 := beq_eq_false_iff_ne.mpr c3;have c3b1 := bne_iff_ne.mpr c3;have c3b2 : (l0.length == l1.length) = false := by first | simpa using c3 | (simp at c3 ⊢;omega)
  obtain rfl := Option.some.inj H;go_enter Tryd.func17,Tryd.ntmps17;go_wp2
  repeat (go_quiet (fail);try go_wp2)
  go_ret;exact ⟨by first | rfl | (simp;done) | (simp [*];done),by repeat (first | exact Drawn0.refl _ | apply Drawn0.step)⟩
set_option maxHeartbeats 8000000 in
set_option maxRecDepth 100000 in
theorem ddiref38_Find.calls (k : Nat) (A0 : Option Addr) (c0 : Nat) (l0 : List (S41)) (a1_0 : Bool) (a1_1 : Int) (a1_2 : Int) (r1 : Bool) (r2 : Int) (r3 : Int) (r4 : ByteArray) (r5 : Int) (r6 : Int) (r7 : Int) (r8 : ByteArray) (r9 : Int) (r10 : Bool) (w : World) (hr0 : Kd.C k41 w A0 l0.length l0) (hc0 : l0.length ≤ c0) (h : ddiref38_Find.f k l0 a1_0 a1_1 a1_2 = some (r1,r2,r3,r4,r5,r6,r7,r8,r9,r10)) :
  Calls Tryd.prog 23 #[.slice A0 l0.length c0,.agg #[.bool a1_0,.int .u64 a1_1,.int .u64 a1_2]] w fun e w' => e = .returned (.tuple #[.agg #[.bool r1,.int .u64 r2,.int .u64 r3,.string r4,.int .i64 r5,.int .i64 r6,.int .i64 r7,.string r8,.int .i64 r9],.bool r10]) ∧ Below w.heap.size w w' := by
 have hu29 := Tryd.underlying29;have hu41 := Tryd.underlying41;have HR0 := Aside0.mk hr0;have HC0 := Aside0.mk hc0;clear hr0 hc0;have HB := Aside0.mk (Below.refl w.heap.size w);have H : (ddiref38_Find.l0 k l0 0 a1_0 a1_1 a1_2) = some (r1,r2,r3,r4,r5,r6,r7,r8,r9,r10) := h;clear h;have H' := Aside0.mk H;clear H;go_enter Tryd.func23,Tryd.ntmps23;go_wp2_with (first | ((with_reducible refine gate_dst (N := 3) rfl ?_);refine XR.bx 3 29 #[.bool a1_0,.int .u64 a1_1,.int .u64 a1_2] ?_;intro gb427 hg w3 hbox hb;have BK427 := Aside0.mk (hbox);have GW427 := Aside0.mk (XR.ge hg HB.out);have GE427 := GW427;replace HB := Aside0.mk (XR.bB HB.out hb);clear hb hbox hg) | ((with_reducible refine gate_dst (N := 4) rfl ?_);refine XR.bx 4 41 #[.bool false,.int .u64 0,.int .u64 0,.string (⟨#[]⟩ : ByteArray),.int .i64 0,.int .i64 0,.int .i64 0,.string (⟨#[]⟩ : ByteArray),.int .i64 0] ?_;intro gb428 hg w4 hbox hb;have BK428 := Aside0.mk (hbox);have GW428 := Aside0.mk (XR.ge hg HB.out);have GE428 := GW428;have NB427_428 := Aside0.mk (XR.ne hg BK427.out);have NB428_427 := Aside0.mk (XR.en hg BK427.out);replace BK427 := Aside0.mk (XR.bb BK427.out hb);replace HB := Aside0.mk (below_step (XR.sB HB.out) hb);clear hb hbox hg))
 repeat (go_quiet (first | ((with_reducible refine gate_dst (N := 3) rfl ?_);refine XR.bx 3 29 #[.bool a1_0,.int .u64 a1_1,.int .u64 a1_2] ?_;intro gb427 hg w3 hbox hb;have BK427 := Aside0.mk (hbox);have GW427 := Aside0.mk (XR.ge hg HB.out);have GE427 := GW427;replace HB := Aside0.mk (XR.bB HB.out hb);clear hb hbox hg) | ((with_reducible refine gate_dst (N := 4) rfl ?_);refine XR.bx 4 41 #[.bool false,.int .u64 0,.int .u64 0,.string (⟨#[]⟩ : ByteArray),.int .i64 0,.int .i64 0,.int .i64 0,.string (⟨#[]⟩ : ByteArray),.int .i64 0] ?_;intro gb428 hg w4 hbox hb;have BK428 := Aside0.mk (hbox);have GW428 := Aside0.mk (XR.ge hg HB.out);have GE428 := GW428;have NB427_428 := Aside0.mk (XR.ne hg BK427.out);have NB428_427 := Aside0.mk (XR.en hg BK427.out);replace BK427 := Aside0.mk (XR.bb BK427.out hb);replace HB := Aside0.mk (below_step (XR.sB HB.out) hb);clear hb hbox hg));try go_wp2_with (first | ((with_reducible refine gate_dst (N := 3) rfl ?_);refine XR.bx 3 29 #[.bool a1_0,.int .u64 a1_1,.int .u64 a1_2] ?_;intro gb427 hg w3 hbox hb;have BK427 := Aside0.mk (hbox);have GW427 := Aside0.mk (XR.ge hg HB.out);have GE427 := GW427;replace HB := Aside0.mk (XR.bB HB.out hb);clear hb hbox hg) | ((with_reducible refine gate_dst (N := 4) rfl ?_);refine XR.bx 4 41 #[.bool false,.int .u64 0,.int .u64 0,.string (⟨#[]⟩ : ByteArray),.int .i64 0,.int .i64 0,.int .i64 0,.string (⟨#[]⟩ : ByteArray),.int .i64 0] ?_;intro gb428 hg w4 hbox hb;have BK428 := Aside0.mk (hbox);have GW428 := Aside0.mk (XR.ge hg HB.out);have GE428 := GW428;have NB427_428 := Aside0.mk (XR.ne hg BK427.out);have NB428_427 := Aside0.mk (XR.en hg BK427.out);replace BK427 := Aside0.mk (XR.bb BK427.out hb);replace HB := Aside0.mk (below_step (XR.sB HB.out) hb);clear hb hbox hg)))
 go_loopg [6] k (fun kq v6 w' => ∃ (x6_1 : Int) (x429000_1 : Bool) (x429001_1 : Int) (x429002_1 : Int) (x429003_1 : ByteArray) (x429004_1 : Int) (x429005_1 : Int) (x429006_1 : Int) (x429007_1 : ByteArray) (x429008_1 : Int),v6 = .int .i64 x6_1 ∧ Aside0 (ddiref38_Find.l0 kq l0 x6_1 a1_0 a1_1 a1_2 = some (r1,r2,r3,r4,r5,r6,r7,r8,r9,r10)) ∧ Aside0 (kq ≤ k) ∧ Aside0 (w'.heap[gb427]? = some (.cells #[.bool a1_0,.int .u64 a1_1,.int .u64 a1_2] 29 (0,0))) ∧ Aside0 (w'.heap[gb428]? = some (.cells #[.bool x429000_1,.int .u64 x429001_1,.int .u64 x429002_1,.string x429003_1,.int .i64 x429004_1,.int .i64 x429005_1,.int .i64 x429006_1,.string x429007_1,.int .i64 x429008_1] 41 (0,0))) ∧ Aside0 (Below w.heap.size w w'))
 case atStart => exact ⟨(0),(false),(0),(0),((⟨#[]⟩ : ByteArray)),(0),(0),(0),((⟨#[]⟩ : ByteArray)),(0),XR.rf,H',⟨Nat.le_refl _⟩,(XR.fb BK427.out),(XR.fb BK428.out),⟨XR.sB HB.out⟩⟩
 case round =>
  clear H';(try clear c2);(try clear p2);obtain ⟨x6_1,x429000_1,x429001_1,x429002_1,x429003_1,x429004_1,x429005_1,x429006_1,x429007_1,x429008_1,rfl,HA,HK1,BK427,BK428,HB⟩ := hrel
  cases gk with
  | zero => exact absurd HA.out (by simp [ddiref38_Find.l0])
  | succ k1 =>
   have H := HA.out;clear HA;simp only [ddiref38_Find.l0] at H;by_cases c5 : x6_1 < (l0.length : Int)
   ·rw [if_pos c5] at H;have c5b0 := decide_eq_true c5;clear c5;by_cases c6 : 0 ≤ x6_1
    ·rw [if_pos c6] at H;have c6b0 := decide_eq_true c6;clear c6;by_cases c7 : (((rd_T41 l0 x6_1).f0.f0) == a1_0 && (((rd_T41 l0 x6_1).f0.f1) == a1_1 && (((rd_T41 l0 x6_1).f0.f2) == a1_2))) = true
     ·rw [if_pos c7] at H;have c7b0 : (((rd_T41 l0 x6_1).f0.f0) == a1_0 && (((rd_T41 l0 x6_1).f0.f1) == a1_1 && (((rd_T41 l0 x6_1).f0.f2) == a1_2))) = true := c7;(try (have c7b1 : decide (((rd_T41 l0 x6_1).f0.f0) = a1_0 && (((rd_T41 l0 x6_1).f0.f1) == a1_1 && (((rd_T41 l0 x6_1).f0.f2) == a1_2))) = true := by simpa using c7));(try (have c7b2 : (((rd_T41 l0 x6_1).f0.f0) == a1_0 && (((rd_T41 l0 x6_1).f0.f1) == a1_1 && (((rd_T41 l0 x6_1).f0.f2) == a1_2))) = true := by simpa using c7));clear c7;simp only [Option.some.injEq,Prod.mk.injEq] at H;obtain ⟨rfl,rfl,rfl,rfl,rfl,rfl,rfl,rfl,rfl,rfl⟩ := H;have p429 : 0 ≤ (x6_1 : Int) := XR.od;have q429 : x6_1 < (l0.length : Int) := XR.od;obtain ⟨ad429,e429,hx429_0,hx429_1,hx429_2,hx429_3,hx429_4,hx429_5,hx429_6,hx429_7,hx429_8⟩ := at_T41 (Kd.C_below HR0.out HB.out) x6_1 p429 q429
      cases e429
      replace p429 := eq_true p429;replace q429 := eq_true q429;have hnb8 := NB427_428.out;have hnc8 := NB428_427.out;obtain ⟨Y9_0,Y9_1,Y9_2⟩ := XR.c3 BK427.out;obtain ⟨Z9_0,Z9_1,Z9_2⟩ := XR.f3 BK427.out;have p430 : 0 ≤ (x6_1 : Int) := XR.od;have q430 : x6_1 < (l0.length : Int) := XR.od;obtain ⟨ad430,e430,hx430_0,hx430_1,hx430_2,hx430_3,hx430_4,hx430_5,hx430_6,hx430_7,hx430_8⟩ := at_T41 HR0.out x6_1 p430 q430;obtain rfl : ad429 = ad430 := (by injection e430);replace hx430_0 := XR.held HB.out hx430_0;replace hx430_1 := XR.held HB.out hx430_1;replace hx430_2 := XR.held HB.out hx430_2;replace hx430_3 := XR.held HB.out hx430_3;replace hx430_4 := XR.held HB.out hx430_4;replace hx430_5 := XR.held HB.out hx430_5;replace hx430_6 := XR.held HB.out hx430_6;replace hx430_7 := XR.held HB.out hx430_7;replace hx430_8 := XR.held HB.out hx430_8;replace p430 := eq_true p430;replace q430 := eq_true q430;obtain ⟨Y10_0,Y10_1,Y10_2,Y10_3,Y10_4,Y10_5,Y10_6,Y10_7,Y10_8⟩ := XR.c9 BK428.out;obtain ⟨Z10_0,Z10_1,Z10_2,Z10_3,Z10_4,Z10_5,Z10_6,Z10_7,Z10_8⟩ := XR.f9 BK428.out;go_wp2
      repeat (go_quiet (fail);try go_wp2)
      refine bodyPost_ret (results_ct rfl _ _ gb428 41 #[.bool ((rd_T41 l0 x6_1).f0.f0),.int .u64 ((rd_T41 l0 x6_1).f0.f1),.int .u64 ((rd_T41 l0 x6_1).f0.f2),.string ((rd_T41 l0 x6_1).f1),.int .i64 ((rd_T41 l0 x6_1).f2),.int .i64 ((rd_T41 l0 x6_1).f3),.int .i64 ((rd_T41 l0 x6_1).f4),.string ((rd_T41 l0 x6_1).f5),.int .i64 ((rd_T41 l0 x6_1).f6)] (0,0) _ rfl (by first | exact XR.lb (XR.p9 BK428.out) | exact XR.p9 (XR.lb BK428.out)) Tryd.underlying41 rfl (by kernel_rfl)) rfl ?_;exact XR.re HB.out
     ·rw [if_neg c7] at H;have c7b0 : (((rd_T41 l0 x6_1).f0.f0) == a1_0 && (((rd_T41 l0 x6_1).f0.f1) == a1_1 && (((rd_T41 l0 x6_1).f0.f2) == a1_2))) = false := by simpa using c7
      (try (have c7b1 : decide (((rd_T41 l0 x6_1).f0.f0) = a1_0 && (((rd_T41 l0 x6_1).f0.f1) == a1_1 && (((rd_T41 l0 x6_1).f0.f2) == a1_2))) = false := by simpa using c7));(try (have c7b2 : (((rd_T41 l0 x6_1).f0.f0) == a1_0 && (((rd_T41 l0 x6_1).f0.f1) == a1_1 && (((rd_T41 l0 x6_1).f0.f2) == a1_2))) = false := by simpa using c7));(try (have c7b3 : ¬ (((rd_T41 l0 x6_1).f0.f0) = a1_0 && (((rd_T41 l0 x6_1).f0.f1) == a1_1 && (((rd_T41 l0 x6_1).f0.f2) == a1_2))) := by simpa using c7));clear c7;have H' := Aside0.mk H;clear H;have p429 : 0 ≤ (x6_1 : Int) := XR.od;have q429 : x6_1 < (l0.length : Int) := XR.od;obtain ⟨ad429,e429,hx429_0,hx429_1,hx429_2,hx429_3,hx429_4,hx429_5,hx429_6,hx429_7,hx429_8⟩ := at_T41 (Kd.C_below HR0.out HB.out) x6_1 p429 q429
      cases e429
      replace p429 := eq_true p429;replace q429 := eq_true q429;have hnb11 := NB427_428.out;have hnc11 := NB428_427.out;obtain ⟨Y12_0,Y12_1,Y12_2⟩ := XR.c3 BK427.out;obtain ⟨Z12_0,Z12_1,Z12_2⟩ := XR.f3 BK427.out;go_wp2
      repeat (go_quiet (fail);try go_wp2)
      go_roundg k1
      case measure => have := HK1.out;omega
      case rel => exact ⟨(wrap64 (x6_1 + 1)),(x429000_1),(x429001_1),(x429002_1),(x429003_1),(x429004_1),(x429005_1),(x429006_1),(x429007_1),(x429008_1),XR.rf,H',⟨by have := HK1.out;omega⟩,(XR.fb BK427.out),(XR.fb BK428.out),⟨XR.sB HB.out⟩⟩
    ·rw [if_neg c6] at H;exact absurd H (by simp)
   ·rw [if_neg c5] at H;have c5b0 := decide_eq_false c5;clear c5;simp only [Option.some.injEq,Prod.mk.injEq] at H;obtain ⟨rfl,rfl,rfl,rfl,rfl,rfl,rfl,rfl,rfl,rfl⟩ := H;have hnb13 := NB428_427.out;have hnc13 := NB427_428.out;obtain ⟨Y14_0,Y14_1,Y14_2,Y14_3,Y14_4,Y14_5,Y14_6,Y14_7,Y14_8⟩ := XR.c9 BK428.out;obtain ⟨Z14_0,Z14_1,Z14_2,Z14_3,Z14_4,Z14_5,Z14_6,Z14_7,Z14_8⟩ := XR.f9 BK428.out;go_wp2
    repeat (go_quiet (fail);try go_wp2)
    refine bodyPost_ret (results_ct rfl _ _ gb428 41 #[.bool false,.int .u64 0,.int .u64 0,.string (⟨#[]⟩ : ByteArray),.int .i64 0,.int .i64 0,.int .i64 0,.string (⟨#[]⟩ : ByteArray),.int .i64 0] (0,0) _ rfl (by first | exact XR.lb (XR.p9 BK428.out) | exact XR.p9 (XR.lb BK428.out)) Tryd.underlying41 rfl (by kernel_rfl)) rfl ?_;exact XR.re HB.out
end Go.Proofs.YtonpcojdpfmbkaaDoor.QA
