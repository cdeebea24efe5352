import Derived.Test.YtpcjablkjaiapaaDoorQAd1
import Derived.Test.YtpcjablkjaiapaaDoorQAx0
import Derived.Test.YtpcjablkjaiapaaDoorQAx2
import Derived.Test.YtpcjablkjaiapaaDoorQAx4
namespace Go.Proofs.YtpcjablkjaiapaaDoor.QA
open Go.RowKit Go.Proofs.YtpcjablkjaiapaaDoorW.PrintWords Go.Proofs.YtpcjablkjaiapaaDoorW.PrintLast Go.Proofs.YtpcjablkjaiapaaDoorW.PrintMore
attribute [local go_sem] max2_int min2_int max_two min_two max_three min_three max_four min_four   -- for this text's walks alone
attribute [local go_sem high] Go.Proofs.YtpcjablkjaiapaaDoor.XW.cell_setCell_lit
set_option linter.unusedVariables false
set_option linter.unusedSimpArgs false
attribute [local go_sem high] eqA27
set_option maxHeartbeats 8000000 in
set_option maxRecDepth 100000 in
theorem ddilaw44_tables.calls (k : Nat) (A0 : Option Addr) (c0 : Nat) (l0 : List (S27)) (A1 : Option Addr) (c1 : Nat) (l1 : List (S27)) (r : Bool) (w : World) (hr0 : Kd.C k27 w A0 l0.length l0) (hc0 : l0.length ≤ c0) (hr1 : Kd.C k27 w A1 l1.length l1) (hc1 : l1.length ≤ c1) (h : ddilaw44_tables.f k l0 l1 = some r) :
  Calls Tryd.prog 9 #[.slice A0 l0.length c0,.slice A1 l1.length c1] w fun e w' => e = .returned (.bool r) ∧ Drawn0 w w' := by
 have hu27 := Tryd.underlying27;have HR0 := Aside0.mk hr0;have HC0 := Aside0.mk hc0;clear hr0 hc0;have HR1 := Aside0.mk hr1;have HC1 := Aside0.mk hc1;clear hr1 hc1;have H : (if (l0.length : Int) = (l1.length : Int) then (ddilaw44_tables.l0 k l0 l1 0) else (some false)) = some r := h;clear h;by_cases c3 : (l0.length : Int) = (l1.length : Int)
 ·rw [if_pos c3] at H;have c3b0 := beq_iff_eq.mpr c3;have c3b1 := bne_eq_false_iff_eq.mpr c3;have c3b2 : (l0.length == l1.length) = true := by first | simpa using c3 | (simp at c3 ⊢;omega)
  clear c3;have H' := Aside0.mk H;clear H;go_enter Tryd.func9,Tryd.ntmps9;go_wp2
  repeat (go_quiet (fail);try go_wp2)
  go_loopg [5] k (fun kq v5 w' => ∃ (x5_1 : Int),v5 = .int .i64 x5_1 ∧ Aside0 (ddilaw44_tables.l0 kq l0 l1 x5_1 = some r) ∧ Aside0 (kq ≤ k) ∧ Drawn0 w w')
  case atStart => exact ⟨(0),XR.rf,H',⟨Nat.le_refl _⟩,by repeat (first | exact Drawn0.refl _ | apply Drawn0.step)⟩
  case round =>
   clear H';(try clear c1);(try clear p2);(try clear c3);(try clear c3b0);(try clear c3b1);(try clear c3b2);obtain ⟨x5_1,rfl,HA,HK1,⟨m1,rfl⟩⟩ := hrel
   cases gk with
   | zero => exact absurd HA.out (by simp [ddilaw44_tables.l0])
   | succ k1 =>
    have H := HA.out;clear HA;simp only [ddilaw44_tables.l0] at H;by_cases c4 : x5_1 < (l0.length : Int)
    ·rw [if_pos c4] at H;have c4b0 := decide_eq_true c4;clear c4;by_cases c5 : 0 ≤ x5_1
     ·rw [if_pos c5] at H;have c5b0 := decide_eq_true c5;clear c5;by_cases c6 : x5_1 < (l1.length : Int)
      ·rw [if_pos c6] at H;have c6b0 := decide_eq_true c6;clear c6;by_cases c7 : ((!(((rd_T27 l0 x5_1).f0.f0) == ((rd_T27 l1 x5_1).f0.f0)) || (!(((rd_T27 l0 x5_1).f0.f1) == ((rd_T27 l1 x5_1).f0.f1)) || (!(((rd_T27 l0 x5_1).f0.f2) == ((rd_T27 l1 x5_1).f0.f2))))) || (!((((rd_T27 l0 x5_1).f1).toList) == (((rd_T27 l1 x5_1).f1).toList)) || (!(((rd_T27 l0 x5_1).f2) == ((rd_T27 l1 x5_1).f2)) || (!(((rd_T27 l0 x5_1).f3) == ((rd_T27 l1 x5_1).f3)) || (!(((rd_T27 l0 x5_1).f4) == ((rd_T27 l1 x5_1).f4)) || (!((((rd_T27 l0 x5_1).f5).toList) == (((rd_T27 l1 x5_1).f5).toList)) || (!(((rd_T27 l0 x5_1).f6) == ((rd_T27 l1 x5_1).f6))))))))) = true
       ·rw [if_pos c7] at H;have c7b0 : ((!(((rd_T27 l0 x5_1).f0.f0) == ((rd_T27 l1 x5_1).f0.f0)) || (!(((rd_T27 l0 x5_1).f0.f1) == ((rd_T27 l1 x5_1).f0.f1)) || (!(((rd_T27 l0 x5_1).f0.f2) == ((rd_T27 l1 x5_1).f0.f2))))) || (!((((rd_T27 l0 x5_1).f1).toList) == (((rd_T27 l1 x5_1).f1).toList)) || (!(((rd_T27 l0 x5_1).f2) == ((rd_T27 l1 x5_1).f2)) || (!(((rd_T27 l0 x5_1).f3) == ((rd_T27 l1 x5_1).f3)) || (!(((rd_T27 l0 x5_1).f4) == ((rd_T27 l1 x5_1).f4)) || (!((((rd_T27 l0 x5_1).f5).toList) == (((rd_T27 l1 x5_1).f5).toList)) || (!(((rd_T27 l0 x5_1).f6) == ((rd_T27 l1 x5_1).f6))))))))) = true := c7;clear c7;obtain rfl := Option.some.inj H;have p187 : 0 ≤ (x5_1 : Int) := XR.od;have q187 : x5_1 < (l0.length : Int) := XR.od;obtain ⟨ad187,e187,hx187_0,hx187_1,hx187_2,hx187_3,hx187_4,hx187_5,hx187_6,hx187_7,hx187_8⟩ := at_T27 HR0.out x5_1 p187 q187
        cases e187
        replace p187 := eq_true p187;replace q187 := eq_true q187;have p188 : 0 ≤ (x5_1 : Int) := XR.od;have q188 : x5_1 < (l1.length : Int) := XR.od;obtain ⟨ad188,e188,hx188_0,hx188_1,hx188_2,hx188_3,hx188_4,hx188_5,hx188_6,hx188_7,hx188_8⟩ := at_T27 HR1.out x5_1 p188 q188
        cases e188
        replace p188 := eq_true p188;replace q188 := eq_true q188;go_wp2
        repeat (go_quiet (fail);try go_wp2)
        go_ret;exact ⟨by first | rfl | (simp;done) | (simp [*];done),by repeat (first | exact Drawn0.refl _ | apply Drawn0.step)⟩
       ·rw [if_neg c7] at H;have c7b0 : ((!(((rd_T27 l0 x5_1).f0.f0) == ((rd_T27 l1 x5_1).f0.f0)) || (!(((rd_T27 l0 x5_1).f0.f1) == ((rd_T27 l1 x5_1).f0.f1)) || (!(((rd_T27 l0 x5_1).f0.f2) == ((rd_T27 l1 x5_1).f0.f2))))) || (!((((rd_T27 l0 x5_1).f1).toList) == (((rd_T27 l1 x5_1).f1).toList)) || (!(((rd_T27 l0 x5_1).f2) == ((rd_T27 l1 x5_1).f2)) || (!(((rd_T27 l0 x5_1).f3) == ((rd_T27 l1 x5_1).f3)) || (!(((rd_T27 l0 x5_1).f4) == ((rd_T27 l1 x5_1).f4)) || (!((((rd_T27 l0 x5_1).f5).toList) == (((rd_T27 l1 x5_1).f5).toList)) || (!(((rd_T27 l0 x5_1).f6) == ((rd_T27 l1 x5_1).f6))))))))) = false := by simpa using c7
        clear c7;have H' := Aside0.mk H;clear H;have p187 : 0 ≤ (x5_1 : Int) := XR.od;have q187 : x5_1 < (l0.length : Int) := XR.od;obtain ⟨ad187,e187,hx187_0,hx187_1,hx187_2,hx187_3,hx187_4,hx187_5,hx187_6,hx187_7,hx187_8⟩ := at_T27 HR0.out x5_1 p187 q187
        cases e187
        replace p187 := eq_true p187;replace q187 := eq_true q187;have p188 : 0 ≤ (x5_1 : Int) := XR.od;have q188 : x5_1 < (l1.length : Int) := XR.od;obtain ⟨ad188,e188,hx188_0,hx188_1,hx188_2,hx188_3,hx188_4,hx188_5,hx188_6,hx188_7,hx188_8⟩ := at_T27 HR1.out x5_1 p188 q188
        cases e188
        replace p188 := eq_true p188;replace q188 := eq_true q188;go_wp2
        repeat (go_quiet (fail);try go_wp2)
        go_roundg k1
        case measure => have := HK1.out;omega
        case rel => exact ⟨(wrap64 (x5_1 + 1)),XR.rf,H',⟨by have := HK1.out;omega⟩,by repeat (first | exact Drawn0.refl _ | apply Drawn0.step)⟩
      ·rw [if_neg c6] at H;exact absurd H (by simp)
     ·rw [if_neg c5] at H;exact absurd H (by simp)
    ·rw [if_neg c4] at H;have c4b0 := decide_eq_false c4;clear c4;obtain rfl := Option.some.inj H;go_wp2
     repeat (go_quiet (fail);try go_wp2)
     go_ret;exact ⟨by first | rfl | (simp;done) | (simp [*];done),by repeat (first | exact Drawn0.refl _ | apply Drawn0.step)⟩
 ·rw [if_neg c3] at H;have c3b0 := beq_eq_false_iff_ne.mpr c3;have c3b1 := bne_iff_ne.mpr c3;have c3b2 : (l0.length == l1.length) = false := by first | simpa using c3 | (simp at c3 ⊢;omega)
  obtain rfl := Option.some.inj H;go_enter Tryd.func9,Tryd.ntmps9;go_wp2
  repeat (go_quiet (fail);try go_wp2)
  go_ret;exact ⟨by first | rfl | (simp;done) | (simp [*];done),by repeat (first | exact Drawn0.refl _ | apply Drawn0.step)⟩
set_option maxHeartbeats 8000000 in
set_option maxRecDepth 100000 in
theorem lease_place_1.calls (k : Nat) (a0_0 : Bool) (a0_1 : Int) (a0_2 : Int) (a0_3 : ByteArray) (a0_4 : Int) (a0_5 : Int) (a0_6 : Int) (a0_7 : ByteArray) (a0_8 : Int) (a1_0 : Bool) (a1_1 : Int) (a1_2 : Int) (r : Int) (w : World) (h : lease_place_1.f k a0_0 a0_1 a0_2 a0_3 a0_4 a0_5 a0_6 a0_7 a0_8 a1_0 a1_1 a1_2 = some r) :
  Calls Tryd.prog 57 #[.agg #[.bool a0_0,.int .u64 a0_1,.int .u64 a0_2,.string a0_3,.int .i64 a0_4,.int .i64 a0_5,.int .i64 a0_6,.string a0_7,.int .i64 a0_8],.agg #[.bool a1_0,.int .u64 a1_1,.int .u64 a1_2]] w fun e w' => e = .returned (.int .i64 r) ∧ Below w.heap.size w w' := by
 have hu27 := Tryd.underlying27;have hu25 := Tryd.underlying25;have HB := Aside0.mk (Below.refl w.heap.size w);have H : ((addr_Compare.f k a0_0 a0_1 a0_2 a1_0 a1_1 a1_2).bind fun t191 => (some t191)) = some r := h;clear h;replace H := Option.bind_eq_some_iff.mp H;obtain ⟨t191,A30,H⟩ := H;replace H : (some t191) = some r := H;have A3 := Aside0.mk A30;clear A30;obtain rfl := Option.some.inj H;go_enter Tryd.func57,Tryd.ntmps57;go_wp2_with (first | ((with_reducible refine gate_dst (N := 2) rfl ?_);refine XR.bx 2 27 #[.bool a0_0,.int .u64 a0_1,.int .u64 a0_2,.string a0_3,.int .i64 a0_4,.int .i64 a0_5,.int .i64 a0_6,.string a0_7,.int .i64 a0_8] ?_;intro gb189 hg w4 hbox hb;have BK189 := Aside0.mk (hbox);have GW189 := Aside0.mk (XR.ge hg HB.out);have GE189 := GW189;replace HB := Aside0.mk (XR.bB HB.out hb);clear hb hbox hg) | ((with_reducible refine gate_dst (N := 3) rfl ?_);refine XR.bx 3 25 #[.bool a1_0,.int .u64 a1_1,.int .u64 a1_2] ?_;intro gb190 hg w5 hbox hb;have BK190 := Aside0.mk (hbox);have GW190 := Aside0.mk (XR.ge hg HB.out);have GE190 := GW190;have NB189_190 := Aside0.mk (XR.ne hg BK189.out);have NB190_189 := Aside0.mk (XR.en hg BK189.out);replace BK189 := Aside0.mk (XR.bb BK189.out hb);replace HB := Aside0.mk (below_step (XR.sB HB.out) hb);clear hb hbox hg;have hnb6 := NB189_190.out;have hnc6 := NB190_189.out;obtain ⟨Y7_0,Y7_1,Y7_2,Y7_3,Y7_4,Y7_5,Y7_6,Y7_7,Y7_8⟩ := XR.c9 BK189.out;obtain ⟨Z7_0,Z7_1,Z7_2,Z7_3,Z7_4,Z7_5,Z7_6,Z7_7,Z7_8⟩ := XR.f9 BK189.out;obtain ⟨Y8_0,Y8_1,Y8_2⟩ := XR.c3 BK190.out;obtain ⟨Z8_0,Z8_1,Z8_2⟩ := XR.f3 BK190.out) | ((with_reducible refine gate_callee (f := 24) rfl ?_);refine XR.gL 8 Tryd.func24 #[.agg #[.bool a0_0,.int .u64 a0_1,.int .u64 a0_2],.agg #[.bool a1_0,.int .u64 a1_1,.int .u64 a1_2]] ?_;(with_reducible refine (addr_Compare.calls k a0_0 a0_1 a0_2 a1_0 a1_1 a1_2 t191 _ A3.out).mono ?_);rintro e w9 ⟨rfl,hb⟩;refine ⟨_,rfl,?_⟩;replace BK189 := Aside0.mk (XR.bb BK189.out hb);replace BK190 := Aside0.mk (XR.bb BK190.out hb);replace HB := Aside0.mk (below_step (XR.sB HB.out) hb);(try clear hb)));go_ret;exact XR.re HB.out
end Go.Proofs.YtpcjablkjaiapaaDoor.QA
