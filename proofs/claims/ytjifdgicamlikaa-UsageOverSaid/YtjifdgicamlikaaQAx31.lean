import Derived.Test.YtjifdgicamlikaaQAd2
import Derived.Test.YtjifdgicamlikaaQAx0
import Derived.Test.YtjifdgicamlikaaQAx2
import Derived.Test.YtjifdgicamlikaaQAx18
import Derived.Test.YtjifdgicamlikaaQAx25
import Derived.Test.YtjifdgicamlikaaXO
namespace Go.Proofs.Ytjifdgicamlikaa.QA
open Go.RowKit Go.Proofs.YtjifdgicamlikaaW.PrintWords Go.Proofs.YtjifdgicamlikaaW.PrintLast Go.Proofs.YtjifdgicamlikaaW.PrintMore
attribute [local go_sem] max2_int min2_int max_two min_two max_three min_three max_four min_four
attribute [local go_sem high] Go.Proofs.Ytjifdgicamlikaa.XW.cell_setCell_lit
set_option linter.unusedVariables false
set_option linter.unusedSimpArgs false
attribute [local go_sem high] eqA31
set_option maxHeartbeats 8000000 in
set_option maxRecDepth 100000 in
theorem ddilaw48_prefixes.calls (k : Nat) (A0 : Option Addr) (c0 : Nat) (l0 : List (S31)) (A1 : Option Addr) (c1 : Nat) (l1 : List (S31)) (r : Bool) (w : World) (hr0 : Kd.C k31 w A0 l0.length l0) (hc0 : l0.length ≤ c0) (hr1 : Kd.C k31 w A1 l1.length l1) (hc1 : l1.length ≤ c1) (h : ddilaw48_prefixes.f k l0 l1 = some r) :
  Calls Try.prog 14 #[.slice A0 l0.length c0,.slice A1 l1.length c1] w fun e w' => e = .returned (.bool r) ∧ Drawn0 w w' := by
 have hu31 := Try.underlying31;have HR0 := Aside0.mk hr0;have HC0 := Aside0.mk hc0;clear hr0 hc0;have HR1 := Aside0.mk hr1;have HC1 := Aside0.mk hc1;clear hr1 hc1;have H : (if (l0.length : Int) = (l1.length : Int) then (ddilaw48_prefixes.l0 k l0 l1 0) else (some false)) = some r := h;clear h;by_cases c3 : (l0.length : Int) = (l1.length : Int)
 ·rw [if_pos c3] at H;have c3b0 := beq_iff_eq.mpr c3;have c3b1 := bne_eq_false_iff_eq.mpr c3;have c3b2 : (l0.length == l1.length) = true := by first | simpa using c3 | (simp at c3 ⊢;omega)
  clear c3;have H' := Aside0.mk H;clear H;go_enter Try.func14,Try.ntmps14;go_wp2
  repeat (go_quiet (fail);try go_wp2)
  go_loopg [5] k (fun kq v5 w' => ∃ (x5_1 : Int),v5 = .int .i64 x5_1 ∧ Aside0 (ddilaw48_prefixes.l0 kq l0 l1 x5_1 = some r) ∧ Aside0 (kq ≤ k) ∧ Drawn0 w w')
  case atStart => exact ⟨(0),XR.rf,H',⟨Nat.le_refl _⟩,by repeat (first | exact Drawn0.refl _ | apply Drawn0.step)⟩
  case round =>
   clear H';(try clear c1);(try clear p2);(try clear c3);(try clear c3b0);(try clear c3b1);(try clear c3b2);obtain ⟨x5_1,rfl,HA,HK1,⟨m1,rfl⟩⟩ := hrel
   cases gk with
   | zero => exact absurd HA.out (by simp [ddilaw48_prefixes.l0])
   | succ k1 =>
    have H := HA.out;clear HA;simp only [ddilaw48_prefixes.l0] at H;by_cases c4 : x5_1 < (l0.length : Int)
    ·rw [if_pos c4] at H;have c4b0 := decide_eq_true c4;clear c4;by_cases c5 : 0 ≤ x5_1
     ·rw [if_pos c5] at H;have c5b0 := decide_eq_true c5;clear c5;by_cases c6 : x5_1 < (l1.length : Int)
      ·rw [if_pos c6] at H;have c6b0 := decide_eq_true c6;clear c6;by_cases c7 : ((!(((rd_T31 l0 x5_1).f0.f0) == ((rd_T31 l1 x5_1).f0.f0)) || (!(((rd_T31 l0 x5_1).f0.f1) == ((rd_T31 l1 x5_1).f0.f1)) || (!(((rd_T31 l0 x5_1).f0.f2) == ((rd_T31 l1 x5_1).f0.f2))))) || (!(((rd_T31 l0 x5_1).f1) == ((rd_T31 l1 x5_1).f1)))) = true
       ·rw [if_pos c7] at H;have c7b0 : ((!(((rd_T31 l0 x5_1).f0.f0) == ((rd_T31 l1 x5_1).f0.f0)) || (!(((rd_T31 l0 x5_1).f0.f1) == ((rd_T31 l1 x5_1).f0.f1)) || (!(((rd_T31 l0 x5_1).f0.f2) == ((rd_T31 l1 x5_1).f0.f2))))) || (!(((rd_T31 l0 x5_1).f1) == ((rd_T31 l1 x5_1).f1)))) = true := c7;clear c7;obtain rfl := Option.some.inj H;have p456 : 0 ≤ (x5_1 : Int) := XR.od;have q456 : x5_1 < (l0.length : Int) := XR.od;obtain ⟨ad456,e456,hx456_0,hx456_1,hx456_2,hx456_3⟩ := at_T31 HR0.out x5_1 p456 q456
        cases e456
        replace p456 := eq_true p456;replace q456 := eq_true q456;have p457 : 0 ≤ (x5_1 : Int) := XR.od;have q457 : x5_1 < (l1.length : Int) := XR.od;obtain ⟨ad457,e457,hx457_0,hx457_1,hx457_2,hx457_3⟩ := at_T31 HR1.out x5_1 p457 q457
        cases e457
        replace p457 := eq_true p457;replace q457 := eq_true q457;go_wp2
        repeat (go_quiet (fail);try go_wp2)
        go_ret;exact ⟨by first | rfl | (simp;done) | (simp [*];done),by repeat (first | exact Drawn0.refl _ | apply Drawn0.step)⟩
       ·rw [if_neg c7] at H;have c7b0 : ((!(((rd_T31 l0 x5_1).f0.f0) == ((rd_T31 l1 x5_1).f0.f0)) || (!(((rd_T31 l0 x5_1).f0.f1) == ((rd_T31 l1 x5_1).f0.f1)) || (!(((rd_T31 l0 x5_1).f0.f2) == ((rd_T31 l1 x5_1).f0.f2))))) || (!(((rd_T31 l0 x5_1).f1) == ((rd_T31 l1 x5_1).f1)))) = false := by simpa using c7
        clear c7;have H' := Aside0.mk H;clear H;have p456 : 0 ≤ (x5_1 : Int) := XR.od;have q456 : x5_1 < (l0.length : Int) := XR.od;obtain ⟨ad456,e456,hx456_0,hx456_1,hx456_2,hx456_3⟩ := at_T31 HR0.out x5_1 p456 q456
        cases e456
        replace p456 := eq_true p456;replace q456 := eq_true q456;have p457 : 0 ≤ (x5_1 : Int) := XR.od;have q457 : x5_1 < (l1.length : Int) := XR.od;obtain ⟨ad457,e457,hx457_0,hx457_1,hx457_2,hx457_3⟩ := at_T31 HR1.out x5_1 p457 q457
        cases e457
        replace p457 := eq_true p457;replace q457 := eq_true q457;go_wp2
        repeat (go_quiet (fail);try go_wp2)
        go_roundg k1
        case measure => have := HK1.out;omega
        case rel => exact ⟨(wrap64 (x5_1 + 1)),XR.rf,H',⟨by have := HK1.out;omega⟩,by repeat (first | exact Drawn0.refl _ | apply Drawn0.step)⟩
      ·rw [if_neg c6] at H;exact absurd H (by simp)
     ·rw [if_neg c5] at H;exact absurd H (by simp)
    ·rw [if_neg c4] at H;have c4b0 := decide_eq_false c4;clear c4;obtain rfl := Option.some.inj H;go_wp2
     repeat (go_quiet (fail);try go_wp2)
     go_ret;exact ⟨by first | rfl | (simp;done) | (simp [*];done),by repeat (first | exact Drawn0.refl _ | apply Drawn0.step)⟩
 ·rw [if_neg c3] at H;have c3b0 := beq_eq_false_iff_ne.mpr c3;have c3b1 := bne_iff_ne.mpr c3;have c3b2 : (l0.length == l1.length) = false := by first | simpa using c3 | (simp at c3 ⊢;omega)
  obtain rfl := Option.some.inj H;go_enter Try.func14,Try.ntmps14;go_wp2
  repeat (go_quiet (fail);try go_wp2)
  go_ret;exact ⟨by first | rfl | (simp;done) | (simp [*];done),by repeat (first | exact Drawn0.refl _ | apply Drawn0.step)⟩
set_option maxHeartbeats 8000000 in
set_option maxRecDepth 100000 in
theorem ddiref48_Over.calls (k : Nat) (A0 : Option Addr) (c0 : Nat) (l0 : List (S39)) (a1 : Int) (r : List (S31)) (w : World) (hr0 : Kd.C k39 w A0 l0.length l0) (hc0 : l0.length ≤ c0) (h : ddiref48_Over.f k l0 a1 = some r) :
  Calls Try.prog 16 #[.slice A0 l0.length c0,.int .i64 a1] w fun e w' => ∃ v0_ : Value,e = .returned (v0_) ∧ Kd.R k31 31 w' w.heap.size (fun _ => True) v0_ r ∧ Below w.heap.size w w' := by
 have hu31 := Try.underlying31;have HR0 := Aside0.mk hr0;have HC0 := Aside0.mk hc0;clear hr0 hc0;have HB := Aside0.mk (Below.refl w.heap.size w);have H : (ddiref48_Over.l0 k l0 a1 ([] : List (S31)) 0) = some r := h;clear h;have H' := Aside0.mk H;clear H;go_enter Try.func16,Try.ntmps16;go_wp2;go_loopg [5,6] k (fun kq v5 v6 w' => ∃ (x5_1 : List (S31)) (x6_1 : Int),v6 = .int .i64 x6_1 ∧ Aside0 (ddiref48_Over.l0 kq l0 a1 x5_1 x6_1 = some r) ∧ Aside0 (kq ≤ k) ∧ Aside0 (Kd.R k31 31 w' w.heap.size (fun _ => True) v5 x5_1) ∧ Aside0 (Below w.heap.size w w'))
 case atStart => exact ⟨(([] : List (S31))),(0),XR.rf,H',⟨Nat.le_refl _⟩,⟨by first | exact Kd.R_nil _ _ _ _ _ | exact Kd.N_nil _ _ _ _ _ | exact Kd.V_nil _ _ _ _ _ | exact Kd.Q_nil _ _ _ _ _ | exact Kd.S_nil _ _ _ _ _⟩,⟨XR.sB HB.out⟩⟩
 case round =>
  clear H';(try clear c1);(try clear p2);obtain ⟨x5_1,x6_1,rfl,HA,HK1,HO_5,HB⟩ := hrel
  cases gk with
  | zero => exact absurd HA.out (by simp [ddiref48_Over.l0])
  | succ k1 =>
   have H := HA.out;clear HA;simp only [ddiref48_Over.l0] at H;by_cases c3 : x6_1 < (l0.length : Int)
   ·rw [if_pos c3] at H;have c3b0 := decide_eq_true c3;clear c3;by_cases c4 : 0 ≤ x6_1
    ·rw [if_pos c4] at H;have c4b0 := decide_eq_true c4;clear c4;by_cases c5 : ((rd_T39 l0 x6_1).f3) ≥ a1
     ·rw [if_pos c5] at H;have c5b0 := decide_eq_true c5;clear c5;by_cases c6 : x5_1.length < 4398046511104
      ·rw [if_pos c6] at H;have LMc6 := Aside0.mk c6;clear c6;obtain ⟨y460,hy460⟩ : ∃ y_ : List (S31),y_ = (x5_1 ++ [(⟨(⟨(rd_T39 l0 x6_1).f0.f0.f0,(rd_T39 l0 x6_1).f0.f0.f1,(rd_T39 l0 x6_1).f0.f0.f2⟩ : S29),(rd_T39 l0 x6_1).f0.f1⟩ : S31)]) := ⟨_,rfl⟩;replace H : (ddiref48_Over.l0 k1 l0 a1 y460 (wrap64 (x6_1 + 1))) = some r := by first | (rw [hy460];with_reducible exact H) | (have H2_ := (Option.bind_some _ _).symm.trans H;rw [hy460];with_reducible exact H2_) | (have H2_ := (Option.bind_some _ _).symm.trans H;with_reducible exact H2_) | with_reducible exact H | (rw [hy460];exact H) | exact H
       have Ny460 := Aside0.mk hy460;clear hy460;have H' := Aside0.mk H;clear H;have p458 : 0 ≤ (x6_1 : Int) := XR.od;have q458 : x6_1 < (l0.length : Int) := XR.od;obtain ⟨ad458,e458,hx458_0,hx458_1,hx458_2,hx458_3,hx458_4,hx458_5,hx458_6⟩ := at_T39 HR0.out x6_1 p458 q458
       cases e458
       (try (with_reducible replace hx458_0 := XR.held HB.out hx458_0));(try (with_reducible replace hx458_1 := XR.held HB.out hx458_1));(try (with_reducible replace hx458_2 := XR.held HB.out hx458_2));(try (with_reducible replace hx458_3 := XR.held HB.out hx458_3));(try (with_reducible replace hx458_4 := XR.held HB.out hx458_4));(try (with_reducible replace hx458_5 := XR.held HB.out hx458_5));(try (with_reducible replace hx458_6 := XR.held HB.out hx458_6));replace p458 := eq_true p458;replace q458 := eq_true q458;have p459 : 0 ≤ (x6_1 : Int) := XR.od;have q459 : x6_1 < (l0.length : Int) := XR.od;obtain ⟨ad459,e459,hx459_0,hx459_1,hx459_2,hx459_3,hx459_4,hx459_5,hx459_6⟩ := at_T39 HR0.out x6_1 p459 q459;obtain rfl : ad458 = ad459 := (by injection e459);(try (with_reducible replace hx459_0 := XR.held HB.out hx459_0));(try (with_reducible replace hx459_1 := XR.held HB.out hx459_1));(try (with_reducible replace hx459_2 := XR.held HB.out hx459_2));(try (with_reducible replace hx459_3 := XR.held HB.out hx459_3));(try (with_reducible replace hx459_4 := XR.held HB.out hx459_4));(try (with_reducible replace hx459_5 := XR.held HB.out hx459_5));(try (with_reducible replace hx459_6 := XR.held HB.out hx459_6));replace p459 := eq_true p459;replace q459 := eq_true q459;go_wp2_with (first | ((with_reducible refine gate_builtin (b := .append) (xs := #[.tmp 20,.tmp 26]) rfl ?_);at_builtin;refine Kd.R_append k31 (w0 := w) w.heap.size rfl (.tmp 20) (.tmp 26) 48 31 (.agg #[(.bool false),(.int .u64 0),(.int .u64 0),(.int .i64 0)]) 32 rfl Try.underlying48 info31 rfl (by decide) (by omega) u5 x5_1 (⟨(⟨(rd_T39 l0 x6_1).f0.f0.f0,(rd_T39 l0 x6_1).f0.f0.f1,(rd_T39 l0 x6_1).f0.f0.f2⟩ : S29),(rd_T39 l0 x6_1).f0.f1⟩ : S31) [.bool ((rd_T39 l0 x6_1).f0.f0.f0),.int .u64 ((rd_T39 l0 x6_1).f0.f0.f1),.int .u64 ((rd_T39 l0 x6_1).f0.f0.f2),.int .i64 ((rd_T39 l0 x6_1).f0.f1)] (fun _ => True) (fun _ => False) rfl rfl ?aP (fun _ hk => hk.elim) ?aF ?aO ?aB ?aS ?aL ?_;(case aP => exact k31_mkM _ _ _ (⟨(⟨(rd_T39 l0 x6_1).f0.f0.f0,(rd_T39 l0 x6_1).f0.f0.f1,(rd_T39 l0 x6_1).f0.f0.f2⟩ : S29),(rd_T39 l0 x6_1).f0.f1⟩ : S31));(case aB => exact (XR.lB HB.out));(case aF => exact (fun _ _ => trivial));(case aO => exact (XR.lR HO_5.out));(case aS => exact (below_size (XR.lB HB.out)));(case aL => have := LMc6.out;omega);intro v461 w7 ho hb hg hat;rw [← Ny460.out] at ho;have n0_ := Aside0.mk (hb);have n1_ := Aside0.mk (ho);clear HB;clear HO_5;have HB := n0_;have HO462 := n1_;clear n0_ n1_;clear ho hb hg hat));go_roundg k1
       case measure => have := HK1.out;omega
       case rel => exact ⟨(y460),(wrap64 (x6_1 + 1)),XR.rf,H',⟨by have := HK1.out;omega⟩,⟨by (with_reducible repeat (first | apply Kd.R_alloc | apply Kd.R_drewN | apply Kd.R_drew));exact HO462.out⟩,⟨XR.sB HB.out⟩⟩
      ·rw [if_neg c6] at H;exact absurd H (by simp)
     ·rw [if_neg c5] at H;have c5b0 := decide_eq_false c5;clear c5;have H' := Aside0.mk H;clear H;have p458 : 0 ≤ (x6_1 : Int) := XR.od;have q458 : x6_1 < (l0.length : Int) := XR.od;obtain ⟨ad458,e458,hx458_0,hx458_1,hx458_2,hx458_3,hx458_4,hx458_5,hx458_6⟩ := at_T39 HR0.out x6_1 p458 q458
      cases e458
      (try (with_reducible replace hx458_0 := XR.held HB.out hx458_0));(try (with_reducible replace hx458_1 := XR.held HB.out hx458_1));(try (with_reducible replace hx458_2 := XR.held HB.out hx458_2));(try (with_reducible replace hx458_3 := XR.held HB.out hx458_3));(try (with_reducible replace hx458_4 := XR.held HB.out hx458_4));(try (with_reducible replace hx458_5 := XR.held HB.out hx458_5));(try (with_reducible replace hx458_6 := XR.held HB.out hx458_6));replace p458 := eq_true p458;replace q458 := eq_true q458;go_wp2;go_roundg k1
      case measure => have := HK1.out;omega
      case rel => exact ⟨(x5_1),(wrap64 (x6_1 + 1)),XR.rf,H',⟨by have := HK1.out;omega⟩,⟨by (with_reducible repeat (first | apply Kd.R_alloc | apply Kd.R_drewN | apply Kd.R_drew));exact HO_5.out⟩,⟨XR.sB HB.out⟩⟩
    ·rw [if_neg c4] at H;exact absurd H (by simp)
   ·rw [if_neg c3] at H;have c3b0 := decide_eq_false c3;clear c3;obtain rfl := Option.some.inj H;go_wp2;go_ret;exact ⟨_,by first | rfl | (simp [errW_none,errW_some] <;> rfl) | (simp [*,errW_none,errW_some] <;> rfl),by (with_reducible repeat (first | apply Kd.R_alloc | apply Kd.R_drewN | apply Kd.R_drew));exact HO_5.out,XR.sB HB.out⟩
set_option maxHeartbeats 8000000 in
set_option maxRecDepth 100000 in
theorem ddilaw48_UsageOver.calls (k : Nat) (A0 : Option Addr) (c0 : Nat) (l0 : List (S39)) (a1 : Int) (r : Bool) (w : World) (hr0 : Kd.C k39 w A0 l0.length l0) (hc0 : l0.length ≤ c0) (h : ddilaw48_UsageOver.f k l0 a1 = some r) (hT_ : r = true) :
  Calls Try.prog 4 #[.slice A0 l0.length c0,.int .i64 a1] w fun e w' => e = .returned (.bool r) ∧ Below w.heap.size w w' := by
 have hu39 := Try.underlying39;have HR0 := Aside0.mk hr0;have HC0 := Aside0.mk hc0;clear hr0 hc0;have HB := Aside0.mk (Below.refl w.heap.size w);have H : (ddilaw48_UsageOver.l0 k l0 a1 ([] : List (S36)) 0) = some r := h;clear h;have H' := Aside0.mk H;clear H;go_enter Try.func4,Try.ntmps4;go_wp2;go_loopg [5,6] k (fun kq v5 v6 w' => ∃ (x5_1 : List (S36)) (x6_1 : Int),v6 = .int .i64 x6_1 ∧ Aside0 (ddilaw48_UsageOver.l0 kq l0 a1 x5_1 x6_1 = some r) ∧ Aside0 (kq ≤ k) ∧ Aside0 (Kd.R k36 36 w' w.heap.size (fun _ => True) v5 x5_1) ∧ Aside0 (Below w.heap.size w w'))
 case atStart => exact ⟨(([] : List (S36))),(0),XR.rf,H',⟨Nat.le_refl _⟩,⟨by first | exact Kd.R_nil _ _ _ _ _ | exact Kd.N_nil _ _ _ _ _ | exact Kd.V_nil _ _ _ _ _ | exact Kd.Q_nil _ _ _ _ _ | exact Kd.S_nil _ _ _ _ _⟩,⟨XR.sB HB.out⟩⟩
 case round =>
  clear H';(try clear p2);obtain ⟨x5_1,x6_1,rfl,HA,HK1,HO_5,HB⟩ := hrel
  cases gk with
  | zero => exact absurd HA.out (by simp [ddilaw48_UsageOver.l0])
  | succ k1 =>
   have H := HA.out;clear HA;simp only [ddilaw48_UsageOver.l0] at H;by_cases c3 : x6_1 < (l0.length : Int)
   ·rw [if_pos c3] at H;have c3b0 := decide_eq_true c3;clear c3;by_cases c4 : 0 ≤ x6_1
    ·rw [if_pos c4] at H;have c4b0 := decide_eq_true c4;clear c4;by_cases c5 : x5_1.length < 2513169434916
     ·rw [if_pos c5] at H;have LMc5 := Aside0.mk c5;clear c5;obtain ⟨y464,hy464⟩ : ∃ y_ : List (S36),y_ = (x5_1 ++ [(⟨(⟨(⟨(rd_T39 l0 x6_1).f0.f0.f0,(rd_T39 l0 x6_1).f0.f0.f1,(rd_T39 l0 x6_1).f0.f0.f2⟩ : S29),(rd_T39 l0 x6_1).f0.f1⟩ : S31),(rd_T39 l0 x6_1).f1,(rd_T39 l0 x6_1).f2,(rd_T39 l0 x6_1).f3⟩ : S36)]) := ⟨_,rfl⟩;replace H : (ddilaw48_UsageOver.l0 k1 l0 a1 y464 (wrap64 (x6_1 + 1))) = some r := by first | (rw [hy464];with_reducible exact H) | (have H2_ := (Option.bind_some _ _).symm.trans H;rw [hy464];with_reducible exact H2_) | (have H2_ := (Option.bind_some _ _).symm.trans H;with_reducible exact H2_) | with_reducible exact H | (rw [hy464];exact H) | exact H
      have Ny464 := Aside0.mk hy464;clear hy464;have H' := Aside0.mk H;clear H;have p463 : 0 ≤ (x6_1 : Int) := XR.od;have q463 : x6_1 < (l0.length : Int) := XR.od;obtain ⟨ad463,e463,hx463_0,hx463_1,hx463_2,hx463_3,hx463_4,hx463_5,hx463_6⟩ := at_T39 HR0.out x6_1 p463 q463
      cases e463
      (try (with_reducible replace hx463_0 := XR.held HB.out hx463_0));(try (with_reducible replace hx463_1 := XR.held HB.out hx463_1));(try (with_reducible replace hx463_2 := XR.held HB.out hx463_2));(try (with_reducible replace hx463_3 := XR.held HB.out hx463_3));(try (with_reducible replace hx463_4 := XR.held HB.out hx463_4));(try (with_reducible replace hx463_5 := XR.held HB.out hx463_5));(try (with_reducible replace hx463_6 := XR.held HB.out hx463_6));replace p463 := eq_true p463;replace q463 := eq_true q463;go_wp2_with (first | ((with_reducible refine gate_builtin (b := .append) (xs := #[.tmp 13,.tmp 18]) rfl ?_);at_builtin;refine Kd.R_append k36 (w0 := w) w.heap.size rfl (.tmp 13) (.tmp 18) 42 36 (.agg #[(.bool false),(.int .u64 0),(.int .u64 0),(.int .i64 0),(.int .u64 0),(.int .u64 0),(.int .i64 0)]) 56 rfl Try.underlying42 info36 rfl (by decide) (by omega) u5 x5_1 (⟨(⟨(⟨(rd_T39 l0 x6_1).f0.f0.f0,(rd_T39 l0 x6_1).f0.f0.f1,(rd_T39 l0 x6_1).f0.f0.f2⟩ : S29),(rd_T39 l0 x6_1).f0.f1⟩ : S31),(rd_T39 l0 x6_1).f1,(rd_T39 l0 x6_1).f2,(rd_T39 l0 x6_1).f3⟩ : S36) [.bool ((rd_T39 l0 x6_1).f0.f0.f0),.int .u64 ((rd_T39 l0 x6_1).f0.f0.f1),.int .u64 ((rd_T39 l0 x6_1).f0.f0.f2),.int .i64 ((rd_T39 l0 x6_1).f0.f1),.int .u64 ((rd_T39 l0 x6_1).f1),.int .u64 ((rd_T39 l0 x6_1).f2),.int .i64 ((rd_T39 l0 x6_1).f3)] (fun _ => True) (fun _ => False) rfl rfl ?aP (fun _ hk => hk.elim) ?aF ?aO ?aB ?aS ?aL ?_;(case aP => exact k36_mkM _ _ _ (⟨(⟨(⟨(rd_T39 l0 x6_1).f0.f0.f0,(rd_T39 l0 x6_1).f0.f0.f1,(rd_T39 l0 x6_1).f0.f0.f2⟩ : S29),(rd_T39 l0 x6_1).f0.f1⟩ : S31),(rd_T39 l0 x6_1).f1,(rd_T39 l0 x6_1).f2,(rd_T39 l0 x6_1).f3⟩ : S36));(case aB => exact (XR.lB HB.out));(case aF => exact (fun _ _ => trivial));(case aO => exact (XR.lR HO_5.out));(case aS => exact (below_size (XR.lB HB.out)));(case aL => have := LMc5.out;omega);intro v465 w6 ho hb hg hat;rw [← Ny464.out] at ho;have n0_ := Aside0.mk (hb);have n1_ := Aside0.mk (ho);clear HB;clear HO_5;have HB := n0_;have HO466 := n1_;clear n0_ n1_;clear ho hb hg hat));go_roundg k1
      case measure => have := HK1.out;omega
      case rel => exact ⟨(y464),(wrap64 (x6_1 + 1)),XR.rf,H',⟨by have := HK1.out;omega⟩,⟨by (with_reducible repeat (first | apply Kd.R_alloc | apply Kd.R_drewN | apply Kd.R_drew));exact HO466.out⟩,⟨XR.sB HB.out⟩⟩
     ·rw [if_neg c5] at H;exact absurd H (by simp)
    ·rw [if_neg c4] at H;exact absurd H (by simp)
   ·rw [if_neg c3] at H;have c3b0 := decide_eq_false c3;clear c3;replace H := Option.bind_eq_some_iff.mp H;obtain ⟨t467,A70,H⟩ := H;(try dsimp only at H);have A7 := Aside0.mk A70;clear A70;replace H := Option.bind_eq_some_iff.mp H;obtain ⟨t470,A80,H⟩ := H;(try dsimp only at H);have A8 := Aside0.mk A80;clear A80;replace H := Option.bind_eq_some_iff.mp H;obtain ⟨t473,A90,H⟩ := H;(try dsimp only at H);have A9 := Aside0.mk A90;clear A90;by_cases c10 : t473 = true
    ·subst c10;rw [if_pos rfl] at H;(try dsimp only at H);replace H := Option.bind_eq_some_iff.mp H;obtain ⟨t474,A110,H⟩ := H;replace H : (some t474) = some r := H;have A11 := Aside0.mk A110;clear A110;obtain rfl := Option.some.inj H;obtain ⟨Ao12,co12,eo12⟩ := Kd.R_slice HO_5.out;subst eo12;go_wp2_with (first | ((with_reducible refine gate_callee (f := 15) rfl ?_);refine XR.gL 22 Try.func15 #[.slice Ao12 x5_1.length co12,.int .i64 a1] ?_;(with_reducible refine (usage_Over.calls k1 _ _ x5_1 a1 t467 _ ?side1 ?side2 A7.out).mono ?_);(case side1 => exact XR.lC (Kd.R_reads' HO_5.out).2.2);(case side2 => exact (Kd.R_reads' HO_5.out).2.1);rintro e w13 ⟨v468,rfl,ho0,hb⟩;refine ⟨_,rfl,?_⟩;have HO469 := Aside0.mk (Kd.R_lower ho0 (below_size (XR.lB HB.out)));replace HO_5 := Aside0.mk (XR.bR HO_5.out hb);replace HB := Aside0.mk (XR.bB HB.out hb);(try clear hb);(try clear hk);(try clear ho0)) | ((with_reducible refine gate_callee (f := 16) rfl ?_);refine XR.gL 25 Try.func16 #[.slice A0 l0.length c0,.int .i64 a1] ?_;(with_reducible refine (ddiref48_Over.calls k1 _ _ l0 a1 t470 _ ?side1 ?side2 A8.out).mono ?_);(case side1 => exact XR.lC (Kd.C_below HR0.out HB.out));(case side2 => exact HC0.out);rintro e w14 ⟨v471,rfl,ho0,hb⟩;refine ⟨_,rfl,?_⟩;have HO472 := Aside0.mk (Kd.R_lower (Kd.R_new' ho0 (Kd.R_lt (XR.lR HO469.out))) (below_size (XR.lB HB.out)));replace HO_5 := Aside0.mk (XR.bR HO_5.out hb);replace HO469 := Aside0.mk (Kd.R_elder' (XR.lR HO469.out) (Kd.R_base ho0) hb);replace HB := Aside0.mk (XR.bB HB.out hb);(try clear hb);(try clear hk);(try clear ho0);obtain ⟨Ao15,co15,eo15⟩ := Kd.R_slice HO469.out;subst eo15;obtain ⟨Ao16,co16,eo16⟩ := Kd.R_slice HO472.out;subst eo16) | ((with_reducible refine gate_callee (f := 14) rfl ?_);refine XR.gL 26 Try.func14 #[.slice Ao15 t467.length co15,.slice Ao16 t470.length co16] ?_;(with_reducible refine (ddilaw48_prefixes.calls k1 _ _ t467 _ _ t470 true _ ?side1 ?side2 ?side3 ?side4 A9.out).mono ?_);(case side1 => exact XR.lC (Kd.R_reads' HO469.out).2.2);(case side2 => exact (Kd.R_reads' HO469.out).2.1);(case side3 => exact XR.lC (Kd.R_reads' HO472.out).2.2);(case side4 => exact (Kd.R_reads' HO472.out).2.1);rintro e w' ⟨rfl,⟨nd,rfl⟩⟩;refine ⟨_,rfl,?_⟩) | (go_at_call 9;(with_reducible refine (ddilaw48_awake.calls k1  t474 _ A11.out (by first | assumption | rfl | simp_all)).mono ?_);rintro e w17 ⟨rfl,hb⟩;replace HO_5 := Aside0.mk (XR.bR HO_5.out hb);replace HO469 := Aside0.mk (XR.bR HO469.out hb);replace HO472 := Aside0.mk (XR.bR HO472.out hb);replace HB := Aside0.mk (XR.bB HB.out hb);(try clear hb);(try clear hk)));go_ret;exact XR.re HB.out
    ·replace c10 := Bool.eq_false_iff.mpr c10;subst c10;rw [if_neg (show ¬ (false = true) by decide)] at H;(try dsimp only at H);exact absurd (Option.some.inj H) (by rw [hT_];decide)
theorem ddilaw48_UsageOver.walk (P : ddilaw48_UsageOver.Pure) (A0 : Option Addr) (c0 : Nat) (l0 : List (S39)) (a1 : Int) (w : World) (hr0 : Kd.C k39 w A0 l0.length l0) (hc0 : l0.length ≤ c0) (w0 : (l0.length * 56 ≤ 140737488351232 ∧ l0.length ≤ maxLen ∧ ∀ y0_ ∈ l0,okS39 y0_)) (w1 : (Lit.int .i64 a1).wf = true) :
  Calls Try.prog 4 #[.slice A0 l0.length c0,.int .i64 a1] w fun e w' => e = .returned (.bool true) ∧ Below w.heap.size w w' := by
 obtain ⟨k,h⟩ := P l0 a1 w0 w1;refine (ddilaw48_UsageOver.calls k A0 c0 l0 a1 true w hr0 hc0 h rfl).mono ?_;rintro e w' ⟨rfl,hd⟩;exact ⟨rfl,hd⟩
end Go.Proofs.Ytjifdgicamlikaa.QA
