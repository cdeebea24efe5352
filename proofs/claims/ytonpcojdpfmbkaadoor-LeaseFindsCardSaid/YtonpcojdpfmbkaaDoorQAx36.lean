-- Written by this session's own program (wip/xprint) out of the translation; Lean checks it.
import Derived.Test.YtonpcojdpfmbkaaDoorQAd3
import Derived.Test.YtonpcojdpfmbkaaDoorQAx0
import Derived.Test.YtonpcojdpfmbkaaDoorQAx35
namespace Go.Proofs.YtonpcojdpfmbkaaDoor.QA
open Go.RowKit Go.Proofs.YtonpcojdpfmbkaaDoorW.PrintWords Go.Proofs.YtonpcojdpfmbkaaDoorW.PrintLast Go.Proofs.YtonpcojdpfmbkaaDoorW.PrintMore
attribute [local go_sem] max2_int min2_int max_two min_two max_three min_three max_four min_four   -- for this text's walks alone
attribute [local go_sem high] Go.Proofs.YtonpcojdpfmbkaaDoor.XW.cell_setCell_lit
set_option linter.unusedVariables false
set_option linter.unusedSimpArgs false
/-! ### ddiref38_Active: function 30 -/
set_option maxHeartbeats 8000000 in
set_option maxRecDepth 100000 in
theorem ddiref38_Active.calls (k : Nat) (A0 : Option Addr) (c0 : Nat) (l0 : List (S41)) (a1 : Int) (r : List (S41)) (w : World) (hr0 : Kd.C k41 w A0 l0.length l0) (hc0 : l0.length ≤ c0) (h : ddiref38_Active.f k l0 a1 = some r) :
  Calls Tryd.prog 30 #[.slice A0 l0.length c0,.int .i64 a1] w fun e w' => ∃ v0_ : Value,e = .returned (v0_) ∧ Kd.R k41 41 w' w.heap.size (fun _ => True) v0_ r ∧ Below w.heap.size w w' := by
 have hu41 := Tryd.underlying41;have HR0 := Aside0.mk hr0;have HC0 := Aside0.mk hc0;clear hr0 hc0;have HB := Aside0.mk (Below.refl w.heap.size w);have H : (ddiref38_Active.l0 k l0 a1 ([] : List (S41)) 0) = some r := h;clear h;have H' := Aside0.mk H;clear H;go_enter Tryd.func30,Tryd.ntmps30;go_wp2;go_loopg [5,6] k (fun kq v5 v6 w' => ∃ (x5_1 : List (S41)) (x6_1 : Int),v6 = .int .i64 x6_1 ∧ Aside0 (ddiref38_Active.l0 kq l0 a1 x5_1 x6_1 = some r) ∧ Aside0 (kq ≤ k) ∧ Aside0 (Kd.R k41 41 w' w.heap.size (fun _ => True) v5 x5_1) ∧ Aside0 (Below w.heap.size w w'))
 case atStart => exact ⟨(([] : List (S41))),(0),XR.rf,H',⟨Nat.le_refl _⟩,⟨by first | exact Kd.R_nil _ _ _ _ _ | exact Kd.N_nil _ _ _ _ _ | exact Kd.V_nil _ _ _ _ _ | exact Kd.Q_nil _ _ _ _ _ | exact Kd.S_nil _ _ _ _ _⟩,⟨XR.sB HB.out⟩⟩
 case round =>
  clear H';(try clear p2);obtain ⟨x5_1,x6_1,rfl,HA,HK1,HO_5,HB⟩ := hrel
  cases gk with
  | zero => exact absurd HA.out (by simp [ddiref38_Active.l0])
  | succ k1 =>
   have H := HA.out;clear HA;simp only [ddiref38_Active.l0] at H;by_cases c3 : x6_1 < (l0.length : Int)
   ·rw [if_pos c3] at H;have c3b0 := decide_eq_true c3;clear c3;have HC4 := Aside0.mk H;clear H;go_upto_region 5 with (fail);go_cut [26] (fun v26 wc => ∃ (kq : Nat) (x26_3 : Bool),v26 = .bool x26_3 ∧ Aside0 (ddiref38_Active.j1 kq l0 a1 x5_1 x6_1 x26_3 = some r) ∧ Aside0 (kq ≤ k1) ∧ Aside0 (Kd.R k41 41 wc w.heap.size (fun _ => True) u5 x5_1) ∧ Aside0 (Below w.heap.size w wc))
    case first =>
     have H := HC4.out;clear HC4;by_cases c5 : 0 ≤ x6_1
     ·rw [if_pos c5] at H;have c5b0 := decide_eq_true c5;clear c5;(first | rw [c5b0] | (simp only [i64_w,i32_w];rw [c5b0]) | skip);by_cases c6 : ((rd_T41 l0 x6_1).f2) = 2
      ·rw [if_pos c6] at H;have c6b0 := beq_iff_eq.mpr c6;have c6b1 := bne_eq_false_iff_eq.mpr c6;clear c6;replace H := Option.bind_eq_some_iff.mp H;obtain ⟨t463,A70,H⟩ := H;replace H : (ddiref38_Active.j1 k1 l0 a1 x5_1 x6_1 t463) = some r := H;have A7 := Aside0.mk A70;clear A70;have H' := Aside0.mk H;clear H;have p461 : 0 ≤ (x6_1 : Int) := XR.od;have q461 : x6_1 < (l0.length : Int) := XR.od;obtain ⟨ad461,e461,hx461_0,hx461_1,hx461_2,hx461_3,hx461_4,hx461_5,hx461_6,hx461_7,hx461_8⟩ := at_T41 (Kd.C_below HR0.out HB.out) x6_1 p461 q461
       cases e461
       replace p461 := eq_true p461;replace q461 := eq_true q461;have p462 : 0 ≤ (x6_1 : Int) := XR.od;have q462 : x6_1 < (l0.length : Int) := XR.od;obtain ⟨ad462,e462,hx462_0,hx462_1,hx462_2,hx462_3,hx462_4,hx462_5,hx462_6,hx462_7,hx462_8⟩ := at_T41 HR0.out x6_1 p462 q462;obtain rfl : ad461 = ad462 := (by injection e462);replace hx462_0 := XR.held HB.out hx462_0;replace hx462_1 := XR.held HB.out hx462_1;replace hx462_2 := XR.held HB.out hx462_2;replace hx462_3 := XR.held HB.out hx462_3;replace hx462_4 := XR.held HB.out hx462_4;replace hx462_5 := XR.held HB.out hx462_5;replace hx462_6 := XR.held HB.out hx462_6;replace hx462_7 := XR.held HB.out hx462_7;replace hx462_8 := XR.held HB.out hx462_8;replace p462 := eq_true p462;replace q462 := eq_true q462;go_wp2_with (first | (go_at_call 52;(with_reducible refine (ddiref38_Force.calls ((rd_T41 l0 x6_1).f0.f0) ((rd_T41 l0 x6_1).f0.f1) ((rd_T41 l0 x6_1).f0.f2) ((rd_T41 l0 x6_1).f1) ((rd_T41 l0 x6_1).f2) ((rd_T41 l0 x6_1).f3) ((rd_T41 l0 x6_1).f4) ((rd_T41 l0 x6_1).f5) ((rd_T41 l0 x6_1).f6) a1 t463 _ A7.out).mono ?_);rintro e w8 ⟨rfl,hb⟩;replace HO_5 := Aside0.mk (XR.bR HO_5.out hb);replace HB := Aside0.mk (XR.bB HB.out hb);(try clear hb);(try clear hk)))
       first | go_meet | ((refine Met.intro ?_);go_step;(try simp only [c3b0,c5b0,c6b0]);(repeat apply Exists.intro);refine ⟨?rel,rfl⟩)
       case rel => exact ⟨_,(t463),XR.rf,(by first | exact H' | (have h_ := H';simp only [c3b0,c5b0,c6b0] at h_;exact h_)),(XR.ok HK1.out),⟨by (with_reducible repeat (first | apply Kd.R_alloc | apply Kd.R_drewN | apply Kd.R_drew));exact HO_5.out⟩,⟨XR.sB HB.out⟩⟩
      ·rw [if_neg c6] at H;have c6b0 := beq_eq_false_iff_ne.mpr c6;have c6b1 := bne_iff_ne.mpr c6;have H' := Aside0.mk H;clear H;have p461 : 0 ≤ (x6_1 : Int) := XR.od;have q461 : x6_1 < (l0.length : Int) := XR.od;obtain ⟨ad461,e461,hx461_0,hx461_1,hx461_2,hx461_3,hx461_4,hx461_5,hx461_6,hx461_7,hx461_8⟩ := at_T41 (Kd.C_below HR0.out HB.out) x6_1 p461 q461
       cases e461
       replace p461 := eq_true p461;replace q461 := eq_true q461;go_wp2
       first | go_meet | ((refine Met.intro ?_);go_step;(try simp only [c3b0,c5b0,c6b0]);(repeat apply Exists.intro);refine ⟨?rel,rfl⟩)
       case rel => exact ⟨_,(false),XR.rf,(by first | exact H' | (have h_ := H';simp only [c3b0,c5b0,c6b0] at h_;exact h_)),(XR.ok HK1.out),⟨by (with_reducible repeat (first | apply Kd.R_alloc | apply Kd.R_drewN | apply Kd.R_drew));exact HO_5.out⟩,⟨XR.sB HB.out⟩⟩
     ·rw [if_neg c5] at H;exact absurd H (by simp)
    case rest =>
     clear HC4;(try clear p2);(try clear c3);(try clear c3b0);(try clear p4);(try clear q4);(try clear hx4);(try clear c5);(try clear c5b0);(try clear c6);(try clear c6b0);(try clear c6b1);(try clear hx461_0);(try clear hx461_1);(try clear hx461_2);(try clear hx461_3);(try clear hx461_4);(try clear hx461_5);(try clear hx461_6);(try clear hx461_7);(try clear hx461_8);(try clear hx462_0);(try clear hx462_1);(try clear hx462_2);(try clear hx462_3);(try clear hx462_4);(try clear hx462_5);(try clear hx462_6);(try clear hx462_7);(try clear hx462_8);(try clear p2);(try clear p461);(try clear p462);(try clear q461);(try clear q462);obtain ⟨kq,x26_3,rfl,HA,HJ3,HO_5,HB⟩ := hcut
     cases kq with
     | zero => exact absurd HA.out (by simp [ddiref38_Active.j1])
     | succ kj3 =>
      have H := HA.out;clear HA;simp only [ddiref38_Active.j1] at H;by_cases c9 : x26_3 = true
      ·subst c9;rw [if_pos rfl] at H;(try dsimp only at H);by_cases c10 : 0 ≤ x6_1
       ·rw [if_pos c10] at H;have c10b0 := decide_eq_true c10;clear c10;by_cases c11 : x6_1 < (l0.length : Int)
        ·rw [if_pos c11] at H;have c11b0 := decide_eq_true c11;clear c11;by_cases c12 : x5_1.length < 1599289640401
         ·rw [if_pos c12] at H;have LMc12 := Aside0.mk c12;clear c12;obtain ⟨y465,hy465⟩ : ∃ y_ : List (S41),y_ = (x5_1 ++ [(⟨(⟨(rd_T41 l0 x6_1).f0.f0,(rd_T41 l0 x6_1).f0.f1,(rd_T41 l0 x6_1).f0.f2⟩ : S29),(rd_T41 l0 x6_1).f1,(rd_T41 l0 x6_1).f2,(rd_T41 l0 x6_1).f3,(rd_T41 l0 x6_1).f4,(rd_T41 l0 x6_1).f5,(rd_T41 l0 x6_1).f6⟩ : S41)]) := ⟨_,rfl⟩;replace H : (ddiref38_Active.l0 kj3 l0 a1 y465 (wrap64 (x6_1 + 1))) = some r := by first | (rw [hy465];with_reducible exact H) | (have H2_ := (Option.bind_some _ _).symm.trans H;rw [hy465];with_reducible exact H2_) | (have H2_ := (Option.bind_some _ _).symm.trans H;with_reducible exact H2_) | with_reducible exact H | (rw [hy465];exact H) | exact H
          have Ny465 := Aside0.mk hy465;clear hy465;have H' := Aside0.mk H;clear H;have p464 : 0 ≤ (x6_1 : Int) := XR.od;have q464 : x6_1 < (l0.length : Int) := XR.od;obtain ⟨ad464,e464,hx464_0,hx464_1,hx464_2,hx464_3,hx464_4,hx464_5,hx464_6,hx464_7,hx464_8⟩ := at_T41 (Kd.C_below HR0.out HB.out) x6_1 p464 q464
          cases e464
          replace p464 := eq_true p464;replace q464 := eq_true q464;go_wp2_with (first | ((with_reducible refine gate_builtin (b := .append) (xs := #[.tmp 27,.tmp 32]) rfl ?_);at_builtin;refine Kd.R_append k41 (w0 := w) w.heap.size rfl (.tmp 27) (.tmp 32) 22 41 (.agg #[(.bool false),(.int .u64 0),(.int .u64 0),(.string ⟨#[]⟩),(.int .i64 0),(.int .i64 0),(.int .i64 0),(.string ⟨#[]⟩),(.int .i64 0)]) 88 rfl Tryd.underlying22 info41 rfl (by decide) (by omega) u5 x5_1 (⟨(⟨(rd_T41 l0 x6_1).f0.f0,(rd_T41 l0 x6_1).f0.f1,(rd_T41 l0 x6_1).f0.f2⟩ : S29),(rd_T41 l0 x6_1).f1,(rd_T41 l0 x6_1).f2,(rd_T41 l0 x6_1).f3,(rd_T41 l0 x6_1).f4,(rd_T41 l0 x6_1).f5,(rd_T41 l0 x6_1).f6⟩ : S41) [.bool ((rd_T41 l0 x6_1).f0.f0),.int .u64 ((rd_T41 l0 x6_1).f0.f1),.int .u64 ((rd_T41 l0 x6_1).f0.f2),.string ((rd_T41 l0 x6_1).f1),.int .i64 ((rd_T41 l0 x6_1).f2),.int .i64 ((rd_T41 l0 x6_1).f3),.int .i64 ((rd_T41 l0 x6_1).f4),.string ((rd_T41 l0 x6_1).f5),.int .i64 ((rd_T41 l0 x6_1).f6)] (fun _ => True) (fun _ => False) rfl rfl ?aP (fun _ hk => hk.elim) ?aF ?aO ?aB ?aS ?aL ?_;(case aP => exact k41_mkM _ _ _ (⟨(⟨(rd_T41 l0 x6_1).f0.f0,(rd_T41 l0 x6_1).f0.f1,(rd_T41 l0 x6_1).f0.f2⟩ : S29),(rd_T41 l0 x6_1).f1,(rd_T41 l0 x6_1).f2,(rd_T41 l0 x6_1).f3,(rd_T41 l0 x6_1).f4,(rd_T41 l0 x6_1).f5,(rd_T41 l0 x6_1).f6⟩ : S41));(case aB => exact (XR.lB HB.out));(case aF => exact (fun _ _ => trivial));(case aO => exact (XR.lR HO_5.out));(case aS => exact (below_size (XR.lB HB.out)));(case aL => have := LMc12.out;omega);intro v466 w13 ho hb hg hat;rw [← Ny465.out] at ho;have n0_ := Aside0.mk (hb);have n1_ := Aside0.mk (ho);clear HB;clear HO_5;have HB := n0_;have HO467 := n1_;clear n0_ n1_;clear ho hb hg hat));go_roundg kj3
          case measure => have := HK1.out;have := HJ3.out;omega
          case rel => exact ⟨(y465),(wrap64 (x6_1 + 1)),XR.rf,H',⟨by have := HK1.out;have := HJ3.out;omega⟩,⟨by (with_reducible repeat (first | apply Kd.R_alloc | apply Kd.R_drewN | apply Kd.R_drew));exact HO467.out⟩,⟨XR.sB HB.out⟩⟩
         ·rw [if_neg c12] at H;exact absurd H (by simp)
        ·rw [if_neg c11] at H;exact absurd H (by simp)
       ·rw [if_neg c10] at H;exact absurd H (by simp)
      ·replace c9 := Bool.eq_false_iff.mpr c9;subst c9;rw [if_neg (show ¬ (false = true) by decide)] at H;(try dsimp only at H);have H' := Aside0.mk H;clear H;go_wp2;go_roundg kj3
       case measure => have := HK1.out;have := HJ3.out;omega
       case rel => exact ⟨(x5_1),(wrap64 (x6_1 + 1)),XR.rf,H',⟨by have := HK1.out;have := HJ3.out;omega⟩,⟨by (with_reducible repeat (first | apply Kd.R_alloc | apply Kd.R_drewN | apply Kd.R_drew));exact HO_5.out⟩,⟨XR.sB HB.out⟩⟩
   ·rw [if_neg c3] at H;have c3b0 := decide_eq_false c3;clear c3;obtain rfl := Option.some.inj H;go_wp2;go_ret;exact ⟨_,by first | rfl | (simp [errW_none,errW_some] <;> rfl) | (simp [*,errW_none,errW_some] <;> rfl),by (with_reducible repeat (first | apply Kd.R_alloc | apply Kd.R_drewN | apply Kd.R_drew));exact HO_5.out,XR.sB HB.out⟩
end Go.Proofs.YtonpcojdpfmbkaaDoor.QA
