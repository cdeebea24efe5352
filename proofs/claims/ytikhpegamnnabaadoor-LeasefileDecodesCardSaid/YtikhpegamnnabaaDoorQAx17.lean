import Derived.Test.YtikhpegamnnabaaDoorQAd1
import Derived.Test.YtikhpegamnnabaaDoorQAx0
import Derived.Test.YtikhpegamnnabaaDoorQAx16
namespace Go.Proofs.YtikhpegamnnabaaDoor.QA
open Go.RowKit Go.Proofs.YtikhpegamnnabaaDoorW.PrintWords Go.Proofs.YtikhpegamnnabaaDoorW.PrintLast Go.Proofs.YtikhpegamnnabaaDoorW.PrintMore
attribute [local go_sem] max2_int min2_int max_two min_two max_three min_three max_four min_four
attribute [local go_sem high] Go.Proofs.YtikhpegamnnabaaDoor.XW.cell_setCell_lit
set_option linter.unusedVariables false
set_option linter.unusedSimpArgs false
set_option maxHeartbeats 8000000 in
set_option maxRecDepth 100000 in
theorem ddiref01_split.calls (k : Nat) (a0 : ByteArray) (r1 : List ByteArray) (r2 : Bool) (w : World) (h : ddiref01_split.f k a0 = some (r1,r2)) :
  Calls Tryd.prog 75 #[.string a0] w fun e w' => ∃ v0_ : Value,e = .returned (.tuple #[v0_,.bool r2]) ∧ Kd.R Kd.string 9 w' w.heap.size (fun _ => True) v0_ r1 ∧ Below w.heap.size w w' := by
 have HB := Aside0.mk (Below.refl w.heap.size w);have H : (if a0.toList = ([46] : List UInt8) then (some (([] : List ByteArray),true)) else (if (a0.size : Int) < 2 then (ddiref01_split.j0 k a0 true) else (if (a0.size : Int) > 254 then (ddiref01_split.j0 k a0 true) else (if 0 ≤ (wrap64 ((a0.size : Int) - 1)) then (if (wrap64 ((a0.size : Int) - 1)) < (a0.size : Int) then (ddiref01_split.j0 k a0 ((bt a0 (wrap64 ((a0.size : Int) - 1))) != 46)) else (none)) else (none))))) = some (r1,r2) := h;clear h;by_cases c2 : a0.toList = ([46] : List UInt8)
 ·rw [if_pos c2] at H;have c2b0 := beq_iff_eq.mpr c2;have c2b1 := bne_eq_false_iff_eq.mpr c2;clear c2;simp only [Option.some.injEq,Prod.mk.injEq] at H;obtain ⟨rfl,rfl⟩ := H;go_enter Tryd.func75,Tryd.ntmps75;go_wp2;go_ret2;exact ⟨_,by first | rfl | (simp [errW_none,errW_some] <;> rfl) | (simp [*,errW_none,errW_some] <;> rfl),by first | exact Kd.R_nil _ _ _ _ _ | exact Kd.N_nil _ _ _ _ _ | exact Kd.V_nil _ _ _ _ _ | exact Kd.Q_nil _ _ _ _ _ | exact Kd.S_nil _ _ _ _ _,XR.sB HB.out⟩
 ·rw [if_neg c2] at H;have c2b0 := beq_eq_false_iff_ne.mpr c2;have c2b1 := bne_iff_ne.mpr c2;have HC3 := Aside0.mk H;clear H;go_enter Tryd.func75,Tryd.ntmps75;go_upto_region 3 with (fail);go_cut [25] (fun v25 wc => ∃ (kq : Nat) (x25_2 : Bool),v25 = .bool x25_2 ∧ Aside0 (ddiref01_split.j0 kq a0 x25_2 = some (r1,r2)) ∧ Aside0 (kq ≤ k) ∧ Aside0 (Below w.heap.size w wc))
  case first =>
   have H := HC3.out;clear HC3;by_cases c4 : (a0.size : Int) < 2
   ·rw [if_pos c4] at H;have c4b0 := decide_eq_true c4;have c4b1 : decide (a0.size < 2) = true := decide_eq_true (by omega);clear c4;(first | rw [c4b0] | (simp only [i64_w,i32_w];rw [c4b0]) | skip);have H' := Aside0.mk H;clear H;go_wp2
    first | go_meet | ((refine Met.intro ?_);go_step;(try simp only [c2b0,c4b0]);(repeat apply Exists.intro);refine ⟨?rel,rfl⟩)
    case rel => exact ⟨_,(true),XR.rf,(by first | exact H' | (have h_ := H';simp only [c2b0,c4b0] at h_;exact h_)),XR.om,⟨XR.sB HB.out⟩⟩
   ·rw [if_neg c4] at H;have c4b0 := decide_eq_false c4;have c4b1 : decide (a0.size < 2) = false := decide_eq_false (by omega);clear c4;(first | rw [c4b0] | (simp only [i64_w,i32_w];rw [c4b0]) | skip);by_cases c5 : (a0.size : Int) > 254
    ·rw [if_pos c5] at H;have c5b0 := decide_eq_true c5;have c5b1 : decide (254 < a0.size) = true := decide_eq_true (by omega);clear c5;have H' := Aside0.mk H;clear H;go_wp2
     first | go_meet | ((refine Met.intro ?_);go_step;(try simp only [c2b0,c4b0,c5b0]);(repeat apply Exists.intro);refine ⟨?rel,rfl⟩)
     case rel => exact ⟨_,(true),XR.rf,(by first | exact H' | (have h_ := H';simp only [c2b0,c4b0,c5b0] at h_;exact h_)),XR.om,⟨XR.sB HB.out⟩⟩
    ·rw [if_neg c5] at H;have c5b0 := decide_eq_false c5;have c5b1 : decide (254 < a0.size) = false := decide_eq_false (by omega);clear c5;obtain ⟨ji6,hji6⟩ : ∃ j_ : Int,(wrap64 ((a0.size : Int) - 1)) = j_ := ⟨_,rfl⟩;replace H : (if 0 ≤ (ji6) then (if (ji6) < (a0.size : Int) then (ddiref01_split.j0 k a0 ((bt a0 (ji6)) != 46)) else (none)) else (none)) = some (r1,r2) := by first | (rw [hji6] at H;exact H) | (simp only [hji6] at H ⊢;exact H)
     have hji6w : (IntKind.i64.wrap ((a0.size : Int) - 1)) = ji6 := (i64_w _).trans hji6;by_cases c7 : 0 ≤ (ji6)
     ·rw [if_pos c7] at H;have c7b0 := decide_eq_true c7;clear c7;by_cases c8 : (ji6) < (a0.size : Int)
      ·rw [if_pos c8] at H;have c8b0 := decide_eq_true c8;clear c8;have H' := Aside0.mk H;clear H;have p9 : 0 ≤ ((ji6) : Int) := XR.od;have q9 : (ji6) < (a0.size : Int) := XR.od;have hx9 := bt_at a0 (ji6);replace p9 := eq_true p9;replace q9 := eq_true q9;go_wp2
       first | go_meet | ((refine Met.intro ?_);go_step;(try simp only [c2b0,c4b0,c5b0,c7b0,c8b0]);(repeat apply Exists.intro);refine ⟨?rel,rfl⟩)
       case rel => exact ⟨_,(((bt a0 (ji6)) != 46)),(by first | rfl | (simp;done) | (simp only [← hji6] <;> (first | rfl | simp)) | (simp [*];done)),(by first | exact H' | (have h_ := H';simp only [c2b0,c4b0,c5b0,c7b0,c8b0] at h_;exact h_)),XR.om,⟨XR.sB HB.out⟩⟩
      ·rw [if_neg c8] at H;exact absurd H (by simp)
     ·rw [if_neg c7] at H;exact absurd H (by simp)
  case rest =>
   clear HC3;(try clear c2);(try clear c2b0);(try clear c2b1);(try clear p2);(try clear c4);(try clear c4b0);(try clear c4b1);(try clear c5);(try clear c5b0);(try clear c5b1);(try clear p6);(try clear c7);(try clear c7b0);(try clear c8);(try clear c8b0);(try clear p9);(try clear q9);(try clear hx9);(try clear p9);(try clear q9);obtain ⟨kq,x25_2,rfl,HA,HJ2,HB⟩ := hcut
   cases kq with
   | zero => exact absurd HA.out (by simp [ddiref01_split.j0])
   | succ kj2 =>
    have H := HA.out;clear HA;simp only [ddiref01_split.j0] at H;by_cases c10 : x25_2 = true
    ·subst c10;rw [if_pos rfl] at H;(try dsimp only at H);simp only [Option.some.injEq,Prod.mk.injEq] at H;obtain ⟨rfl,rfl⟩ := H;go_wp2;go_ret2;exact ⟨_,by first | rfl | (simp [errW_none,errW_some] <;> rfl) | (simp [*,errW_none,errW_some] <;> rfl),by first | exact Kd.R_nil _ _ _ _ _ | exact Kd.N_nil _ _ _ _ _ | exact Kd.V_nil _ _ _ _ _ | exact Kd.Q_nil _ _ _ _ _ | exact Kd.S_nil _ _ _ _ _,XR.sB HB.out⟩
    ·replace c10 := Bool.eq_false_iff.mpr c10;subst c10;rw [if_neg (show ¬ (false = true) by decide)] at H;(try dsimp only at H);have H' := Aside0.mk H;clear H;go_wp2;go_loopg [4,5,6] kj2 (fun kq v4 v5 v6 w' => ∃ (x4_2 : List ByteArray) (x5_2 : Int) (x6_2 : Int),v5 = .int .i64 x5_2 ∧ v6 = .int .i64 x6_2 ∧ Aside0 (ddiref01_split.l0 kq a0 x4_2 x5_2 x6_2 = some (r1,r2)) ∧ Aside0 (kq ≤ kj2) ∧ Aside0 (Kd.R Kd.string 9 w' w.heap.size (fun _ => True) v4 x4_2) ∧ Aside0 (Below w.heap.size w w'))
     case atStart => exact ⟨(([] : List ByteArray)),(0),(0),XR.rf,XR.rf,H',⟨Nat.le_refl _⟩,⟨by first | exact Kd.R_nil _ _ _ _ _ | exact Kd.N_nil _ _ _ _ _ | exact Kd.V_nil _ _ _ _ _ | exact Kd.Q_nil _ _ _ _ _ | exact Kd.S_nil _ _ _ _ _⟩,⟨XR.sB HB.out⟩⟩
     case round =>
      clear H';(try clear c1);(try clear c2);(try clear c2b0);(try clear c2b1);(try clear p2);(try clear c4);(try clear c4b0);(try clear c4b1);(try clear c5);(try clear c5b0);(try clear c5b1);(try clear p6);(try clear c7);(try clear c7b0);(try clear c8);(try clear c8b0);(try clear p9);(try clear q9);(try clear hx9);(try clear c10);(try clear p2);(try clear p6);(try clear p9);(try clear q9);obtain ⟨x4_2,x5_2,x6_2,rfl,rfl,HA,HK2,HO_4,HB⟩ := hrel
      cases gk with
      | zero => exact absurd HA.out (by simp [ddiref01_split.l0])
      | succ k2 =>
       have H := HA.out;clear HA;simp only [ddiref01_split.l0] at H;by_cases c11 : x6_2 < (a0.size : Int)
       ·rw [if_pos c11] at H;have c11b0 := decide_eq_true c11;clear c11;by_cases c12 : 0 ≤ x6_2
        ·rw [if_pos c12] at H;have c12b0 := decide_eq_true c12;clear c12;by_cases c14 : (bt a0 x6_2) = 46
         ·rw [if_pos c14] at H;have c14b0 := beq_iff_eq.mpr c14;have c14b1 := bne_eq_false_iff_eq.mpr c14;clear c14;by_cases c15 : 0 ≤ x5_2
          ·rw [if_pos c15] at H;have c15b0 := eq_true c15;have c15b1 := decide_eq_true c15;clear c15;by_cases c16 : x5_2 ≤ x6_2
           ·rw [if_pos c16] at H;have c16b0 := eq_true c16;have c16b1 := decide_eq_true c16;clear c16;by_cases c17 : x6_2 ≤ (a0.size : Int)
            ·rw [if_pos c17] at H;have c17b0 := eq_true c17;have c17b1 := decide_eq_true c17;clear c17;have HC18 := Aside0.mk H;clear H;have p13 : 0 ≤ (x6_2 : Int) := XR.od;have q13 : x6_2 < (a0.size : Int) := XR.od;have hx13 := bt_at a0 x6_2;replace p13 := eq_true p13;replace q13 := eq_true q13;go_upto_region 12 with (fail);go_cut [50] (fun v50 wc => ∃ (kq : Nat) (x50_17 : Bool),v50 = .bool x50_17 ∧ Aside0 (ddiref01_split.j2 kq a0 x4_2 x6_2 (a0.extract (x5_2 : Int).toNat (x6_2 : Int).toNat) x50_17 = some (r1,r2)) ∧ Aside0 (kq ≤ k2) ∧ Aside0 (Kd.R Kd.string 9 wc w.heap.size (fun _ => True) u4 x4_2) ∧ Aside0 (Below w.heap.size w wc))
             case first =>
              have H := HC18.out;clear HC18;replace H := Option.bind_eq_some_iff.mp H;obtain ⟨t193,A190,H⟩ := H;(try dsimp only at H);have A19 := Aside0.mk A190;clear A190;by_cases c20 : t193 = true
              ·subst c20;rw [if_pos rfl] at H;(try dsimp only at H);by_cases c21 : (a0.extract (x5_2 : Int).toNat (x6_2 : Int).toNat).toList = ([42] : List UInt8)
               ·rw [if_pos c21] at H;have c21b0 := beq_iff_eq.mpr c21;have c21b1 := bne_eq_false_iff_eq.mpr c21;clear c21;(first | rw [c21b0] | (simp only [i64_w,i32_w];rw [c21b0]) | skip);have H' := Aside0.mk H;clear H;go_wp2_with (first | ((with_reducible refine gate_callee (f := 87) rfl ?_);refine XR.gL 41 Tryd.func87 #[.string (a0.extract (x5_2 : Int).toNat (x6_2 : Int).toNat)] ?_;(with_reducible refine (ddiref01_isLabel.calls k2 (a0.extract (x5_2 : Int).toNat (x6_2 : Int).toNat) true _ A19.out).mono ?_);rintro e w' ⟨rfl,⟨nd,rfl⟩⟩;refine ⟨_,rfl,?_⟩))
                first | go_meet | ((refine Met.intro ?_);go_step;(try simp only [c11b0,c12b0,c14b0,c21b0]);(repeat apply Exists.intro);refine ⟨?rel,rfl⟩)
                case rel => exact ⟨_,(decide (x5_2 > 0)),XR.rf,(by first | exact H' | (have h_ := H';simp only [c11b0,c12b0,c14b0,c21b0] at h_;exact h_)),⟨by have := HJ2.out;have := HK2.out;first | omega | exact Nat.le_refl _⟩,⟨by (with_reducible repeat (first | apply Kd.R_alloc | apply Kd.R_drewN | apply Kd.R_drew));exact HO_4.out⟩,⟨XR.sB HB.out⟩⟩
               ·rw [if_neg c21] at H;have c21b0 := beq_eq_false_iff_ne.mpr c21;have c21b1 := bne_iff_ne.mpr c21;(first | rw [c21b0] | (simp only [i64_w,i32_w];rw [c21b0]) | skip);have H' := Aside0.mk H;clear H;go_wp2_with (first | ((with_reducible refine gate_callee (f := 87) rfl ?_);refine XR.gL 41 Tryd.func87 #[.string (a0.extract (x5_2 : Int).toNat (x6_2 : Int).toNat)] ?_;(with_reducible refine (ddiref01_isLabel.calls k2 (a0.extract (x5_2 : Int).toNat (x6_2 : Int).toNat) true _ A19.out).mono ?_);rintro e w' ⟨rfl,⟨nd,rfl⟩⟩;refine ⟨_,rfl,?_⟩))
                first | go_meet | ((refine Met.intro ?_);go_step;(try simp only [c11b0,c12b0,c14b0,c21b0]);(repeat apply Exists.intro);refine ⟨?rel,rfl⟩)
                case rel => exact ⟨_,(false),XR.rf,(by first | exact H' | (have h_ := H';simp only [c11b0,c12b0,c14b0,c21b0] at h_;exact h_)),⟨by have := HJ2.out;have := HK2.out;first | omega | exact Nat.le_refl _⟩,⟨by (with_reducible repeat (first | apply Kd.R_alloc | apply Kd.R_drewN | apply Kd.R_drew));exact HO_4.out⟩,⟨XR.sB HB.out⟩⟩
              ·replace c20 := Bool.eq_false_iff.mpr c20;subst c20;rw [if_neg (show ¬ (false = true) by decide)] at H;(try dsimp only at H);have H' := Aside0.mk H;clear H;go_wp2_with (first | ((with_reducible refine gate_callee (f := 87) rfl ?_);refine XR.gL 41 Tryd.func87 #[.string (a0.extract (x5_2 : Int).toNat (x6_2 : Int).toNat)] ?_;(with_reducible refine (ddiref01_isLabel.calls k2 (a0.extract (x5_2 : Int).toNat (x6_2 : Int).toNat) false _ A19.out).mono ?_);rintro e w' ⟨rfl,⟨nd,rfl⟩⟩;refine ⟨_,rfl,?_⟩))
               first | go_meet | ((refine Met.intro ?_);go_step;(try simp only [c11b0,c12b0,c14b0]);(repeat apply Exists.intro);refine ⟨?rel,rfl⟩)
               case rel => exact ⟨_,(true),XR.rf,(by first | exact H' | (have h_ := H';simp only [c11b0,c12b0,c14b0] at h_;exact h_)),⟨by have := HJ2.out;have := HK2.out;first | omega | exact Nat.le_refl _⟩,⟨by (with_reducible repeat (first | apply Kd.R_alloc | apply Kd.R_drewN | apply Kd.R_drew));exact HO_4.out⟩,⟨XR.sB HB.out⟩⟩
             case rest =>
              clear HC18;(try clear c1);(try clear p1);(try clear q1);(try clear hx1);(try clear c2);(try clear c2b0);(try clear c2b1);(try clear p2);(try clear c4);(try clear c4b0);(try clear c4b1);(try clear c5);(try clear c5b0);(try clear c5b1);(try clear p6);(try clear c7);(try clear c7b0);(try clear c8);(try clear c8b0);(try clear p9);(try clear q9);(try clear hx9);(try clear c10);(try clear c11);(try clear c11b0);(try clear c12);(try clear c12b0);(try clear p13);(try clear q13);(try clear hx13);(try clear c14);(try clear c14b0);(try clear c14b1);(try clear c15);(try clear c15b0);(try clear c15b1);(try clear c16);(try clear c16b0);(try clear c16b1);(try clear c17);(try clear c17b0);(try clear c17b1);(try clear c20);(try clear c21);(try clear c21b0);(try clear c21b1);(try clear p13);(try clear p2);(try clear p6);(try clear p9);(try clear q13);(try clear q9);obtain ⟨kq,x50_17,rfl,HA,HJ17,HO_4,HB⟩ := hcut
              cases kq with
              | zero => exact absurd HA.out (by simp [ddiref01_split.j2])
              | succ kj17 =>
               have H := HA.out;clear HA;simp only [ddiref01_split.j2] at H;by_cases c22 : x50_17 = true
               ·subst c22;rw [if_pos rfl] at H;(try dsimp only at H);simp only [Option.some.injEq,Prod.mk.injEq] at H;obtain ⟨rfl,rfl⟩ := H;go_wp2;go_ret2;exact ⟨_,by first | rfl | (simp [errW_none,errW_some] <;> rfl) | (simp [*,errW_none,errW_some] <;> rfl),by first | exact Kd.R_nil _ _ _ _ _ | exact Kd.N_nil _ _ _ _ _ | exact Kd.V_nil _ _ _ _ _ | exact Kd.Q_nil _ _ _ _ _ | exact Kd.S_nil _ _ _ _ _,XR.sB HB.out⟩
               ·replace c22 := Bool.eq_false_iff.mpr c22;subst c22;rw [if_neg (show ¬ (false = true) by decide)] at H;(try dsimp only at H);by_cases c23 : x4_2.length < 8796093022208
                ·rw [if_pos c23] at H;have LMc23 := Aside0.mk c23;clear c23;obtain ⟨y194,hy194⟩ : ∃ y_ : List ByteArray,y_ = (x4_2 ++ [(a0.extract (x5_2 : Int).toNat (x6_2 : Int).toNat)]) := ⟨_,rfl⟩;replace H : (ddiref01_split.l0 kj17 a0 y194 (wrap64 (x6_2 + 1)) (wrap64 (x6_2 + 1))) = some (r1,r2) := by first | (rw [hy194];with_reducible exact H) | (have H2_ := (Option.bind_some _ _).symm.trans H;rw [hy194];with_reducible exact H2_) | (have H2_ := (Option.bind_some _ _).symm.trans H;with_reducible exact H2_) | with_reducible exact H | (rw [hy194];exact H) | exact H
                 have Ny194 := Aside0.mk hy194;clear hy194;have H' := Aside0.mk H;clear H;go_wp2_with (first | ((with_reducible refine gate_builtin (b := .append) (xs := #[.tmp 51,.tmp 53]) rfl ?_);(try (refine gate_guard (by rfl) ?_;dsimp only));at_builtin;refine Kd.R_append Kd.string (w0 := w) w.heap.size rfl (.tmp 51) (.tmp 53) 71 9 (.string ⟨#[]⟩) 16 rfl Tryd.underlying71 info9 rfl (by decide) (by omega) u4 x4_2 (a0.extract (x5_2 : Int).toNat (x6_2 : Int).toNat) [.string (a0.extract (x5_2 : Int).toNat (x6_2 : Int).toNat)] (fun _ => True) (fun _ => False) rfl rfl ?aP (fun _ hk => hk.elim) ?aF ?aO ?aB ?aS ?aL ?_;(case aP => exact rfl);(case aB => exact (XR.lB HB.out));(case aF => exact (fun _ _ => trivial));(case aO => exact (XR.lR HO_4.out));(case aS => exact (below_size (XR.lB HB.out)));(case aL => have := LMc23.out;omega);intro v195 w24 ho hb hg hat;rw [← Ny194.out] at ho;have n0_ := Aside0.mk (hb);have n1_ := Aside0.mk (ho);clear HB;clear HO_4;have HB := n0_;have HO196 := n1_;clear n0_ n1_;clear ho hb hg hat));go_roundg kj17
                 case measure => have := HJ2.out;have := HK2.out;have := HJ17.out;omega
                 case rel => exact ⟨(y194),(wrap64 (x6_2 + 1)),(wrap64 (x6_2 + 1)),XR.rf,XR.rf,H',⟨by have := HJ2.out;have := HK2.out;have := HJ17.out;omega⟩,⟨by (with_reducible repeat (first | apply Kd.R_alloc | apply Kd.R_drewN | apply Kd.R_drew));exact HO196.out⟩,⟨XR.sB HB.out⟩⟩
                ·rw [if_neg c23] at H;exact absurd H (by simp)
            ·rw [if_neg c17] at H;exact absurd H (by simp)
           ·rw [if_neg c16] at H;exact absurd H (by simp)
          ·rw [if_neg c15] at H;exact absurd H (by simp)
         ·rw [if_neg c14] at H;have c14b0 := beq_eq_false_iff_ne.mpr c14;have c14b1 := bne_iff_ne.mpr c14;have H' := Aside0.mk H;clear H;have p13 : 0 ≤ (x6_2 : Int) := XR.od;have q13 : x6_2 < (a0.size : Int) := XR.od;have hx13 := bt_at a0 x6_2;replace p13 := eq_true p13;replace q13 := eq_true q13;go_wp2;go_roundg k2
          case measure => have := HJ2.out;have := HK2.out;omega
          case rel => exact ⟨(x4_2),(x5_2),(wrap64 (x6_2 + 1)),XR.rf,XR.rf,H',⟨by have := HJ2.out;have := HK2.out;omega⟩,⟨by (with_reducible repeat (first | apply Kd.R_alloc | apply Kd.R_drewN | apply Kd.R_drew));exact HO_4.out⟩,⟨XR.sB HB.out⟩⟩
        ·rw [if_neg c12] at H;exact absurd H (by simp)
       ·rw [if_neg c11] at H;have c11b0 := decide_eq_false c11;clear c11;simp only [Option.some.injEq,Prod.mk.injEq] at H;obtain ⟨rfl,rfl⟩ := H;go_wp2;go_ret2;exact ⟨_,by first | rfl | (simp [errW_none,errW_some] <;> rfl) | (simp [*,errW_none,errW_some] <;> rfl),by (with_reducible repeat (first | apply Kd.R_alloc | apply Kd.R_drewN | apply Kd.R_drew));exact HO_4.out,XR.sB HB.out⟩
set_option maxHeartbeats 8000000 in
set_option maxRecDepth 100000 in
theorem ddiref01_Valid.calls (k : Nat) (a0 : ByteArray) (r : Bool) (w : World) (h : ddiref01_Valid.f k a0 = some r) :
  Calls Tryd.prog 62 #[.string a0] w fun e w' => e = .returned (.bool r) ∧ Below w.heap.size w w' := by
 have HB := Aside0.mk (Below.refl w.heap.size w);have H : ((ddiref01_split.f k a0).bind fun bt197 => (some bt197.2)) = some r := h;clear h;replace H := Option.bind_eq_some_iff.mp H;obtain ⟨⟨t197,t198⟩,A20,H⟩ := H;replace H : (some t198) = some r := H;have A2 := Aside0.mk A20;clear A20;obtain rfl := Option.some.inj H;go_enter Tryd.func62,Tryd.ntmps62;go_wp2_with (first | ((with_reducible refine gate_callee (f := 75) rfl ?_);refine XR.gL 7 Tryd.func75 #[.string a0] ?_;(with_reducible refine (ddiref01_split.calls k a0 t197 t198 _ A2.out).mono ?_);rintro e w3 ⟨v199,rfl,ho0,hb⟩;refine ⟨_,rfl,?_⟩;have HO200 := Aside0.mk (Kd.R_lower ho0 (below_size (XR.lB HB.out)));replace HB := Aside0.mk (XR.bB HB.out hb);(try clear hb);(try clear hk);(try clear ho0)));go_ret;exact XR.re HB.out
end Go.Proofs.YtikhpegamnnabaaDoor.QA
