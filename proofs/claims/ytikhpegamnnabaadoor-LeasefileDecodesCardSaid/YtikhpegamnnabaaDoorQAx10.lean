import Derived.Test.YtikhpegamnnabaaDoorQAd1
import Derived.Test.YtikhpegamnnabaaDoorQAx0
import Derived.Test.YtikhpegamnnabaaDoorQAx5
import Derived.Test.YtikhpegamnnabaaDoorQAx8
import Derived.Test.YtikhpegamnnabaaDoorQAx9
namespace Go.Proofs.YtikhpegamnnabaaDoor.QA
open Go.RowKit Go.Proofs.YtikhpegamnnabaaDoorW.PrintWords Go.Proofs.YtikhpegamnnabaaDoorW.PrintLast Go.Proofs.YtikhpegamnnabaaDoorW.PrintMore
attribute [local go_sem] max2_int min2_int max_two min_two max_three min_three max_four min_four
attribute [local go_sem high] Go.Proofs.YtikhpegamnnabaaDoor.XW.cell_setCell_lit
set_option linter.unusedVariables false
set_option linter.unusedSimpArgs false
set_option maxHeartbeats 8000000 in
set_option maxRecDepth 100000 in
theorem dname_Valid.calls (k : Nat) (a0 : ByteArray) (r : Bool) (w : World) (h : dname_Valid.f k a0 = some r) :
  Calls Tryd.prog 74 #[.string a0] w fun e w' => e = .returned (.bool r) ∧ Below w.heap.size w w' := by
 have HB := Aside0.mk (Below.refl w.heap.size w);have H : (if a0.toList = ([46] : List UInt8) then (some true) else (if (a0.size : Int) ≥ 255 then (dname_Valid.j0 k a0 true) else ((strings_HasSuffix.f a0 (⟨#[46]⟩ : ByteArray)).bind fun t130 => (dname_Valid.j0 k a0 (!t130))))) = some r := h;clear h;by_cases c2 : a0.toList = ([46] : List UInt8)
 ·rw [if_pos c2] at H;have c2b0 := beq_iff_eq.mpr c2;have c2b1 := bne_eq_false_iff_eq.mpr c2;clear c2;obtain rfl := Option.some.inj H;go_enter Tryd.func74,Tryd.ntmps74;go_wp2;go_ret;exact XR.re HB.out
 ·rw [if_neg c2] at H;have c2b0 := beq_eq_false_iff_ne.mpr c2;have c2b1 := bne_iff_ne.mpr c2;have HC3 := Aside0.mk H;clear H;go_enter Tryd.func74,Tryd.ntmps74;go_upto_region 3 with (fail);go_cut [14] (fun v14 wc => ∃ (kq : Nat) (x14_2 : Bool),v14 = .bool x14_2 ∧ Aside0 (dname_Valid.j0 kq a0 x14_2 = some r) ∧ Aside0 (kq ≤ k) ∧ Aside0 (Below w.heap.size w wc))
  case first =>
   have H := HC3.out;clear HC3;by_cases c4 : (a0.size : Int) ≥ 255
   ·rw [if_pos c4] at H;have c4b0 := decide_eq_true c4;have c4b1 : decide (255 ≤ a0.size) = true := decide_eq_true (by omega);clear c4;(first | rw [c4b0] | (simp only [i64_w,i32_w];rw [c4b0]) | skip);have H' := Aside0.mk H;clear H;go_wp2
    first | go_meet | ((refine Met.intro ?_);go_step;(try simp only [c2b0,c4b0]);(repeat apply Exists.intro);refine ⟨?rel,rfl⟩)
    case rel => exact ⟨_,(true),XR.rf,(by first | exact H' | (have h_ := H';simp only [c2b0,c4b0] at h_;exact h_)),XR.om,⟨XR.sB HB.out⟩⟩
   ·rw [if_neg c4] at H;have c4b0 := decide_eq_false c4;have c4b1 : decide (255 ≤ a0.size) = false := decide_eq_false (by omega);clear c4;(first | rw [c4b0] | (simp only [i64_w,i32_w];rw [c4b0]) | skip);replace H := Option.bind_eq_some_iff.mp H;obtain ⟨t130,A50,H⟩ := H;replace H : (dname_Valid.j0 k a0 (!t130)) = some r := H;have A5 := Aside0.mk A50;clear A50;have H' := Aside0.mk H;clear H;go_wp2_with (first | (go_at_call 84;(with_reducible refine (strings_HasSuffix.calls a0 (⟨#[46]⟩ : ByteArray) t130 _ A5.out).mono ?_);rintro e w' ⟨rfl,⟨nd,rfl⟩⟩))
    first | go_meet | ((refine Met.intro ?_);go_step;(try simp only [c2b0,c4b0]);(repeat apply Exists.intro);refine ⟨?rel,rfl⟩)
    case rel => exact ⟨_,(!t130),XR.rf,(by first | exact H' | (have h_ := H';simp only [c2b0,c4b0] at h_;exact h_)),XR.om,⟨XR.sB HB.out⟩⟩
  case rest =>
   clear HC3;(try clear c2);(try clear c2b0);(try clear c2b1);(try clear p2);(try clear c4);(try clear c4b0);(try clear c4b1);obtain ⟨kq,x14_2,rfl,HA,HJ2,HB⟩ := hcut
   cases kq with
   | zero => exact absurd HA.out (by simp [dname_Valid.j0])
   | succ kj2 =>
    have H := HA.out;clear HA;simp only [dname_Valid.j0] at H;by_cases c6 : x14_2 = true
    ·subst c6;rw [if_pos rfl] at H;(try dsimp only at H);obtain rfl := Option.some.inj H;go_wp2;go_ret;exact XR.re HB.out
    ·replace c6 := Bool.eq_false_iff.mpr c6;subst c6;rw [if_neg (show ¬ (false = true) by decide)] at H;(try dsimp only at H);obtain ⟨ji7,hji7⟩ : ∃ j_ : Int,(wrap64 ((a0.size : Int) - 1)) = j_ := ⟨_,rfl⟩;replace H : (if 0 ≤ (ji7) then (if (ji7) ≤ (a0.size : Int) then ((strings_Split.f kj2 (a0.extract 0 ((ji7) : Int).toNat) (⟨#[46]⟩ : ByteArray)).bind fun t131 => (dname_Valid.l0 kj2 t131 (t131.length : Int) 0)) else (none)) else (none)) = some r := by first | (rw [hji7] at H;exact H) | (simp only [hji7] at H ⊢;exact H)
     have hji7w : (IntKind.i64.wrap ((a0.size : Int) - 1)) = ji7 := (i64_w _).trans hji7;by_cases c8 : 0 ≤ (ji7)
     ·rw [if_pos c8] at H;have c8b0 := eq_true c8;have c8b1 := decide_eq_true c8;clear c8;by_cases c9 : (ji7) ≤ (a0.size : Int)
      ·rw [if_pos c9] at H;have c9b0 := eq_true c9;have c9b1 := decide_eq_true c9;clear c9;replace H := Option.bind_eq_some_iff.mp H;obtain ⟨t131,A100,H⟩ := H;replace H : (dname_Valid.l0 kj2 t131 (t131.length : Int) 0) = some r := H;have A10 := Aside0.mk A100;clear A100;have H' := Aside0.mk H;clear H;go_wp2_with (first | ((with_reducible refine gate_callee (f := 85) rfl ?_);refine goesL_ (some 20) rfl rfl Tryd.func85 (by kernel_rfl) rfl #[.string (a0.extract 0 ((ji7) : Int).toNat),.string (⟨#[46]⟩ : ByteArray)] rfl (by (try simp only [List.map_toArray,List.map_cons,List.map_nil]);first | done | (simp only [hji7];rfl) | rfl | (simp only [List.length_drop,List.length_take];rfl)) ?_;(with_reducible refine (strings_Split.calls kj2 (a0.extract 0 ((ji7) : Int).toNat) (⟨#[46]⟩ : ByteArray) t131 _ A10.out).mono ?_);rintro e w11 ⟨v132,rfl,ho0,hb⟩;refine ⟨_,rfl,?_⟩;have HO133 := Aside0.mk (Kd.R_lower ho0 (below_size (XR.lB HB.out)));replace HB := Aside0.mk (XR.bB HB.out hb);(try clear hb);(try clear ho0);obtain ⟨Ao12,co12,eo12⟩ := Kd.R_slice HO133.out;subst eo12));go_loopg [22] kj2 (fun kq v22 w' => ∃ (x22_2 : Int),v22 = .int .i64 x22_2 ∧ Aside0 (dname_Valid.l0 kq t131 (t131.length : Int) x22_2 = some r) ∧ Aside0 (kq ≤ kj2) ∧ Aside0 (Kd.R Kd.string 9 w' w.heap.size (fun _ => True) (.slice Ao12 t131.length co12) t131) ∧ Aside0 (Below w.heap.size w w'))
       case atStart => exact ⟨(0),XR.rf,H',⟨Nat.le_refl _⟩,⟨by (with_reducible repeat (first | apply Kd.R_alloc | apply Kd.R_drewN | apply Kd.R_drew));exact HO133.out⟩,⟨XR.sB HB.out⟩⟩
       case round =>
        clear H';(try clear c2);(try clear c2b0);(try clear c2b1);(try clear p2);(try clear c4);(try clear c4b0);(try clear c4b1);(try clear c6);(try clear p6);(try clear c7);(try clear c8);(try clear c8b0);(try clear c8b1);(try clear c9);(try clear c9b0);(try clear c9b1);(try clear p2);obtain ⟨x22_2,rfl,HA,HK2,HO_20,HB⟩ := hrel
        cases gk with
        | zero => exact absurd HA.out (by simp [dname_Valid.l0])
        | succ k2 =>
         have H := HA.out;clear HA;simp only [dname_Valid.l0] at H;by_cases c13 : x22_2 < (t131.length : Int)
         ·rw [if_pos c13] at H;have c13b0 := decide_eq_true c13;clear c13;by_cases c14 : 0 ≤ x22_2
          ·rw [if_pos c14] at H;have c14b0 := decide_eq_true c14;clear c14;by_cases c15 : x22_2 < (t131.length : Int)
           ·rw [if_pos c15] at H;have c15b0 := decide_eq_true c15;clear c15;have HC16 := Aside0.mk H;clear H;have p134 : 0 ≤ (x22_2 : Int) := XR.od;have q134 : x22_2 < (t131.length : Int) := XR.od;obtain ⟨ad134,e134,hx134_0⟩ := Kd.at_string (Kd.R_reads' HO_20.out).2.2 x22_2 p134 q134
            cases e134
            replace p134 := eq_true p134;replace q134 := eq_true q134;go_upto_region 8 with (fail);go_cut [37] (fun v37 wc => ∃ (kq : Nat) (x37_15 : Bool),v37 = .bool x37_15 ∧ Aside0 (dname_Valid.j2 kq t131 (t131.length : Int) x22_2 x37_15 = some r) ∧ Aside0 (kq ≤ k2) ∧ Aside0 (Kd.R Kd.string 9 wc w.heap.size (fun _ => True) (.slice (some ad134) t131.length co12) t131) ∧ Aside0 (Below w.heap.size w wc))
            case first =>
             have H := HC16.out;clear HC16;replace H := Option.bind_eq_some_iff.mp H;obtain ⟨t135,A170,H⟩ := H;(try dsimp only at H);have A17 := Aside0.mk A170;clear A170;by_cases c18 : t135 = true
             ·subst c18;rw [if_pos rfl] at H;(try dsimp only at H);have H' := Aside0.mk H;clear H;go_wp2_with (first | ((with_reducible refine gate_callee (f := 86) rfl ?_);refine XR.gL 28 Tryd.func86 #[.string (rdOf ByteArray.empty t131 x22_2)] ?_;(with_reducible refine (dname_ordinary.calls k2 (rdOf ByteArray.empty t131 x22_2) true _ A17.out).mono ?_);rintro e w' ⟨rfl,⟨nd,rfl⟩⟩;refine ⟨_,rfl,?_⟩))
              first | go_meet | ((refine Met.intro ?_);go_step;(try simp only [c13b0,c14b0,c15b0]);(repeat apply Exists.intro);refine ⟨?rel,rfl⟩)
              case rel => exact ⟨_,(false),XR.rf,(by first | exact H' | (have h_ := H';simp only [c13b0,c14b0,c15b0] at h_;exact h_)),⟨by have := HJ2.out;have := HK2.out;first | omega | exact Nat.le_refl _⟩,⟨by (with_reducible repeat (first | apply Kd.R_alloc | apply Kd.R_drewN | apply Kd.R_drew));exact HO_20.out⟩,⟨XR.sB HB.out⟩⟩
             ·replace c18 := Bool.eq_false_iff.mpr c18;subst c18;rw [if_neg (show ¬ (false = true) by decide)] at H;(try dsimp only at H);by_cases c19 : x22_2 > 0
              ·rw [if_pos c19] at H;have c19b0 := decide_eq_true c19;clear c19;(first | rw [c19b0] | (simp only [i64_w,i32_w];rw [c19b0]) | skip);have H' := Aside0.mk H;clear H;go_wp2_with (first | ((with_reducible refine gate_callee (f := 86) rfl ?_);refine XR.gL 28 Tryd.func86 #[.string (rdOf ByteArray.empty t131 x22_2)] ?_;(with_reducible refine (dname_ordinary.calls k2 (rdOf ByteArray.empty t131 x22_2) false _ A17.out).mono ?_);rintro e w' ⟨rfl,⟨nd,rfl⟩⟩;refine ⟨_,rfl,?_⟩))
               first | go_meet | ((refine Met.intro ?_);go_step;(try simp only [c13b0,c14b0,c15b0,c19b0]);(repeat apply Exists.intro);refine ⟨?rel,rfl⟩)
               case rel => exact ⟨_,(true),XR.rf,(by first | exact H' | (have h_ := H';simp only [c13b0,c14b0,c15b0,c19b0] at h_;exact h_)),⟨by have := HJ2.out;have := HK2.out;first | omega | exact Nat.le_refl _⟩,⟨by (with_reducible repeat (first | apply Kd.R_alloc | apply Kd.R_drewN | apply Kd.R_drew));exact HO_20.out⟩,⟨XR.sB HB.out⟩⟩
              ·rw [if_neg c19] at H;have c19b0 := decide_eq_false c19;clear c19;(first | rw [c19b0] | (simp only [i64_w,i32_w];rw [c19b0]) | skip);have H' := Aside0.mk H;clear H;go_wp2_with (first | ((with_reducible refine gate_callee (f := 86) rfl ?_);refine XR.gL 28 Tryd.func86 #[.string (rdOf ByteArray.empty t131 x22_2)] ?_;(with_reducible refine (dname_ordinary.calls k2 (rdOf ByteArray.empty t131 x22_2) false _ A17.out).mono ?_);rintro e w' ⟨rfl,⟨nd,rfl⟩⟩;refine ⟨_,rfl,?_⟩))
               first | go_meet | ((refine Met.intro ?_);go_step;(try simp only [c13b0,c14b0,c15b0,c19b0]);(repeat apply Exists.intro);refine ⟨?rel,rfl⟩)
               case rel => exact ⟨_,(((rdOf ByteArray.empty t131 x22_2).toList != ([42] : List UInt8))),XR.rf,(by first | exact H' | (have h_ := H';simp only [c13b0,c14b0,c15b0,c19b0] at h_;exact h_)),⟨by have := HJ2.out;have := HK2.out;first | omega | exact Nat.le_refl _⟩,⟨by (with_reducible repeat (first | apply Kd.R_alloc | apply Kd.R_drewN | apply Kd.R_drew));exact HO_20.out⟩,⟨XR.sB HB.out⟩⟩
            case rest =>
             clear HC16;(try clear c1);(try clear p1);(try clear q1);(try clear hx1);(try clear c2);(try clear c2b0);(try clear c2b1);(try clear p2);(try clear c4);(try clear c4b0);(try clear c4b1);(try clear c6);(try clear p6);(try clear c7);(try clear c8);(try clear c8b0);(try clear c8b1);(try clear c9);(try clear c9b0);(try clear c9b1);(try clear c13);(try clear c13b0);(try clear p13);(try clear q13);(try clear hx13);(try clear c14);(try clear c14b0);(try clear c15);(try clear c15b0);(try clear c18);(try clear c19);(try clear c19b0);(try clear hx134_0);(try clear p134);(try clear p2);(try clear p6);(try clear q134);obtain ⟨kq,x37_15,rfl,HA,HJ15,HO_20,HB⟩ := hcut
             cases kq with
             | zero => exact absurd HA.out (by simp [dname_Valid.j2])
             | succ kj15 =>
              have H := HA.out;clear HA;simp only [dname_Valid.j2] at H;by_cases c20 : x37_15 = true
              ·subst c20;rw [if_pos rfl] at H;(try dsimp only at H);obtain rfl := Option.some.inj H;go_wp2;go_ret;exact ⟨by first | rfl | (simp [errW_none,errW_some] <;> rfl) | (simp only [← hji7];first | rfl | (simp [errW_none,errW_some] <;> rfl)) | (simp [*,errW_none,errW_some] <;> rfl),XR.sB HB.out⟩
              ·replace c20 := Bool.eq_false_iff.mpr c20;subst c20;rw [if_neg (show ¬ (false = true) by decide)] at H;(try dsimp only at H);have H' := Aside0.mk H;clear H;go_wp2;go_roundg kj15
               case measure => have := HJ2.out;have := HK2.out;have := HJ15.out;omega
               case rel => exact ⟨(wrap64 (x22_2 + 1)),XR.rf,H',⟨by have := HJ2.out;have := HK2.out;have := HJ15.out;omega⟩,⟨by (with_reducible repeat (first | apply Kd.R_alloc | apply Kd.R_drewN | apply Kd.R_drew));exact HO_20.out⟩,⟨XR.sB HB.out⟩⟩
           ·rw [if_neg c15] at H;exact absurd H (by simp)
          ·rw [if_neg c14] at H;exact absurd H (by simp)
         ·rw [if_neg c13] at H;have c13b0 := decide_eq_false c13;clear c13;obtain rfl := Option.some.inj H;go_wp2;go_ret;exact ⟨by first | rfl | (simp [errW_none,errW_some] <;> rfl) | (simp only [← hji7];first | rfl | (simp [errW_none,errW_some] <;> rfl)) | (simp [*,errW_none,errW_some] <;> rfl),XR.sB HB.out⟩
      ·rw [if_neg c9] at H;exact absurd H (by simp)
     ·rw [if_neg c8] at H;exact absurd H (by simp)
set_option maxHeartbeats 8000000 in
set_option maxRecDepth 100000 in
theorem lease_isHost.calls (k : Nat) (a0 : ByteArray) (r : Bool) (w : World) (h : lease_isHost.f k a0 = some r) :
  Calls Tryd.prog 54 #[.string a0] w fun e w' => e = .returned (.bool r) ∧ Below w.heap.size w w' := by
 have HB := Aside0.mk (Below.refl w.heap.size w);have H : (if a0.toList = ([] : List UInt8) then (some true) else ((dname_Valid.f k a0).bind fun t136 => (some t136))) = some r := h;clear h;by_cases c2 : a0.toList = ([] : List UInt8)
 ·rw [if_pos c2] at H;have c2b0 := beq_iff_eq.mpr c2;have c2b1 := bne_eq_false_iff_eq.mpr c2;clear c2;obtain rfl := Option.some.inj H;go_enter Tryd.func54,Tryd.ntmps54;go_wp2;go_ret;exact XR.re HB.out
 ·rw [if_neg c2] at H;have c2b0 := beq_eq_false_iff_ne.mpr c2;have c2b1 := bne_iff_ne.mpr c2;replace H := Option.bind_eq_some_iff.mp H;obtain ⟨t136,A30,H⟩ := H;replace H : (some t136) = some r := H;have A3 := Aside0.mk A30;clear A30;obtain rfl := Option.some.inj H;go_enter Tryd.func54,Tryd.ntmps54;go_wp2_with (first | (go_at_call 74;(with_reducible refine (dname_Valid.calls k a0 t136 _ A3.out).mono ?_);rintro e w4 ⟨rfl,hb⟩;replace HB := Aside0.mk (XR.bB HB.out hb);(try clear hb)));go_ret;exact XR.re HB.out
end Go.Proofs.YtikhpegamnnabaaDoor.QA
