import Derived.Test.YtngfffoeaghhhaaDoorQAd
import Derived.Test.YtngfffoeaghhhaaDoorQAx0
import Derived.Test.YtngfffoeaghhhaaDoorQAx5
import Derived.Test.YtngfffoeaghhhaaDoorXL
namespace Go.Proofs.YtngfffoeaghhhaaDoor.QA
open Go.RowKit Go.Proofs.YtngfffoeaghhhaaDoorW.PrintWords Go.Proofs.YtngfffoeaghhhaaDoorW.PrintLast Go.Proofs.YtngfffoeaghhhaaDoorW.PrintMore
attribute [local go_sem] max2_int min2_int max_two min_two max_three min_three max_four min_four
attribute [local go_sem high] Go.Proofs.YtngfffoeaghhhaaDoor.XW.cell_setCell_lit
set_option linter.unusedVariables false
set_option linter.unusedSimpArgs false
def option_Valid.T6 : Bool × List (List Nat × List Nat) := (true,[([],[]),([],[]),([0,1],[0,1]),([],[]),([3],[3]),([2,4],[2,4]),([5],[5]),([6],[6]),([6],[6]),([7,5,0,1,2,3,4,5,6,7],[7]),([8,9,0,1,2,3,4,5,6,7,8,9],[8])])
def option_Valid.B6 : List Nat := [0,0,3,0,8,31,63,127,127,255,1023]
theorem option_Valid.tab6 : rtab .any (opsOf Tryd.f24 6) = option_Valid.T6 := by kernel_rfl
theorem option_Valid.bits6 : waitsOk option_Valid.T6.2 option_Valid.B6 = true := by kernel_rfl
set_option maxHeartbeats 8000000 in
set_option maxRecDepth 100000 in
theorem option_Valid.calls (k : Nat) (A0 : Option Addr) (c0 : Nat) (l0 : List (S59)) (r : Bool) (w : World) (hr0 : Kd.C k59 w A0 l0.length l0) (hc0 : l0.length ≤ c0) (h : option_Valid.f k l0 = some r) :
  Calls Tryd.prog 24 #[.slice A0 l0.length c0] w fun e w' => e = .returned (.bool r) ∧ Below w.heap.size w w' := by
 have hu59 := Tryd.underlying59;have HR0 := Aside0.mk hr0;have HC0 := Aside0.mk hc0;clear hr0 hc0;have HB := Aside0.mk (Below.refl w.heap.size w);have H : (if (l0.length : Int) > 32 then (option_Valid.j0 k l0 true) else ((option_size.f k l0).bind fun t119 => (option_Valid.j0 k l0 (decide (t119 > 4096))))) = some r := h;clear h;have HC2 := Aside0.mk H;clear H;go_enter Tryd.func24,Tryd.ntmps24;go_upto_region 1 with (fail);go_cut [14] (fun v14 wc => ∃ (kq : Nat) (x14_1 : Bool),v14 = .bool x14_1 ∧ Aside0 (option_Valid.j0 kq l0 x14_1 = some r) ∧ Aside0 (kq ≤ k) ∧ Aside0 (Below w.heap.size w wc))
 case first =>
  have H := HC2.out;clear HC2;by_cases c3 : (l0.length : Int) > 32
  ·rw [if_pos c3] at H;have c3b0 := decide_eq_true c3;have c3b1 : decide (32 < l0.length) = true := decide_eq_true (by omega);clear c3;(first | rw [c3b0] | (simp only [i64_w,i32_w];rw [c3b0]) | skip);have H' := Aside0.mk H;clear H;go_wp2
   first | go_meet | ((refine Met.intro ?_);go_step;(try simp only [c3b0]);(repeat apply Exists.intro);refine ⟨?rel,rfl⟩)
   case rel => exact ⟨_,(true),XR.rf,(by first | exact H' | (have h_ := H';simp only [c3b0] at h_;exact h_)),XR.om,⟨XR.sB HB.out⟩⟩
  ·rw [if_neg c3] at H;have c3b0 := decide_eq_false c3;have c3b1 : decide (32 < l0.length) = false := decide_eq_false (by omega);clear c3;(first | rw [c3b0] | (simp only [i64_w,i32_w];rw [c3b0]) | skip);replace H := Option.bind_eq_some_iff.mp H;obtain ⟨t119,A40,H⟩ := H;replace H : (option_Valid.j0 k l0 (decide (t119 > 4096))) = some r := H;have A4 := Aside0.mk A40;clear A40;have H' := Aside0.mk H;clear H;go_wp2_with (first | (go_at_call 44;(with_reducible refine (option_size.calls k _ _ l0 t119 _ ?side1 ?side2 A4.out).mono ?_);(case side1 => exact XR.lC (Kd.C_below HR0.out HB.out));(case side2 => exact HC0.out);rintro e w5 ⟨rfl,hb⟩;replace HB := Aside0.mk (XR.bB HB.out hb);(try clear hb)))
   first | go_meet | ((refine Met.intro ?_);go_step;(try simp only [c3b0]);(repeat apply Exists.intro);refine ⟨?rel,rfl⟩)
   case rel => exact ⟨_,(decide (t119 > 4096)),XR.rf,(by first | exact H' | (have h_ := H';simp only [c3b0] at h_;exact h_)),XR.om,⟨XR.sB HB.out⟩⟩
 case rest =>
  clear HC2;(try clear c2);(try clear p2);(try clear c3);(try clear c3b0);(try clear c3b1);obtain ⟨kq,x14_1,rfl,HA,HJ1,HB⟩ := hcut
  cases kq with
  | zero => exact absurd HA.out (by simp [option_Valid.j0])
  | succ kj1 =>
   have H := HA.out;clear HA;simp only [option_Valid.j0] at H;by_cases c6 : x14_1 = true
   ·subst c6;rw [if_pos rfl] at H;(try dsimp only at H);obtain rfl := Option.some.inj H;go_wp2;go_ret;exact XR.re HB.out
   ·replace c6 := Bool.eq_false_iff.mpr c6;subst c6;rw [if_neg (show ¬ (false = true) by decide)] at H;(try dsimp only at H);have H' := Aside0.mk H;clear H;go_wp2;go_loopg [17] kj1 (fun kq v17 w' => ∃ (x17_2 : Int),v17 = .int .i64 x17_2 ∧ Aside0 (option_Valid.l0 kq l0 l0 (l0.length : Int) x17_2 = some r) ∧ Aside0 (kq ≤ kj1) ∧ Aside0 (Below w.heap.size w w'))
    case atStart => exact ⟨(0),XR.rf,H',⟨Nat.le_refl _⟩,⟨XR.sB HB.out⟩⟩
    case round =>
     clear H';(try clear c2);(try clear p2);(try clear c3);(try clear c3b0);(try clear c3b1);(try clear c6);(try clear p2);obtain ⟨x17_2,rfl,HA,HK2,HB⟩ := hrel
     cases gk with
     | zero => exact absurd HA.out (by simp [option_Valid.l0])
     | succ k2 =>
      have H := HA.out;clear HA;simp only [option_Valid.l0] at H;by_cases c7 : x17_2 < (l0.length : Int)
      ·rw [if_pos c7] at H;have c7b0 := decide_eq_true c7;clear c7;by_cases c8 : 0 ≤ x17_2
       ·rw [if_pos c8] at H;have c8b0 := decide_eq_true c8;clear c8;by_cases c9 : x17_2 < (l0.length : Int)
        ·rw [if_pos c9] at H;have c9b0 := decide_eq_true c9;clear c9;have c10b0 := eq_true (of_decide_eq_true (by first | (with_reducible assumption) | assumption) : 0 ≤ x17_2);by_cases c11 : x17_2 ≤ (l0.length : Int)
         ·rw [if_pos c11] at H;have c11b0 := eq_true c11;have c11b1 := decide_eq_true c11;clear c11;obtain ⟨y122,hy122⟩ : ∃ y_ : List (S59),y_ = (l0.take (x17_2 : Int).toNat) := ⟨_,rfl⟩;replace H : ((option_Find.f k2 y122 ((rd_T59 l0 x17_2).f0)).bind fun bt126 => (if bt126.2 = true then (option_Valid.j2 k2 l0 l0 (l0.length : Int) x17_2 true) else ((option_isCode.f ((rd_T59 l0 x17_2).f0)).bind fun t128 => (if t128 = true then (option_Valid.j2 k2 l0 l0 (l0.length : Int) x17_2 (decide ((((rd_T59 l0 x17_2).f1).size : Int) > 1024))) else (option_Valid.j2 k2 l0 l0 (l0.length : Int) x17_2 true))))) = some r := by first | (rw [hy122];with_reducible exact H) | (have H2_ := (Option.bind_some _ _).symm.trans H;rw [hy122];with_reducible exact H2_) | (have H2_ := (Option.bind_some _ _).symm.trans H;with_reducible exact H2_) | with_reducible exact H | (rw [hy122];exact H) | exact H
          have Ny122 := Aside0.mk hy122;clear hy122;replace H := Option.bind_eq_some_iff.mp H;obtain ⟨⟨t126,t127⟩,A120,H⟩ := H;(try dsimp only at H);have A12 := Aside0.mk A120;clear A120;have HC13 := Aside0.mk H;clear H;have p120 : 0 ≤ (x17_2 : Int) := XR.od;have q120 : x17_2 < (l0.length : Int) := XR.od;obtain ⟨ad120,e120,hx120_0,hx120_1⟩ := at_T59 (Kd.C_below HR0.out HB.out) x17_2 p120 q120
          cases e120
          replace p120 := eq_true p120;replace q120 := eq_true q120
          try go_wp2_with (first | ((with_reducible refine gate_dst (N := 4) rfl ?_);(try (refine gate_guard (by rfl) ?_;dsimp only));refine XR.bx 4 59 #[.int .i64 0,.string (⟨#[]⟩ : ByteArray)] ?_;intro gb121 hg w14 hbox hb;have BK121 := Aside0.mk (hbox);have GW121 := Aside0.mk (XR.ge hg HB.out);have GE121 := GW121;replace HB := Aside0.mk (XR.bB HB.out hb);clear hb hbox hg;obtain ⟨Y15_0,Y15_1⟩ := XR.c2 BK121.out;obtain ⟨Z15_0,Z15_1⟩ := XR.f2 BK121.out))
          have n0_ : Aside0 (((w14.setCell ⟨gb121,0,none⟩ (.int .i64 ((rd_T59 l0 x17_2).f0))).setCell ⟨gb121,1,none⟩ (.string ((rd_T59 l0 x17_2).f1))).heap[gb121]? = some (.cells #[.int .i64 ((rd_T59 l0 x17_2).f0),.string ((rd_T59 l0 x17_2).f1)] 59 (0,0))) := ⟨by first | exact XR.lb (XR.p2 BK121.out) | exact XR.p2 (XR.lb BK121.out)⟩;have n1_ : Aside0 (Below w.heap.size w ((w14.setCell ⟨gb121,0,none⟩ (.int .i64 ((rd_T59 l0 x17_2).f0))).setCell ⟨gb121,1,none⟩ (.string ((rd_T59 l0 x17_2).f1)))) := ⟨XR.sB HB.out⟩;(try clear BK121);(try clear HB);generalize ((w14.setCell ⟨gb121,0,none⟩ (.int .i64 ((rd_T59 l0 x17_2).f0))).setCell ⟨gb121,1,none⟩ (.string ((rd_T59 l0 x17_2).f1))) = w16 at n0_ n1_ ⊢;have BK121 := n0_;have HB := n1_;clear n0_ n1_;replace BK121 := Aside0.mk (blk_drew BK121.out);replace HB := Aside0.mk (below_drew1 HB.out);have q18 : (x17_2 : Int) ≤ ((l0.length : Int) : Int) := XR.od;obtain ⟨i018,hi018,_,hsz18,_⟩ := info_parts info59;have hroom18 : l0.length ≤ c0 := HC0.out;have hC18 : Kd.C k59 _ (some ad120) l0.length l0 := HR0.out;have hcut18 := cut_to (P := Tryd.prog) 25 59 .i64 Tryd.underlying25 hi018 (some ad120) l0.length c0 x17_2 (of_decide_eq_true (by first | (with_reducible assumption) | assumption)) q18 hroom18;have hr18 := Kd.C_take (m := (x17_2 : Int).toNat) hC18 (by omega);have hy18 : y122.length = (x17_2 : Int).toNat := (by rw [Ny122.out,List.length_take];omega);rw [← Ny122.out] at hr18;rw [← hy18] at hcut18;have HR125 := Aside0.mk hr18;have HC125 := Aside0.mk (show y122.length ≤ c0 from by omega);clear hr18 hC18 hroom18 hi018 hsz18;have KY18 := Aside0.mk hy18;clear hy18;replace q18 := eq_true q18;refine start_ (n := 11) (S := fun w' => w'.cell? ⟨gb121,0,none⟩ = some (.int .i64 ((rd_T59 l0 x17_2).f0)) ∧ w'.cell? ⟨gb121,1,none⟩ = some (.string ((rd_T59 l0 x17_2).f1))) (ds := []) #[false,false,false,false,false,false,false,false,false,false,false] (by kernel_rfl) rfl rfl (XR.c2 BK121.out) (fun hHeld => ?_);refine with_tabW option_Valid.tab6 option_Valid.bits6 (fun HT_ HW_ => ?_);generalize w16.drew = w17 at BK121 HB HR125 hHeld ⊢;refine XR.pu 0 23 HT_.out ?_;refine XR.pu 1 24 HT_.out ?_;refine XR.pu 2 25 HT_.out ?_;refine XR.pu 3 26 HT_.out ?_;(first | refine XL.tl 4 27 59 _ gb121 [.int .i64 ((rd_T59 l0 x17_2).f0),.string ((rd_T59 l0 x17_2).f1)] Tryd.underlying59 (fun w_ hs_ => XL.lst_range _ 0 hs_) HT_.out HW_.out hHeld ?_ | refine XR.ta 4 27 HT_.out HW_.out hHeld ?_);refine XR.on 5 (some 28) HT_.out (fun K hK => ?_);refine XR.gO Tryd.func31 #[.slice (some ad120) y122.length c0,.int .i64 ((rd_T59 l0 x17_2).f0)] ?_
          with_reducible refine (option_Find.calls k2 _ _ y122 ((rd_T59 l0 x17_2).f0) t126 t127 _ ?side1 ?side2 A12.out).mono ?_
          (case side1 => exact XR.lC (Kd.C_below HR125.out HB.out))
          (case side2 => exact HC125.out)
          rintro e w19 ⟨rfl,hb⟩;refine ⟨_,rfl,?_⟩;replace BK121 := Aside0.mk (XR.bb BK121.out hb);replace HB := Aside0.mk (below_step (XR.sB HB.out) hb);(try clear hb);(try clear hb2);(try clear hk);(try clear hi);refine hK.out _ _ (XR.c2 BK121.out) (fun hHeld => ?_);clear hK K;refine norm_ (a' := ?_) ?_ ?_
          rotate_left
          ·show Act.put _ (some 28) _ = _
           simp only [Act.put,List.setIfInBounds_toArray,List.set_cons_zero,List.set_cons_succ,i64_w,i32_w]
           rfl
          refine XR.pu 6 22 HT_.out ?_;refine XR.pu 7 29 HT_.out ?_;refine XR.pu 8 30 HT_.out ?_;refine XR.pu 9 5 HT_.out ?_;refine XR.pu 10 6 HT_.out ?_;refine done_ (done_of HT_.out (by kernel_rfl)) ?_;go_upto_region 7 with (fail);go_cut [43] (fun v43 wc => ∃ (kq : Nat) (x43_12 : Bool),v43 = .bool x43_12 ∧ Aside0 (option_Valid.j2 kq l0 l0 (l0.length : Int) x17_2 x43_12 = some r) ∧ Aside0 (kq ≤ k2) ∧ Aside0 (wc.heap[gb121]? = some (.cells #[.int .i64 ((rd_T59 l0 x17_2).f0),.string ((rd_T59 l0 x17_2).f1)] 59 (0,0))) ∧ Aside0 (Below w.heap.size w wc))
          case first =>
           have H := HC13.out;clear HC13;by_cases c20 : t127 = true
           ·subst c20;rw [if_pos rfl] at H;(try dsimp only at H);have H' := Aside0.mk H;clear H;go_wp2
            first | go_meet | ((refine Met.intro ?_);go_step;(try simp only [c7b0,c8b0,c9b0]);(repeat apply Exists.intro);refine ⟨?rel,rfl⟩)
            case rel => exact ⟨_,(true),XR.rf,(by first | exact H' | (have h_ := H';simp only [c7b0,c8b0,c9b0] at h_;exact h_)),⟨by have := HJ1.out;have := HK2.out;first | omega | exact Nat.le_refl _⟩,(XR.fb BK121.out),⟨XR.sB HB.out⟩⟩
           ·replace c20 := Bool.eq_false_iff.mpr c20;subst c20;rw [if_neg (show ¬ (false = true) by decide)] at H;(try dsimp only at H);replace H := Option.bind_eq_some_iff.mp H;obtain ⟨t128,A210,H⟩ := H;(try dsimp only at H);have A21 := Aside0.mk A210;clear A210;by_cases c22 : t128 = true
            ·subst c22;rw [if_pos rfl] at H;(try dsimp only at H);have H' := Aside0.mk H;clear H;obtain ⟨Y23_0,Y23_1⟩ := XR.c2 BK121.out;obtain ⟨Z23_0,Z23_1⟩ := XR.f2 BK121.out;go_wp2_with (first | (go_at_call 45;(with_reducible refine (option_isCode.calls ((rd_T59 l0 x17_2).f0) true _ A21.out).mono ?_);rintro e w' ⟨rfl,⟨nd,rfl⟩⟩))
             first | go_meet | ((refine Met.intro ?_);go_step;(try simp only [c7b0,c8b0,c9b0]);(repeat apply Exists.intro);refine ⟨?rel,rfl⟩)
             case rel => exact ⟨_,(decide ((((rd_T59 l0 x17_2).f1).size : Int) > 1024)),XR.rf,(by first | exact H' | (have h_ := H';simp only [c7b0,c8b0,c9b0] at h_;exact h_)),⟨by have := HJ1.out;have := HK2.out;first | omega | exact Nat.le_refl _⟩,(XR.fb BK121.out),⟨XR.sB HB.out⟩⟩
            ·replace c22 := Bool.eq_false_iff.mpr c22;subst c22;rw [if_neg (show ¬ (false = true) by decide)] at H;(try dsimp only at H);have H' := Aside0.mk H;clear H;obtain ⟨Y24_0,Y24_1⟩ := XR.c2 BK121.out;obtain ⟨Z24_0,Z24_1⟩ := XR.f2 BK121.out;go_wp2_with (first | (go_at_call 45;(with_reducible refine (option_isCode.calls ((rd_T59 l0 x17_2).f0) false _ A21.out).mono ?_);rintro e w' ⟨rfl,⟨nd,rfl⟩⟩))
             first | go_meet | ((refine Met.intro ?_);go_step;(try simp only [c7b0,c8b0,c9b0]);(repeat apply Exists.intro);refine ⟨?rel,rfl⟩)
             case rel => exact ⟨_,(true),XR.rf,(by first | exact H' | (have h_ := H';simp only [c7b0,c8b0,c9b0] at h_;exact h_)),⟨by have := HJ1.out;have := HK2.out;first | omega | exact Nat.le_refl _⟩,(XR.fb BK121.out),⟨XR.sB HB.out⟩⟩
          case rest =>
           clear HC13;(try clear c1);(try clear p1);(try clear q1);(try clear hx1);(try clear c2);(try clear p2);(try clear c3);(try clear c3b0);(try clear c3b1);(try clear c6);(try clear c7);(try clear c7b0);(try clear c8);(try clear c8b0);(try clear c9);(try clear c9b0);(try clear c10);(try clear c10b0);(try clear c11);(try clear c11b0);(try clear c11b1);(try clear p12);(try clear q12);(try clear hx12);(try clear q18);(try clear c20);(try clear c22);(try clear c24);(try clear Y15_0 Y15_1);(try clear Y23_0 Y23_1);(try clear Y24_0 Y24_1);(try clear Z15_0 Z15_1);(try clear Z23_0 Z23_1);(try clear Z24_0 Z24_1);(try clear hx120_0);(try clear hx120_1);(try clear p120);(try clear p2);(try clear q120);(try clear q18);obtain ⟨kq,x43_12,rfl,HA,HJ12,BK121,HB⟩ := hcut
           cases kq with
           | zero => exact absurd HA.out (by simp [option_Valid.j2])
           | succ kj12 =>
            have H := HA.out;clear HA;simp only [option_Valid.j2] at H;by_cases c25 : x43_12 = true
            ·subst c25;rw [if_pos rfl] at H;(try dsimp only at H);obtain rfl := Option.some.inj H;go_wp2;go_ret;exact XR.re HB.out
            ·replace c25 := Bool.eq_false_iff.mpr c25;subst c25;rw [if_neg (show ¬ (false = true) by decide)] at H;(try dsimp only at H);have H' := Aside0.mk H;clear H;go_wp2;go_roundg kj12
             case measure => have := HJ1.out;have := HK2.out;have := HJ12.out;omega
             case rel => exact ⟨(wrap64 (x17_2 + 1)),XR.rf,H',⟨by have := HJ1.out;have := HK2.out;have := HJ12.out;omega⟩,⟨XR.sB HB.out⟩⟩
         ·rw [if_neg c11] at H;exact absurd H (by simp)
        ·rw [if_neg c9] at H;exact absurd H (by simp)
       ·rw [if_neg c8] at H;exact absurd H (by simp)
      ·rw [if_neg c7] at H;have c7b0 := decide_eq_false c7;clear c7;obtain rfl := Option.some.inj H;go_wp2;go_ret;exact XR.re HB.out
end Go.Proofs.YtngfffoeaghhhaaDoor.QA
