import Derived.Test.YtpcjablkjaiapaaQAd
import Derived.Test.YtpcjablkjaiapaaQAx0
import Derived.Test.YtpcjablkjaiapaaQAx19
import Derived.Test.YtpcjablkjaiapaaQAx28
namespace Go.Proofs.Ytpcjablkjaiapaa.QA
open Go.RowKit Go.Proofs.YtpcjablkjaiapaaW.PrintWords Go.Proofs.YtpcjablkjaiapaaW.PrintLast Go.Proofs.YtpcjablkjaiapaaW.PrintMore
attribute [local go_sem] max2_int min2_int max_two min_two max_three min_three max_four min_four   -- for this text's walks alone
attribute [local go_sem high] Go.Proofs.Ytpcjablkjaiapaa.XW.cell_setCell_lit
set_option linter.unusedVariables false
set_option linter.unusedSimpArgs false
set_option maxHeartbeats 8000000 in
set_option maxRecDepth 100000 in
theorem ddiref37_Has.calls (k : Nat) (a0_0 : Bool) (a0_1 : Int) (a0_2 : Int) (a0_3 : Int) (a0_4 : ByteArray) (A0_5 : Option Addr) (c0_5 : Nat) (l0_5 : List (S64)) (A0_6 : Option Addr) (c0_6 : Nat) (l0_6 : List (S55)) (A0_7 : Option Addr) (c0_7 : Nat) (l0_7 : List (S57)) (a0_8 : Int) (a1_0 : Bool) (a1_1 : Int) (a1_2 : Int) (r : Bool) (w : World) (hr0_5 : Kd.C k64 w A0_5 l0_5.length l0_5) (hc0_5 : l0_5.length ≤ c0_5) (hr0_6 : Kd.C k55 w A0_6 l0_6.length l0_6) (hc0_6 : l0_6.length ≤ c0_6) (hr0_7 : Kd.C k57 w A0_7 l0_7.length l0_7) (hc0_7 : l0_7.length ≤ c0_7) (h : ddiref37_Has.f k a0_0 a0_1 a0_2 a0_3 a0_4 l0_5 l0_6 l0_7 a0_8 a1_0 a1_1 a1_2 = some r) :
  Calls Try.prog 46 #[.agg #[.bool a0_0,.int .u64 a0_1,.int .u64 a0_2,.int .i64 a0_3,.string a0_4,.slice A0_5 l0_5.length c0_5,.slice A0_6 l0_6.length c0_6,.slice A0_7 l0_7.length c0_7,.int .i64 a0_8],.agg #[.bool a1_0,.int .u64 a1_1,.int .u64 a1_2]] w fun e w' => e = .returned (.bool r) ∧ Below w.heap.size w w' := by
 have hu33 := Try.underlying33;have hu26 := Try.underlying26;have hu55 := Try.underlying55;have hu64 := Try.underlying64;have HR0_5 := Aside0.mk hr0_5;have HC0_5 := Aside0.mk hc0_5;clear hr0_5 hc0_5;have HR0_6 := Aside0.mk hr0_6;have HC0_6 := Aside0.mk hc0_6;clear hr0_6 hc0_6;have HR0_7 := Aside0.mk hr0_7;have HC0_7 := Aside0.mk hc0_7;clear hr0_7 hc0_7;have HB := Aside0.mk (Below.refl w.heap.size w);have H : ((ddiref37_At.f k a0_0 a0_1 a0_2 a0_3 a0_4 l0_5 l0_6 l0_7 a0_8 a1_0 a1_1 a1_2).bind fun bt459 => (if bt459.2.2.2.2.2 = true then (ddiref37_Has.j0 k true a0_0 a0_1 a0_2 a0_3 a0_4 l0_5 l0_6 l0_7 a0_8 a1_0 a1_1 a1_2) else (ddiref37_Has.j0 k a1_0 a0_0 a0_1 a0_2 a0_3 a0_4 l0_5 l0_6 l0_7 a0_8 a1_0 a1_1 a1_2))) = some r := h;clear h;replace H := Option.bind_eq_some_iff.mp H;obtain ⟨⟨t459,t460,t461,t462,t463,t464⟩,A30,H⟩ := H;(try dsimp only at H);have A3 := Aside0.mk A30;clear A30;have HC4 := Aside0.mk H;clear H;go_enter Try.func46,Try.ntmps46;go_upto_region 2 with (first | ((with_reducible refine gate_dst (N := 2) rfl ?_);refine XR.bx 2 33 #[.bool a0_0,.int .u64 a0_1,.int .u64 a0_2,.int .i64 a0_3,.string a0_4,.slice A0_5 l0_5.length c0_5,.slice A0_6 l0_6.length c0_6,.slice A0_7 l0_7.length c0_7,.int .i64 a0_8] ?_;intro gb457 hg w5 hbox hb;have BK457 := Aside0.mk (hbox);have GW457 := Aside0.mk (XR.ge hg HB.out);have GE457 := GW457;replace HB := Aside0.mk (XR.bB HB.out hb);clear hb hbox hg) | ((with_reducible refine gate_dst (N := 3) rfl ?_);refine XR.bx 3 26 #[.bool a1_0,.int .u64 a1_1,.int .u64 a1_2] ?_;intro gb458 hg w6 hbox hb;have BK458 := Aside0.mk (hbox);have GW458 := Aside0.mk (XR.ge hg HB.out);have GE458 := GW458;have NB457_458 := Aside0.mk (XR.ne hg BK457.out);have NB458_457 := Aside0.mk (XR.en hg BK457.out);replace BK457 := Aside0.mk (XR.bb BK457.out hb);replace HB := Aside0.mk (below_step (XR.sB HB.out) hb);clear hb hbox hg;have hnb7 := NB457_458.out;have hnc7 := NB458_457.out;obtain ⟨Y8_0,Y8_1,Y8_2,Y8_3,Y8_4,Y8_5,Y8_6,Y8_7,Y8_8⟩ := XR.c9 BK457.out;obtain ⟨Z8_0,Z8_1,Z8_2,Z8_3,Z8_4,Z8_5,Z8_6,Z8_7,Z8_8⟩ := XR.f9 BK457.out;obtain ⟨Y9_0,Y9_1,Y9_2⟩ := XR.c3 BK458.out;obtain ⟨Z9_0,Z9_1,Z9_2⟩ := XR.f3 BK458.out) | ((with_reducible refine gate_callee (f := 37) rfl ?_);refine XR.gL 11 Try.func37 #[.agg #[.bool a0_0,.int .u64 a0_1,.int .u64 a0_2,.int .i64 a0_3,.string a0_4,.slice A0_5 l0_5.length c0_5,.slice A0_6 l0_6.length c0_6,.slice A0_7 l0_7.length c0_7,.int .i64 a0_8],.agg #[.bool a1_0,.int .u64 a1_1,.int .u64 a1_2]] ?_;(with_reducible refine (ddiref37_At.calls k a0_0 a0_1 a0_2 a0_3 a0_4 _ _ l0_5 _ _ l0_6 _ _ l0_7 a0_8 a1_0 a1_1 a1_2 t459 t460 t461 t462 t463 t464 _ ?side1 ?side2 ?side3 ?side4 ?side5 ?side6 A3.out).mono ?_);(case side1 => exact XR.lC (Kd.C_below HR0_5.out HB.out));(case side2 => exact HC0_5.out);(case side3 => exact XR.lC (Kd.C_below HR0_6.out HB.out));(case side4 => exact HC0_6.out);(case side5 => exact XR.lC (Kd.C_below HR0_7.out HB.out));(case side6 => exact HC0_7.out);rintro e w10 ⟨rfl,hb⟩;refine ⟨_,rfl,?_⟩;replace BK457 := Aside0.mk (XR.bb BK457.out hb);replace BK458 := Aside0.mk (XR.bb BK458.out hb);replace HB := Aside0.mk (below_step (XR.sB HB.out) hb);(try clear hb)) | ((with_reducible refine gate_dst (N := 5) rfl ?_);refine XR.bx 5 55 #[.string (⟨#[]⟩ : ByteArray),.bool false,.int .u64 0,.int .u64 0,.string (⟨#[]⟩ : ByteArray)] ?_;intro gb465 hg w11 hbox hb;have BK465 := Aside0.mk (hbox);have GW465 := Aside0.mk (XR.ge hg HB.out);have GE465 := GW465;have NB457_465 := Aside0.mk (XR.ne hg BK457.out);have NB465_457 := Aside0.mk (XR.en hg BK457.out);have NB458_465 := Aside0.mk (XR.ne hg BK458.out);have NB465_458 := Aside0.mk (XR.en hg BK458.out);replace BK457 := Aside0.mk (XR.bb BK457.out hb);replace BK458 := Aside0.mk (XR.bb BK458.out hb);replace HB := Aside0.mk (below_step (XR.sB HB.out) hb);clear hb hbox hg;have hnb12 := NB465_457.out;have hnc12 := NB457_465.out;have hnb13 := NB465_458.out;have hnc13 := NB458_465.out;obtain ⟨Y14_0,Y14_1,Y14_2,Y14_3,Y14_4⟩ := XR.c5 BK465.out;obtain ⟨Z14_0,Z14_1,Z14_2,Z14_3,Z14_4⟩ := XR.f5 BK465.out));(try simp only [Act.put,List.setIfInBounds_toArray,List.set_cons_zero,List.set_cons_succ]);go_cut [18] (fun v18 wc => ∃ (kq : Nat) (x18_3 : Bool),v18 = .bool x18_3 ∧ Aside0 (ddiref37_Has.j0 kq x18_3 a0_0 a0_1 a0_2 a0_3 a0_4 l0_5 l0_6 l0_7 a0_8 a1_0 a1_1 a1_2 = some r) ∧ Aside0 (kq ≤ k) ∧ Aside0 (wc.heap[gb457]? = some (.cells #[.bool a0_0,.int .u64 a0_1,.int .u64 a0_2,.int .i64 a0_3,.string a0_4,(.slice A0_5 l0_5.length c0_5),(.slice A0_6 l0_6.length c0_6),(.slice A0_7 l0_7.length c0_7),.int .i64 a0_8] 33 (0,0))) ∧ Aside0 (wc.heap[gb458]? = some (.cells #[.bool a1_0,.int .u64 a1_1,.int .u64 a1_2] 26 (0,0))) ∧ Aside0 (wc.heap[gb465]? = some (.cells #[.string t459,.bool t460,.int .u64 t461,.int .u64 t462,.string t463] 55 (0,0))) ∧ Aside0 (Below w.heap.size w wc))
 case first =>
  have H := HC4.out;clear HC4;by_cases c15 : t464 = true
  ·subst c15;rw [if_pos rfl] at H;(try dsimp only at H);have H' := Aside0.mk H;clear H;go_wp2;go_meet
   case rel => exact ⟨_,(true),XR.rf,H',XR.om,(XR.fb BK457.out),(XR.fb BK458.out),⟨by first | exact XR.lb (XR.p5 BK465.out) | exact XR.p5 (XR.lb BK465.out)⟩,⟨XR.sB HB.out⟩⟩
  ·replace c15 := Bool.eq_false_iff.mpr c15;subst c15;rw [if_neg (show ¬ (false = true) by decide)] at H;(try dsimp only at H);have H' := Aside0.mk H;clear H;have hnb16 := NB458_457.out;have hnc16 := NB457_458.out;have hnb17 := NB458_465.out;have hnc17 := NB465_458.out;obtain ⟨Y18_0,Y18_1,Y18_2⟩ := XR.c3 BK458.out;obtain ⟨Z18_0,Z18_1,Z18_2⟩ := XR.f3 BK458.out;go_wp2;go_meet
   case rel => exact ⟨_,(a1_0),XR.rf,H',XR.om,(XR.fb BK457.out),(XR.fb BK458.out),⟨by first | exact XR.lb (XR.p5 BK465.out) | exact XR.p5 (XR.lb BK465.out)⟩,⟨XR.sB HB.out⟩⟩
 case rest =>
  clear HC4;(try clear c1);(try clear p2);(try clear c3);(try clear c4);(try clear c7);(try clear c12);(try clear c13);(try clear c15);(try clear c16);(try clear c17);(try clear Y14_0 Y14_1 Y14_2 Y14_3 Y14_4);(try clear Y18_0 Y18_1 Y18_2);(try clear Y8_0 Y8_1 Y8_2 Y8_3 Y8_4 Y8_5 Y8_6 Y8_7 Y8_8);(try clear Y9_0 Y9_1 Y9_2);(try clear Z14_0 Z14_1 Z14_2 Z14_3 Z14_4);(try clear Z18_0 Z18_1 Z18_2);(try clear Z8_0 Z8_1 Z8_2 Z8_3 Z8_4 Z8_5 Z8_6 Z8_7 Z8_8);(try clear Z9_0 Z9_1 Z9_2);obtain ⟨kq,x18_3,rfl,HA,HJ3,BK457,BK458,BK465,HB⟩ := hcut
  cases kq with
  | zero => exact absurd HA.out (by simp [ddiref37_Has.j0])
  | succ kj3 =>
   have H := HA.out;clear HA;simp only [ddiref37_Has.j0] at H;by_cases c19 : x18_3 = true
   ·subst c19;rw [if_pos rfl] at H;(try dsimp only at H);obtain rfl := Option.some.inj H;go_wp2;go_ret;exact XR.re HB.out
   ·replace c19 := Bool.eq_false_iff.mpr c19;subst c19;rw [if_neg (show ¬ (false = true) by decide)] at H;(try dsimp only at H);have H' := Aside0.mk H;clear H;go_wp2;go_loopg [7] kj3 (fun kq v7 w' => ∃ (x7_2 : Int),v7 = .int .i64 x7_2 ∧ Aside0 (ddiref37_Has.l0 kq x7_2 a0_0 a0_1 a0_2 a0_3 a0_4 l0_5 l0_6 l0_7 a0_8 a1_0 a1_1 a1_2 = some r) ∧ Aside0 (kq ≤ kj3) ∧ Aside0 (w'.heap[gb457]? = some (.cells #[.bool a0_0,.int .u64 a0_1,.int .u64 a0_2,.int .i64 a0_3,.string a0_4,(.slice A0_5 l0_5.length c0_5),(.slice A0_6 l0_6.length c0_6),(.slice A0_7 l0_7.length c0_7),.int .i64 a0_8] 33 (0,0))) ∧ Aside0 (w'.heap[gb458]? = some (.cells #[.bool a1_0,.int .u64 a1_1,.int .u64 a1_2] 26 (0,0))) ∧ Aside0 (w'.heap[gb465]? = some (.cells #[.string t459,.bool t460,.int .u64 t461,.int .u64 t462,.string t463] 55 (0,0))) ∧ Aside0 (Below w.heap.size w w'))
    case atStart => exact ⟨(0),XR.rf,H',⟨Nat.le_refl _⟩,(XR.fb BK457.out),(XR.fb BK458.out),(XR.fb BK465.out),⟨XR.sB HB.out⟩⟩
    case round =>
     clear H';(try clear c1);(try clear p2);(try clear c3);(try clear c4);(try clear c7);(try clear c12);(try clear c13);(try clear c15);(try clear c16);(try clear c17);(try clear c19);(try clear Y14_0 Y14_1 Y14_2 Y14_3 Y14_4);(try clear Y18_0 Y18_1 Y18_2);(try clear Y8_0 Y8_1 Y8_2 Y8_3 Y8_4 Y8_5 Y8_6 Y8_7 Y8_8);(try clear Y9_0 Y9_1 Y9_2);(try clear Z14_0 Z14_1 Z14_2 Z14_3 Z14_4);(try clear Z18_0 Z18_1 Z18_2);(try clear Z8_0 Z8_1 Z8_2 Z8_3 Z8_4 Z8_5 Z8_6 Z8_7 Z8_8);(try clear Z9_0 Z9_1 Z9_2);(try clear p2);obtain ⟨x7_2,rfl,HA,HK2,BK457,BK458,BK465,HB⟩ := hrel
     cases gk with
     | zero => exact absurd HA.out (by simp [ddiref37_Has.l0])
     | succ k2 =>
      have H := HA.out;clear HA;simp only [ddiref37_Has.l0] at H;by_cases c20 : x7_2 < (l0_5.length : Int)
      ·rw [if_pos c20] at H;have c20b0 := decide_eq_true c20;clear c20;by_cases c21 : 0 ≤ x7_2
       ·rw [if_pos c21] at H;have c21b0 := decide_eq_true c21;clear c21;replace H := Option.bind_eq_some_iff.mp H;obtain ⟨t467,A220,H⟩ := H;(try dsimp only at H);have A22 := Aside0.mk A220;clear A220;by_cases c23 : t467 = true
        ·subst c23;rw [if_pos rfl] at H;(try dsimp only at H);obtain rfl := Option.some.inj H;have hnb24 := NB457_458.out;have hnc24 := NB458_457.out;have hnb25 := NB457_465.out;have hnc25 := NB465_457.out;obtain ⟨Y26_0,Y26_1,Y26_2,Y26_3,Y26_4,Y26_5,Y26_6,Y26_7,Y26_8⟩ := XR.c9 BK457.out;obtain ⟨Z26_0,Z26_1,Z26_2,Z26_3,Z26_4,Z26_5,Z26_6,Z26_7,Z26_8⟩ := XR.f9 BK457.out
         try go_wp2
         replace BK457 := Aside0.mk (blk_drew BK457.out);replace BK458 := Aside0.mk (blk_drew BK458.out);replace BK465 := Aside0.mk (blk_drew BK465.out);replace HB := Aside0.mk (below_drew1 HB.out);have p466 : 0 ≤ (x7_2 : Int) := XR.od;have q466 : x7_2 < (l0_5.length : Int) := XR.od;obtain ⟨ad466,e466,hx466_0,hx466_1,hx466_2,hx466_3,hx466_4,hx466_5⟩ := at_T64 HR0_5.out x7_2 p466 q466;have hw466_5 := hx466_5;have hw466_4 := hx466_4;have hw466_3 := hx466_3;have hw466_2 := hx466_2;have hw466_1 := hx466_1;have hw466_0 := hx466_0
         cases e466
         replace hx466_0 := XR.held HB.out hx466_0;replace hx466_1 := XR.held HB.out hx466_1;replace hx466_2 := XR.held HB.out hx466_2;replace hx466_3 := XR.held HB.out hx466_3;replace hx466_4 := XR.held HB.out hx466_4;replace hx466_5 := XR.held HB.out hx466_5;replace p466 := eq_true p466;replace q466 := eq_true q466;refine start_ (n := 7) (S := fun w' => w'.cell? ⟨gb457,0,none⟩ = some (.bool a0_0) ∧ w'.cell? ⟨gb457,1,none⟩ = some (.int .u64 a0_1) ∧ w'.cell? ⟨gb457,2,none⟩ = some (.int .u64 a0_2) ∧ w'.cell? ⟨gb457,3,none⟩ = some (.int .i64 a0_3) ∧ w'.cell? ⟨gb457,4,none⟩ = some (.string a0_4) ∧ w'.cell? ⟨gb457,5,none⟩ = some (.slice (some ad466) l0_5.length c0_5) ∧ w'.cell? ⟨gb457,6,none⟩ = some (.slice A0_6 l0_6.length c0_6) ∧ w'.cell? ⟨gb457,7,none⟩ = some (.slice A0_7 l0_7.length c0_7) ∧ w'.cell? ⟨gb457,8,none⟩ = some (.int .i64 a0_8) ∧ w'.cell? ⟨gb458,0,none⟩ = some (.bool a1_0) ∧ w'.cell? ⟨gb458,1,none⟩ = some (.int .u64 a1_1) ∧ w'.cell? ⟨gb458,2,none⟩ = some (.int .u64 a1_2) ∧ w'.cell? (ad466.add ((x7_2).toNat * 6)) = some (.bool ((rd_T64 l0_5 x7_2).f0.f0)) ∧ w'.cell? ⟨(ad466.add ((x7_2).toNat * 6)).block,(ad466.add ((x7_2).toNat * 6)).off + 1,none⟩ = some (.int .u64 ((rd_T64 l0_5 x7_2).f0.f1)) ∧ w'.cell? ⟨(ad466.add ((x7_2).toNat * 6)).block,(ad466.add ((x7_2).toNat * 6)).off + 2,none⟩ = some (.int .u64 ((rd_T64 l0_5 x7_2).f0.f2)) ∧ w'.cell? ⟨(ad466.add ((x7_2).toNat * 6)).block,(ad466.add ((x7_2).toNat * 6)).off + 3,none⟩ = some (.bool ((rd_T64 l0_5 x7_2).f1.f0)) ∧ w'.cell? ⟨(ad466.add ((x7_2).toNat * 6)).block,(ad466.add ((x7_2).toNat * 6)).off + 4,none⟩ = some (.int .u64 ((rd_T64 l0_5 x7_2).f1.f1)) ∧ w'.cell? ⟨(ad466.add ((x7_2).toNat * 6)).block,(ad466.add ((x7_2).toNat * 6)).off + 5,none⟩ = some (.int .u64 ((rd_T64 l0_5 x7_2).f1.f2))) (ds := []) #[false,false,false,false,false,false,false] (by kernel_rfl) rfl rfl ⟨(blk_cell BK457.out 0).trans rfl,(blk_cell BK457.out 1).trans rfl,(blk_cell BK457.out 2).trans rfl,(blk_cell BK457.out 3).trans rfl,(blk_cell BK457.out 4).trans rfl,(blk_cell BK457.out 5).trans rfl,(blk_cell BK457.out 6).trans rfl,(blk_cell BK457.out 7).trans rfl,(blk_cell BK457.out 8).trans rfl,(blk_cell BK458.out 0).trans rfl,(blk_cell BK458.out 1).trans rfl,(blk_cell BK458.out 2).trans rfl,(XR.held HB.out hw466_0),(XR.held HB.out hw466_1),(XR.held HB.out hw466_2),(XR.held HB.out hw466_3),(XR.held HB.out hw466_4),(XR.held HB.out hw466_5)⟩ (fun hHeld => ?_);generalize wr.drew = w27 at BK457 BK458 BK465 HB hx466_0 hx466_1 hx466_2 hx466_3 hx466_4 hx466_5 hHeld ⊢;refine pure_ (i := 0) (N := some 26) (v := ?_) (a' := ?_) #[true,false,false,false,false,false,false] rfl rfl (by kernel_rfl) (fun _ _ _ h => h) (Or.inl ⟨by rfl,?_⟩) ?_ ?_
         rotate_left
         ·intro w';go_simp
          with_reducible rfl
         rotate_left
         ·simp only [Act.put,List.setIfInBounds_toArray,List.set_cons_zero,List.set_cons_succ,i64_w,i32_w]
          rfl
         refine pure_ (i := 2) (N := some 28) (v := ?_) (a' := ?_) #[true,false,true,false,false,false,false] rfl rfl (by kernel_rfl) (fun _ _ _ h => h) (Or.inl ⟨by rfl,?_⟩) ?_ ?_
         rotate_left
         ·intro w';go_simp
          with_reducible rfl
         rotate_left
         ·simp only [Act.put,List.setIfInBounds_toArray,List.set_cons_zero,List.set_cons_succ,i64_w,i32_w]
          rfl
         refine take_ (i := 1) (N := some 27) (v := ?_) (a' := ?_) #[true,true,true,false,false,false,false] rfl rfl (by kernel_rfl) (fun _ _ _ h => h) (Or.inl ⟨by rfl,?_⟩) hHeld ?_ ?_
         rotate_left
         ·rintro w' ⟨s0,s1,s2,s3,s4,s5,s6,s7,s8,s9,s10,s11,s12,s13,s14,s15,s16,s17⟩;go_simp
          with_reducible rfl
         rotate_left
         ·simp only [Act.put,List.setIfInBounds_toArray,List.set_cons_zero,List.set_cons_succ,i64_w,i32_w]
          rfl
         refine pure_ (i := 3) (N := some 29) (v := ?_) (a' := ?_) #[true,true,true,true,false,false,false] rfl rfl (by kernel_rfl) (fun _ _ _ h => h) (Or.inl ⟨by rfl,?_⟩) ?_ ?_
         rotate_left
         ·intro w';go_simp
          with_reducible rfl
         rotate_left
         ·simp only [Act.put,List.setIfInBounds_toArray,List.set_cons_zero,List.set_cons_succ,i64_w,i32_w]
          rfl
         refine take_ (i := 4) (N := some 30) (v := ?_) (a' := ?_) #[true,true,true,true,true,false,false] rfl rfl (by kernel_rfl) (fun _ _ _ h => h) (Or.inl ⟨by rfl,?_⟩) hHeld ?_ ?_
         rotate_left
         ·rintro w' ⟨s0,s1,s2,s3,s4,s5,s6,s7,s8,s9,s10,s11,s12,s13,s14,s15,s16,s17⟩;go_simp
          with_reducible rfl
         rotate_left
         ·simp only [Act.put,List.setIfInBounds_toArray,List.set_cons_zero,List.set_cons_succ,i64_w,i32_w]
          rfl
         refine take_ (i := 5) (N := some 31) (v := ?_) (a' := ?_) #[true,true,true,true,true,true,false] rfl rfl (by kernel_rfl) (fun _ _ _ h => h) (Or.inl ⟨by rfl,?_⟩) hHeld ?_ ?_
         rotate_left
         ·rintro w' ⟨s0,s1,s2,s3,s4,s5,s6,s7,s8,s9,s10,s11,s12,s13,s14,s15,s16,s17⟩;go_simp
          with_reducible rfl
         rotate_left
         ·simp only [Act.put,List.setIfInBounds_toArray,List.set_cons_zero,List.set_cons_succ,i64_w,i32_w]
          rfl
         refine one_ (i := 6) (N := some 32) #[true,true,true,true,true,true,true] rfl rfl (by kernel_rfl) (by decide) (fun K hK => ?_);refine XR.gO Try.func58 #[.agg #[.bool ((rd_T64 l0_5 x7_2).f0.f0),.int .u64 ((rd_T64 l0_5 x7_2).f0.f1),.int .u64 ((rd_T64 l0_5 x7_2).f0.f2),.bool ((rd_T64 l0_5 x7_2).f1.f0),.int .u64 ((rd_T64 l0_5 x7_2).f1.f1),.int .u64 ((rd_T64 l0_5 x7_2).f1.f2)],.agg #[.bool a1_0,.int .u64 a1_1,.int .u64 a1_2]] ?_
         with_reducible refine (ddiref37_inside.calls ((rd_T64 l0_5 x7_2).f0.f0) ((rd_T64 l0_5 x7_2).f0.f1) ((rd_T64 l0_5 x7_2).f0.f2) ((rd_T64 l0_5 x7_2).f1.f0) ((rd_T64 l0_5 x7_2).f1.f1) ((rd_T64 l0_5 x7_2).f1.f2) a1_0 a1_1 a1_2 true _ A22.out).mono ?_
         rintro e w28 ⟨rfl,hb⟩;refine ⟨_,rfl,?_⟩;replace BK457 := Aside0.mk (XR.bb BK457.out hb);replace BK458 := Aside0.mk (XR.bb BK458.out hb);replace BK465 := Aside0.mk (XR.bb BK465.out hb);replace HB := Aside0.mk (below_step (XR.sB HB.out) hb);(try clear hb);(try clear hb2);(try clear hk);(try clear hi);refine hK.out _ _ ⟨(blk_cell BK457.out 0).trans rfl,(blk_cell BK457.out 1).trans rfl,(blk_cell BK457.out 2).trans rfl,(blk_cell BK457.out 3).trans rfl,(blk_cell BK457.out 4).trans rfl,(blk_cell BK457.out 5).trans rfl,(blk_cell BK457.out 6).trans rfl,(blk_cell BK457.out 7).trans rfl,(blk_cell BK457.out 8).trans rfl,(blk_cell BK458.out 0).trans rfl,(blk_cell BK458.out 1).trans rfl,(blk_cell BK458.out 2).trans rfl,(XR.held HB.out hw466_0),(XR.held HB.out hw466_1),(XR.held HB.out hw466_2),(XR.held HB.out hw466_3),(XR.held HB.out hw466_4),(XR.held HB.out hw466_5)⟩ (fun hHeld => ?_);clear hK K;refine norm_ (a' := ?_) ?_ ?_
         rotate_left
         ·show Act.put _ (some 32) _ = _
          simp only [Act.put,List.setIfInBounds_toArray,List.set_cons_zero,List.set_cons_succ,i64_w,i32_w]
          rfl
         refine done_ (by kernel_rfl) ?_
         try go_wp2
         go_ret;exact XR.re HB.out
        ·replace c23 := Bool.eq_false_iff.mpr c23;subst c23;rw [if_neg (show ¬ (false = true) by decide)] at H;(try dsimp only at H);have H' := Aside0.mk H;clear H;have hnb29 := NB457_458.out;have hnc29 := NB458_457.out;have hnb30 := NB457_465.out;have hnc30 := NB465_457.out;obtain ⟨Y31_0,Y31_1,Y31_2,Y31_3,Y31_4,Y31_5,Y31_6,Y31_7,Y31_8⟩ := XR.c9 BK457.out;obtain ⟨Z31_0,Z31_1,Z31_2,Z31_3,Z31_4,Z31_5,Z31_6,Z31_7,Z31_8⟩ := XR.f9 BK457.out
         try go_wp2
         replace BK457 := Aside0.mk (blk_drew BK457.out);replace BK458 := Aside0.mk (blk_drew BK458.out);replace BK465 := Aside0.mk (blk_drew BK465.out);replace HB := Aside0.mk (below_drew1 HB.out);have p466 : 0 ≤ (x7_2 : Int) := XR.od;have q466 : x7_2 < (l0_5.length : Int) := XR.od;obtain ⟨ad466,e466,hx466_0,hx466_1,hx466_2,hx466_3,hx466_4,hx466_5⟩ := at_T64 HR0_5.out x7_2 p466 q466;have hw466_5 := hx466_5;have hw466_4 := hx466_4;have hw466_3 := hx466_3;have hw466_2 := hx466_2;have hw466_1 := hx466_1;have hw466_0 := hx466_0
         cases e466
         replace hx466_0 := XR.held HB.out hx466_0;replace hx466_1 := XR.held HB.out hx466_1;replace hx466_2 := XR.held HB.out hx466_2;replace hx466_3 := XR.held HB.out hx466_3;replace hx466_4 := XR.held HB.out hx466_4;replace hx466_5 := XR.held HB.out hx466_5;replace p466 := eq_true p466;replace q466 := eq_true q466;refine start_ (n := 7) (S := fun w' => w'.cell? ⟨gb457,0,none⟩ = some (.bool a0_0) ∧ w'.cell? ⟨gb457,1,none⟩ = some (.int .u64 a0_1) ∧ w'.cell? ⟨gb457,2,none⟩ = some (.int .u64 a0_2) ∧ w'.cell? ⟨gb457,3,none⟩ = some (.int .i64 a0_3) ∧ w'.cell? ⟨gb457,4,none⟩ = some (.string a0_4) ∧ w'.cell? ⟨gb457,5,none⟩ = some (.slice (some ad466) l0_5.length c0_5) ∧ w'.cell? ⟨gb457,6,none⟩ = some (.slice A0_6 l0_6.length c0_6) ∧ w'.cell? ⟨gb457,7,none⟩ = some (.slice A0_7 l0_7.length c0_7) ∧ w'.cell? ⟨gb457,8,none⟩ = some (.int .i64 a0_8) ∧ w'.cell? ⟨gb458,0,none⟩ = some (.bool a1_0) ∧ w'.cell? ⟨gb458,1,none⟩ = some (.int .u64 a1_1) ∧ w'.cell? ⟨gb458,2,none⟩ = some (.int .u64 a1_2) ∧ w'.cell? (ad466.add ((x7_2).toNat * 6)) = some (.bool ((rd_T64 l0_5 x7_2).f0.f0)) ∧ w'.cell? ⟨(ad466.add ((x7_2).toNat * 6)).block,(ad466.add ((x7_2).toNat * 6)).off + 1,none⟩ = some (.int .u64 ((rd_T64 l0_5 x7_2).f0.f1)) ∧ w'.cell? ⟨(ad466.add ((x7_2).toNat * 6)).block,(ad466.add ((x7_2).toNat * 6)).off + 2,none⟩ = some (.int .u64 ((rd_T64 l0_5 x7_2).f0.f2)) ∧ w'.cell? ⟨(ad466.add ((x7_2).toNat * 6)).block,(ad466.add ((x7_2).toNat * 6)).off + 3,none⟩ = some (.bool ((rd_T64 l0_5 x7_2).f1.f0)) ∧ w'.cell? ⟨(ad466.add ((x7_2).toNat * 6)).block,(ad466.add ((x7_2).toNat * 6)).off + 4,none⟩ = some (.int .u64 ((rd_T64 l0_5 x7_2).f1.f1)) ∧ w'.cell? ⟨(ad466.add ((x7_2).toNat * 6)).block,(ad466.add ((x7_2).toNat * 6)).off + 5,none⟩ = some (.int .u64 ((rd_T64 l0_5 x7_2).f1.f2))) (ds := []) #[false,false,false,false,false,false,false] (by kernel_rfl) rfl rfl ⟨(blk_cell BK457.out 0).trans rfl,(blk_cell BK457.out 1).trans rfl,(blk_cell BK457.out 2).trans rfl,(blk_cell BK457.out 3).trans rfl,(blk_cell BK457.out 4).trans rfl,(blk_cell BK457.out 5).trans rfl,(blk_cell BK457.out 6).trans rfl,(blk_cell BK457.out 7).trans rfl,(blk_cell BK457.out 8).trans rfl,(blk_cell BK458.out 0).trans rfl,(blk_cell BK458.out 1).trans rfl,(blk_cell BK458.out 2).trans rfl,(XR.held HB.out hw466_0),(XR.held HB.out hw466_1),(XR.held HB.out hw466_2),(XR.held HB.out hw466_3),(XR.held HB.out hw466_4),(XR.held HB.out hw466_5)⟩ (fun hHeld => ?_);generalize wr.drew = w32 at BK457 BK458 BK465 HB hx466_0 hx466_1 hx466_2 hx466_3 hx466_4 hx466_5 hHeld ⊢;refine pure_ (i := 0) (N := some 26) (v := ?_) (a' := ?_) #[true,false,false,false,false,false,false] rfl rfl (by kernel_rfl) (fun _ _ _ h => h) (Or.inl ⟨by rfl,?_⟩) ?_ ?_
         rotate_left
         ·intro w';go_simp
          with_reducible rfl
         rotate_left
         ·simp only [Act.put,List.setIfInBounds_toArray,List.set_cons_zero,List.set_cons_succ,i64_w,i32_w]
          rfl
         refine pure_ (i := 2) (N := some 28) (v := ?_) (a' := ?_) #[true,false,true,false,false,false,false] rfl rfl (by kernel_rfl) (fun _ _ _ h => h) (Or.inl ⟨by rfl,?_⟩) ?_ ?_
         rotate_left
         ·intro w';go_simp
          with_reducible rfl
         rotate_left
         ·simp only [Act.put,List.setIfInBounds_toArray,List.set_cons_zero,List.set_cons_succ,i64_w,i32_w]
          rfl
         refine take_ (i := 1) (N := some 27) (v := ?_) (a' := ?_) #[true,true,true,false,false,false,false] rfl rfl (by kernel_rfl) (fun _ _ _ h => h) (Or.inl ⟨by rfl,?_⟩) hHeld ?_ ?_
         rotate_left
         ·rintro w' ⟨s0,s1,s2,s3,s4,s5,s6,s7,s8,s9,s10,s11,s12,s13,s14,s15,s16,s17⟩;go_simp
          with_reducible rfl
         rotate_left
         ·simp only [Act.put,List.setIfInBounds_toArray,List.set_cons_zero,List.set_cons_succ,i64_w,i32_w]
          rfl
         refine pure_ (i := 3) (N := some 29) (v := ?_) (a' := ?_) #[true,true,true,true,false,false,false] rfl rfl (by kernel_rfl) (fun _ _ _ h => h) (Or.inl ⟨by rfl,?_⟩) ?_ ?_
         rotate_left
         ·intro w';go_simp
          with_reducible rfl
         rotate_left
         ·simp only [Act.put,List.setIfInBounds_toArray,List.set_cons_zero,List.set_cons_succ,i64_w,i32_w]
          rfl
         refine take_ (i := 4) (N := some 30) (v := ?_) (a' := ?_) #[true,true,true,true,true,false,false] rfl rfl (by kernel_rfl) (fun _ _ _ h => h) (Or.inl ⟨by rfl,?_⟩) hHeld ?_ ?_
         rotate_left
         ·rintro w' ⟨s0,s1,s2,s3,s4,s5,s6,s7,s8,s9,s10,s11,s12,s13,s14,s15,s16,s17⟩;go_simp
          with_reducible rfl
         rotate_left
         ·simp only [Act.put,List.setIfInBounds_toArray,List.set_cons_zero,List.set_cons_succ,i64_w,i32_w]
          rfl
         refine take_ (i := 5) (N := some 31) (v := ?_) (a' := ?_) #[true,true,true,true,true,true,false] rfl rfl (by kernel_rfl) (fun _ _ _ h => h) (Or.inl ⟨by rfl,?_⟩) hHeld ?_ ?_
         rotate_left
         ·rintro w' ⟨s0,s1,s2,s3,s4,s5,s6,s7,s8,s9,s10,s11,s12,s13,s14,s15,s16,s17⟩;go_simp
          with_reducible rfl
         rotate_left
         ·simp only [Act.put,List.setIfInBounds_toArray,List.set_cons_zero,List.set_cons_succ,i64_w,i32_w]
          rfl
         refine one_ (i := 6) (N := some 32) #[true,true,true,true,true,true,true] rfl rfl (by kernel_rfl) (by decide) (fun K hK => ?_);refine XR.gO Try.func58 #[.agg #[.bool ((rd_T64 l0_5 x7_2).f0.f0),.int .u64 ((rd_T64 l0_5 x7_2).f0.f1),.int .u64 ((rd_T64 l0_5 x7_2).f0.f2),.bool ((rd_T64 l0_5 x7_2).f1.f0),.int .u64 ((rd_T64 l0_5 x7_2).f1.f1),.int .u64 ((rd_T64 l0_5 x7_2).f1.f2)],.agg #[.bool a1_0,.int .u64 a1_1,.int .u64 a1_2]] ?_
         with_reducible refine (ddiref37_inside.calls ((rd_T64 l0_5 x7_2).f0.f0) ((rd_T64 l0_5 x7_2).f0.f1) ((rd_T64 l0_5 x7_2).f0.f2) ((rd_T64 l0_5 x7_2).f1.f0) ((rd_T64 l0_5 x7_2).f1.f1) ((rd_T64 l0_5 x7_2).f1.f2) a1_0 a1_1 a1_2 false _ A22.out).mono ?_
         rintro e w33 ⟨rfl,hb⟩;refine ⟨_,rfl,?_⟩;replace BK457 := Aside0.mk (XR.bb BK457.out hb);replace BK458 := Aside0.mk (XR.bb BK458.out hb);replace BK465 := Aside0.mk (XR.bb BK465.out hb);replace HB := Aside0.mk (below_step (XR.sB HB.out) hb);(try clear hb);(try clear hb2);(try clear hk);(try clear hi);refine hK.out _ _ ⟨(blk_cell BK457.out 0).trans rfl,(blk_cell BK457.out 1).trans rfl,(blk_cell BK457.out 2).trans rfl,(blk_cell BK457.out 3).trans rfl,(blk_cell BK457.out 4).trans rfl,(blk_cell BK457.out 5).trans rfl,(blk_cell BK457.out 6).trans rfl,(blk_cell BK457.out 7).trans rfl,(blk_cell BK457.out 8).trans rfl,(blk_cell BK458.out 0).trans rfl,(blk_cell BK458.out 1).trans rfl,(blk_cell BK458.out 2).trans rfl,(XR.held HB.out hw466_0),(XR.held HB.out hw466_1),(XR.held HB.out hw466_2),(XR.held HB.out hw466_3),(XR.held HB.out hw466_4),(XR.held HB.out hw466_5)⟩ (fun hHeld => ?_);clear hK K;refine norm_ (a' := ?_) ?_ ?_
         rotate_left
         ·show Act.put _ (some 32) _ = _
          simp only [Act.put,List.setIfInBounds_toArray,List.set_cons_zero,List.set_cons_succ,i64_w,i32_w]
          rfl
         refine done_ (by kernel_rfl) ?_
         try go_wp2
         go_roundg k2
         case measure => have := HJ3.out;have := HK2.out;omega
         case rel => exact ⟨(wrap64 (x7_2 + 1)),XR.rf,H',⟨by have := HJ3.out;have := HK2.out;omega⟩,(XR.fb BK457.out),(XR.fb BK458.out),(XR.fb BK465.out),⟨XR.sB HB.out⟩⟩
       ·rw [if_neg c21] at H;exact absurd H (by simp)
      ·rw [if_neg c20] at H;have c20b0 := decide_eq_false c20;clear c20;obtain rfl := Option.some.inj H;have hnb34 := NB457_458.out;have hnc34 := NB458_457.out;have hnb35 := NB457_465.out;have hnc35 := NB465_457.out;obtain ⟨Y36_0,Y36_1,Y36_2,Y36_3,Y36_4,Y36_5,Y36_6,Y36_7,Y36_8⟩ := XR.c9 BK457.out;obtain ⟨Z36_0,Z36_1,Z36_2,Z36_3,Z36_4,Z36_5,Z36_6,Z36_7,Z36_8⟩ := XR.f9 BK457.out;go_wp2;go_ret;exact XR.re HB.out
end Go.Proofs.Ytpcjablkjaiapaa.QA
