import Derived.Test.YtjifdgicamlikaaQAd1
import Derived.Test.YtjifdgicamlikaaQAx0
import Derived.Test.YtjifdgicamlikaaQAx14
import Derived.Test.YtjifdgicamlikaaXL
namespace Go.Proofs.Ytjifdgicamlikaa.QA
open Go.RowKit Go.Proofs.YtjifdgicamlikaaW.PrintWords Go.Proofs.YtjifdgicamlikaaW.PrintLast Go.Proofs.YtjifdgicamlikaaW.PrintMore
attribute [local go_sem] max2_int min2_int max_two min_two max_three min_three max_four min_four
attribute [local go_sem high] Go.Proofs.Ytjifdgicamlikaa.XW.cell_setCell_lit
set_option linter.unusedVariables false
set_option linter.unusedSimpArgs false
def prefix_Valid.T1 : Bool × List (List Nat × List Nat) := (true,[([],[]),([0],[0]),([1],[1]),([2],[2]),([3,2],[3]),([4],[4]),([5,4],[4,5]),([6,4],[4,6]),([4,7],[4,7]),([8,4],[8]),([9],[9]),([10,9],[9,10]),([9],[9]),([12,9],[9,12]),([13,9,9],[9,13]),([11,14,9],[9,11,14]),([9,15],[9,15])])
def prefix_Valid.B1 : List Nat := [0,1,3,7,15,31,63,127,255,511,1023,2047,1023,5119,13311,32767,65535]
theorem prefix_Valid.tab1 : rtab .any (opsOf Try.f43 1) = prefix_Valid.T1 := by kernel_rfl
theorem prefix_Valid.bits1 : waitsOk prefix_Valid.T1.2 prefix_Valid.B1 = true := by kernel_rfl
set_option maxHeartbeats 8000000 in
set_option maxRecDepth 100000 in
theorem prefix_Valid.calls (k : Nat) (a0_0 : Bool) (a0_1 : Int) (a0_2 : Int) (a0_3 : Int) (r : Bool) (w : World) (h : prefix_Valid.f k a0_0 a0_1 a0_2 a0_3 = some r) :
  Calls Try.prog 43 #[.agg #[.bool a0_0,.int .u64 a0_1,.int .u64 a0_2,.int .i64 a0_3]] w fun e w' => e = .returned (.bool r) ∧ Below w.heap.size w w' := by
 have hu31 := Try.underlying31;have hu29 := Try.underlying29;have HB := Aside0.mk (Below.refl w.heap.size w);have H : ((addr_Valid.f a0_0 a0_1 a0_2).bind fun t172 => (if t172 = true then (if a0_3 < 0 then (prefix_Valid.j0 k true a0_0 a0_1 a0_2 a0_3) else ((prefix_length.f a0_0 a0_1 a0_2).bind fun t173 => (prefix_Valid.j0 k (decide (a0_3 > t173)) a0_0 a0_1 a0_2 a0_3))) else (prefix_Valid.j0 k true a0_0 a0_1 a0_2 a0_3))) = some r := h;clear h;have HC2 := Aside0.mk H;clear H;go_enter Try.func43,Try.ntmps43;go_upto_region 1 with (first | ((with_reducible refine gate_dst (N := 1) rfl ?_);refine XR.bx 1 31 #[.bool a0_0,.int .u64 a0_1,.int .u64 a0_2,.int .i64 a0_3] ?_;intro gb171 hg w3 hbox hb;have BK171 := Aside0.mk (hbox);have GW171 := Aside0.mk (XR.ge hg HB.out);have GE171 := GW171;replace HB := Aside0.mk (XR.bB HB.out hb);clear hb hbox hg));(try simp only [Act.put,List.setIfInBounds_toArray,List.set_cons_zero,List.set_cons_succ]);go_cut [21] (fun v21 wc => ∃ (kq : Nat) (x21_1 : Bool),v21 = .bool x21_1 ∧ Aside0 (prefix_Valid.j0 kq x21_1 a0_0 a0_1 a0_2 a0_3 = some r) ∧ Aside0 (kq ≤ k) ∧ Aside0 (wc.heap[gb171]? = some (.cells #[.bool a0_0,.int .u64 a0_1,.int .u64 a0_2,.int .i64 a0_3] 31 (0,0))) ∧ Aside0 (Below w.heap.size w wc))
 case first =>
  have H := HC2.out;clear HC2;replace H := Option.bind_eq_some_iff.mp H;obtain ⟨t172,A40,H⟩ := H;(try dsimp only at H);have A4 := Aside0.mk A40;clear A40;by_cases c5 : t172 = true
  ·subst c5;rw [if_pos rfl] at H;(try dsimp only at H);by_cases c6 : a0_3 < 0
   ·rw [if_pos c6] at H;have c6b0 := decide_eq_true c6;clear c6;(first | rw [c6b0] | (simp only [i64_w,i32_w];rw [c6b0]) | skip);have H' := Aside0.mk H;clear H
    try go_wp2
    replace BK171 := Aside0.mk (blk_drew BK171.out);replace HB := Aside0.mk (below_drew1 HB.out);refine start_ (n := 17) (S := fun w' => w'.cell? ⟨gb171,0,none⟩ = some (.bool a0_0) ∧ w'.cell? ⟨gb171,1,none⟩ = some (.int .u64 a0_1) ∧ w'.cell? ⟨gb171,2,none⟩ = some (.int .u64 a0_2) ∧ w'.cell? ⟨gb171,3,none⟩ = some (.int .i64 a0_3)) (ds := []) #[false,false,false,false,false,false,false,false,false,false,false,false,false,false,false,false,false] (by kernel_rfl) rfl rfl (XR.c4 BK171.out) (fun hHeld => ?_);refine with_tabW prefix_Valid.tab1 prefix_Valid.bits1 (fun HT_ HW_ => ?_);generalize w3.drew = w7 at BK171 HB hHeld ⊢;refine XR.pu 0 5 HT_.out ?_;(first | refine XL.tl 1 6 31 _ gb171 [.bool a0_0,.int .u64 a0_1,.int .u64 a0_2,.int .i64 a0_3] Try.underlying31 (fun w_ hs_ => XL.lst_range _ 0 hs_) HT_.out HW_.out hHeld ?_ | refine XR.ta 1 6 HT_.out HW_.out hHeld ?_);refine XR.on 2 (some 7) HT_.out (fun K hK => ?_);refine XR.gO Try.func68 #[.agg #[.bool a0_0,.int .u64 a0_1,.int .u64 a0_2]] ?_
    with_reducible refine (addr_Valid.calls a0_0 a0_1 a0_2 true _ A4.out).mono ?_
    rintro e w8 ⟨rfl,hb⟩;refine ⟨_,rfl,?_⟩;replace BK171 := Aside0.mk (XR.bb BK171.out hb);replace HB := Aside0.mk (below_step (XR.sB HB.out) hb);(try clear hb);(try clear hb2);(try clear hk);(try clear hi);refine hK.out _ _ (XR.c4 BK171.out) (fun hHeld => ?_);clear hK K;refine norm_ (a' := ?_) ?_ ?_
    rotate_left
    ·show Act.put _ (some 7) _ = _
     simp only [Act.put,List.setIfInBounds_toArray,List.set_cons_zero,List.set_cons_succ,i64_w,i32_w]
     rfl
    refine XR.pu 3 8 HT_.out ?_;refine XR.pu 4 9 HT_.out ?_;refine XR.pu 5 10 HT_.out ?_;(first | refine XL.tl 6 11 31 _ gb171 [.bool a0_0,.int .u64 a0_1,.int .u64 a0_2,.int .i64 a0_3] Try.underlying31 (fun w_ hs_ => XL.lst_range _ 0 hs_) HT_.out HW_.out hHeld ?_ | refine XR.ta 6 11 HT_.out HW_.out hHeld ?_);refine XR.pu 7 12 HT_.out ?_;refine XR.pu 8 13 HT_.out ?_;refine XR.pu 9 14 HT_.out ?_;refine XR.pn 10 15 HT_.out ?_;refine XR.pn 11 16 HT_.out ?_;refine XR.pn 12 17 HT_.out ?_;refine XR.pn 13 18 HT_.out ?_;refine XR.pn 14 19 HT_.out ?_;refine XR.pn 15 20 HT_.out ?_;refine XR.pu 16 21 HT_.out ?_;refine done_ (done_of HT_.out (by kernel_rfl)) ?_
    try go_wp2
    first | go_meet | ((refine Met.intro ?_);go_step;(try simp only [c6b0]);(repeat apply Exists.intro);refine ⟨?rel,rfl⟩)
    case rel => exact ⟨_,(true),XR.rf,(by first | exact H' | (have h_ := H';simp only [c6b0] at h_;exact h_)),XR.om,(XR.fb BK171.out),⟨XR.sB HB.out⟩⟩
   ·rw [if_neg c6] at H;have c6b0 := decide_eq_false c6;clear c6;(first | rw [c6b0] | (simp only [i64_w,i32_w];rw [c6b0]) | skip);replace H := Option.bind_eq_some_iff.mp H;obtain ⟨t173,A90,H⟩ := H;replace H : (prefix_Valid.j0 k (decide (a0_3 > t173)) a0_0 a0_1 a0_2 a0_3) = some r := H;have A9 := Aside0.mk A90;clear A90;have H' := Aside0.mk H;clear H
    try go_wp2
    replace BK171 := Aside0.mk (blk_drew BK171.out);replace HB := Aside0.mk (below_drew1 HB.out);refine start_ (n := 17) (S := fun w' => w'.cell? ⟨gb171,0,none⟩ = some (.bool a0_0) ∧ w'.cell? ⟨gb171,1,none⟩ = some (.int .u64 a0_1) ∧ w'.cell? ⟨gb171,2,none⟩ = some (.int .u64 a0_2) ∧ w'.cell? ⟨gb171,3,none⟩ = some (.int .i64 a0_3)) (ds := []) #[false,false,false,false,false,false,false,false,false,false,false,false,false,false,false,false,false] (by kernel_rfl) rfl rfl (XR.c4 BK171.out) (fun hHeld => ?_);refine with_tabW prefix_Valid.tab1 prefix_Valid.bits1 (fun HT_ HW_ => ?_);generalize w3.drew = w10 at BK171 HB hHeld ⊢;refine XR.pu 0 5 HT_.out ?_;(first | refine XL.tl 1 6 31 _ gb171 [.bool a0_0,.int .u64 a0_1,.int .u64 a0_2,.int .i64 a0_3] Try.underlying31 (fun w_ hs_ => XL.lst_range _ 0 hs_) HT_.out HW_.out hHeld ?_ | refine XR.ta 1 6 HT_.out HW_.out hHeld ?_);refine XR.on 2 (some 7) HT_.out (fun K hK => ?_);refine XR.gO Try.func68 #[.agg #[.bool a0_0,.int .u64 a0_1,.int .u64 a0_2]] ?_
    with_reducible refine (addr_Valid.calls a0_0 a0_1 a0_2 true _ A4.out).mono ?_
    rintro e w11 ⟨rfl,hb⟩;refine ⟨_,rfl,?_⟩;replace BK171 := Aside0.mk (XR.bb BK171.out hb);replace HB := Aside0.mk (below_step (XR.sB HB.out) hb);(try clear hb);(try clear hb2);(try clear hk);(try clear hi);refine hK.out _ _ (XR.c4 BK171.out) (fun hHeld => ?_);clear hK K;refine norm_ (a' := ?_) ?_ ?_
    rotate_left
    ·show Act.put _ (some 7) _ = _
     simp only [Act.put,List.setIfInBounds_toArray,List.set_cons_zero,List.set_cons_succ,i64_w,i32_w]
     rfl
    refine XR.pu 3 8 HT_.out ?_;refine XR.pu 4 9 HT_.out ?_;refine XR.pu 5 10 HT_.out ?_;(first | refine XL.tl 6 11 31 _ gb171 [.bool a0_0,.int .u64 a0_1,.int .u64 a0_2,.int .i64 a0_3] Try.underlying31 (fun w_ hs_ => XL.lst_range _ 0 hs_) HT_.out HW_.out hHeld ?_ | refine XR.ta 6 11 HT_.out HW_.out hHeld ?_);refine XR.pu 7 12 HT_.out ?_;refine XR.pu 8 13 HT_.out ?_;refine XR.pu 9 14 HT_.out ?_;refine XR.pu 10 15 HT_.out ?_;refine XR.pu 12 17 HT_.out ?_;(first | refine XL.tl 11 16 31 _ gb171 [.bool a0_0,.int .u64 a0_1,.int .u64 a0_2,.int .i64 a0_3] Try.underlying31 (fun w_ hs_ => XL.lst_range _ 0 hs_) HT_.out HW_.out hHeld ?_ | refine XR.ta 11 16 HT_.out HW_.out hHeld ?_);(first | refine XL.tl 13 18 31 _ gb171 [.bool a0_0,.int .u64 a0_1,.int .u64 a0_2,.int .i64 a0_3] Try.underlying31 (fun w_ hs_ => XL.lst_range _ 0 hs_) HT_.out HW_.out hHeld ?_ | refine XR.ta 13 18 HT_.out HW_.out hHeld ?_);refine XR.on 14 (some 19) HT_.out (fun K hK => ?_);refine XR.gO Try.func67 #[.agg #[.bool a0_0,.int .u64 a0_1,.int .u64 a0_2]] ?_
    with_reducible refine (prefix_length.calls a0_0 a0_1 a0_2 t173 _ A9.out).mono ?_
    rintro e w12 ⟨rfl,hb⟩;refine ⟨_,rfl,?_⟩;replace BK171 := Aside0.mk (XR.bb BK171.out hb);replace HB := Aside0.mk (below_step (XR.sB HB.out) hb);(try clear hb);(try clear hb2);(try clear hk);(try clear hi);refine hK.out _ _ (XR.c4 BK171.out) (fun hHeld => ?_);clear hK K;refine norm_ (a' := ?_) ?_ ?_
    rotate_left
    ·show Act.put _ (some 19) _ = _
     simp only [Act.put,List.setIfInBounds_toArray,List.set_cons_zero,List.set_cons_succ,i64_w,i32_w]
     rfl
    refine XR.pu 15 20 HT_.out ?_;refine XR.pu 16 21 HT_.out ?_;refine done_ (done_of HT_.out (by kernel_rfl)) ?_
    try go_wp2
    first | go_meet | ((refine Met.intro ?_);go_step;(try simp only [c6b0]);(repeat apply Exists.intro);refine ⟨?rel,rfl⟩)
    case rel => exact ⟨_,(decide (a0_3 > t173)),XR.rf,(by first | exact H' | (have h_ := H';simp only [c6b0] at h_;exact h_)),XR.om,(XR.fb BK171.out),⟨XR.sB HB.out⟩⟩
  ·replace c5 := Bool.eq_false_iff.mpr c5;subst c5;rw [if_neg (show ¬ (false = true) by decide)] at H;(try dsimp only at H);have H' := Aside0.mk H;clear H
   try go_wp2
   replace BK171 := Aside0.mk (blk_drew BK171.out);replace HB := Aside0.mk (below_drew1 HB.out);refine start_ (n := 17) (S := fun w' => w'.cell? ⟨gb171,0,none⟩ = some (.bool a0_0) ∧ w'.cell? ⟨gb171,1,none⟩ = some (.int .u64 a0_1) ∧ w'.cell? ⟨gb171,2,none⟩ = some (.int .u64 a0_2) ∧ w'.cell? ⟨gb171,3,none⟩ = some (.int .i64 a0_3)) (ds := []) #[false,false,false,false,false,false,false,false,false,false,false,false,false,false,false,false,false] (by kernel_rfl) rfl rfl (XR.c4 BK171.out) (fun hHeld => ?_);refine with_tabW prefix_Valid.tab1 prefix_Valid.bits1 (fun HT_ HW_ => ?_);generalize w3.drew = w13 at BK171 HB hHeld ⊢;refine XR.pu 0 5 HT_.out ?_;(first | refine XL.tl 1 6 31 _ gb171 [.bool a0_0,.int .u64 a0_1,.int .u64 a0_2,.int .i64 a0_3] Try.underlying31 (fun w_ hs_ => XL.lst_range _ 0 hs_) HT_.out HW_.out hHeld ?_ | refine XR.ta 1 6 HT_.out HW_.out hHeld ?_);refine XR.on 2 (some 7) HT_.out (fun K hK => ?_);refine XR.gO Try.func68 #[.agg #[.bool a0_0,.int .u64 a0_1,.int .u64 a0_2]] ?_
   with_reducible refine (addr_Valid.calls a0_0 a0_1 a0_2 false _ A4.out).mono ?_
   rintro e w14 ⟨rfl,hb⟩;refine ⟨_,rfl,?_⟩;replace BK171 := Aside0.mk (XR.bb BK171.out hb);replace HB := Aside0.mk (below_step (XR.sB HB.out) hb);(try clear hb);(try clear hb2);(try clear hk);(try clear hi);refine hK.out _ _ (XR.c4 BK171.out) (fun hHeld => ?_);clear hK K;refine norm_ (a' := ?_) ?_ ?_
   rotate_left
   ·show Act.put _ (some 7) _ = _
    simp only [Act.put,List.setIfInBounds_toArray,List.set_cons_zero,List.set_cons_succ,i64_w,i32_w]
    rfl
   refine XR.pu 3 8 HT_.out ?_;refine XR.pu 4 9 HT_.out ?_;refine XR.pn 5 10 HT_.out ?_;refine XR.pn 6 11 HT_.out ?_;refine XR.pn 7 12 HT_.out ?_;refine XR.pu 8 13 HT_.out ?_;refine XR.pu 9 14 HT_.out ?_;refine XR.pn 10 15 HT_.out ?_;refine XR.pn 11 16 HT_.out ?_;refine XR.pn 12 17 HT_.out ?_;refine XR.pn 13 18 HT_.out ?_;refine XR.pn 14 19 HT_.out ?_;refine XR.pn 15 20 HT_.out ?_;refine XR.pu 16 21 HT_.out ?_;refine done_ (done_of HT_.out (by kernel_rfl)) ?_
   try go_wp2
   go_meet
   case rel => exact ⟨_,(true),XR.rf,H',XR.om,(XR.fb BK171.out),⟨XR.sB HB.out⟩⟩
 case rest =>
  clear HC2;(try clear p2);(try clear c4);(try clear c5);(try clear c6);(try clear c6b0);obtain ⟨kq,x21_1,rfl,HA,HJ1,BK171,HB⟩ := hcut
  cases kq with
  | zero => exact absurd HA.out (by simp [prefix_Valid.j0])
  | succ kj1 =>
   have H := HA.out;clear HA;simp only [prefix_Valid.j0] at H;by_cases c15 : x21_1 = true
   ·subst c15;rw [if_pos rfl] at H;(try dsimp only at H);obtain rfl := Option.some.inj H;go_wp2;go_ret;exact XR.re HB.out
   ·replace c15 := Bool.eq_false_iff.mpr c15;subst c15;rw [if_neg (show ¬ (false = true) by decide)] at H;(try dsimp only at H);replace H := Option.bind_eq_some_iff.mp H;obtain ⟨⟨t174,t175⟩,A160,H⟩ := H;(try dsimp only at H);have A16 := Aside0.mk A160;clear A160;by_cases c17 : (Go.bits .and .u64 a0_1 t174) = 0
    ·rw [if_pos c17] at H;have c17b0 := beq_iff_eq.mpr c17;have c17b1 := bne_eq_false_iff_eq.mpr c17;clear c17;obtain rfl := Option.some.inj H;obtain ⟨Y18_0,Y18_1,Y18_2,Y18_3⟩ := XR.c4 BK171.out;obtain ⟨Z18_0,Z18_1,Z18_2,Z18_3⟩ := XR.f4 BK171.out;go_wp2_with (first | ((with_reducible refine gate_callee (f := 69) rfl ?_);refine XR.gL 28 Try.func69 #[.bool a0_0,.int .i64 a0_3] ?_;(with_reducible refine (prefix_later.calls a0_0 a0_3 t174 t175 _ A16.out).mono ?_);rintro e w' ⟨rfl,⟨nd,rfl⟩⟩;refine ⟨_,rfl,?_⟩));go_ret;exact XR.re HB.out
    ·rw [if_neg c17] at H;have c17b0 := beq_eq_false_iff_ne.mpr c17;have c17b1 := bne_iff_ne.mpr c17;obtain rfl := Option.some.inj H;obtain ⟨Y19_0,Y19_1,Y19_2,Y19_3⟩ := XR.c4 BK171.out;obtain ⟨Z19_0,Z19_1,Z19_2,Z19_3⟩ := XR.f4 BK171.out;go_wp2_with (first | ((with_reducible refine gate_callee (f := 69) rfl ?_);refine XR.gL 28 Try.func69 #[.bool a0_0,.int .i64 a0_3] ?_;(with_reducible refine (prefix_later.calls a0_0 a0_3 t174 t175 _ A16.out).mono ?_);rintro e w' ⟨rfl,⟨nd,rfl⟩⟩;refine ⟨_,rfl,?_⟩));go_ret;exact XR.re HB.out
end Go.Proofs.Ytjifdgicamlikaa.QA
