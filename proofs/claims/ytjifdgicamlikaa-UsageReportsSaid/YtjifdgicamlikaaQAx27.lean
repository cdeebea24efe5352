import Derived.Test.YtjifdgicamlikaaQAd1
import Derived.Test.YtjifdgicamlikaaQAx0
import Derived.Test.YtjifdgicamlikaaQAx7
import Derived.Test.YtjifdgicamlikaaQAx8
import Derived.Test.YtjifdgicamlikaaXL
namespace Go.Proofs.Ytjifdgicamlikaa.QA
open Go.RowKit Go.Proofs.YtjifdgicamlikaaW.PrintWords Go.Proofs.YtjifdgicamlikaaW.PrintLast Go.Proofs.YtjifdgicamlikaaW.PrintMore
attribute [local go_sem] max2_int min2_int max_two min_two max_three min_three max_four min_four
attribute [local go_sem high] Go.Proofs.Ytjifdgicamlikaa.XW.cell_setCell_lit
set_option linter.unusedVariables false
set_option linter.unusedSimpArgs false
def ddiref03_Size.T1 : Bool × List (List Nat × List Nat) := (true,[([],[]),([0],[0]),([1],[1]),([2,1],[2]),([3],[3]),([4,3],[3,4]),([5,3],[3,5]),([6,3,3],[3,6]),([3],[3]),([8,3],[3,8]),([7,9,3],[3,7,9]),([10,3],[3,10]),([3,11],[3,11])])
def ddiref03_Size.B1 : List Nat := [0,1,3,7,15,31,63,127,15,271,1023,2047,4095]
theorem ddiref03_Size.tab1 : rtab .any (opsOf Try.f53 1) = ddiref03_Size.T1 := by kernel_rfl
theorem ddiref03_Size.bits1 : waitsOk ddiref03_Size.T1.2 ddiref03_Size.B1 = true := by kernel_rfl
def ddiref03_Size.T3 : Bool × List (List Nat × List Nat) := (true,[([],[]),([0],[0]),([1],[1]),([2],[2]),([],[]),([4],[4]),([3,5],[3,5]),([6,3],[6]),([7],[7]),([8],[8]),([8],[8]),([9,7,0,1,2,3,4,5,6,7,8,9],[9]),([10,11,0,1,2,3,4,5,6,7,8,9,10,11],[10])])
def ddiref03_Size.B3 : List Nat := [0,1,3,7,0,16,63,127,255,511,511,1023,4095]
theorem ddiref03_Size.tab3 : rtab .any (opsOf Try.f53 3) = ddiref03_Size.T3 := by kernel_rfl
theorem ddiref03_Size.bits3 : waitsOk ddiref03_Size.T3.2 ddiref03_Size.B3 = true := by kernel_rfl
set_option maxHeartbeats 8000000 in
set_option maxRecDepth 100000 in
theorem ddiref03_Size.calls (k : Nat) (a0_0 : Bool) (a0_1 : Int) (a0_2 : Int) (a0_3 : Int) (r1 : Int) (r2 : Bool) (w : World) (h : ddiref03_Size.f k a0_0 a0_1 a0_2 a0_3 = some (r1,r2)) :
  Calls Try.prog 53 #[.agg #[.bool a0_0,.int .u64 a0_1,.int .u64 a0_2,.int .i64 a0_3]] w fun e w' => e = .returned (.tuple #[.int .u64 r1,.bool r2]) ∧ Below w.heap.size w w' := by
 have hu31 := Try.underlying31;have HB := Aside0.mk (Below.refl w.heap.size w);have H : ((ddiref03_Valid.f k a0_0 a0_1 a0_2 a0_3).bind fun t382 => (if t382 = true then ((ddiref03_Long.f a0_0).bind fun t383 => (ddiref03_Size.j0 k (decide ((wrap64 (t383 - a0_3)) > 63)) a0_0 a0_1 a0_2 a0_3)) else (ddiref03_Size.j0 k true a0_0 a0_1 a0_2 a0_3))) = some (r1,r2) := h;clear h;have HC2 := Aside0.mk H;clear H;go_enter Try.func53,Try.ntmps53;go_upto_region 1 with (first | ((with_reducible refine gate_dst (N := 1) rfl ?_);refine XR.bx 1 31 #[.bool a0_0,.int .u64 a0_1,.int .u64 a0_2,.int .i64 a0_3] ?_;intro gb381 hg w3 hbox hb;have BK381 := Aside0.mk (hbox);have GW381 := Aside0.mk (XR.ge hg HB.out);have GE381 := GW381;replace HB := Aside0.mk (XR.bB HB.out hb);clear hb hbox hg));(try simp only [Act.put,List.setIfInBounds_toArray,List.set_cons_zero,List.set_cons_succ]);go_cut [18] (fun v18 wc => ∃ (kq : Nat) (x18_1 : Bool),v18 = .bool x18_1 ∧ Aside0 (ddiref03_Size.j0 kq x18_1 a0_0 a0_1 a0_2 a0_3 = some (r1,r2)) ∧ Aside0 (kq ≤ k) ∧ Aside0 (wc.heap[gb381]? = some (.cells #[.bool a0_0,.int .u64 a0_1,.int .u64 a0_2,.int .i64 a0_3] 31 (0,0))) ∧ Aside0 (Below w.heap.size w wc))
 case first =>
  have H := HC2.out;clear HC2;replace H := Option.bind_eq_some_iff.mp H;obtain ⟨t382,A40,H⟩ := H;(try dsimp only at H);have A4 := Aside0.mk A40;clear A40;by_cases c5 : t382 = true
  ·subst c5;rw [if_pos rfl] at H;(try dsimp only at H);replace H := Option.bind_eq_some_iff.mp H;obtain ⟨t383,A60,H⟩ := H;replace H : (ddiref03_Size.j0 k (decide ((wrap64 (t383 - a0_3)) > 63)) a0_0 a0_1 a0_2 a0_3) = some (r1,r2) := H;have A6 := Aside0.mk A60;clear A60;have H' := Aside0.mk H;clear H
   try go_wp2
   replace BK381 := Aside0.mk (blk_drew BK381.out);replace HB := Aside0.mk (below_drew1 HB.out);refine start_ (n := 13) (S := fun w' => w'.cell? ⟨gb381,0,none⟩ = some (.bool a0_0) ∧ w'.cell? ⟨gb381,1,none⟩ = some (.int .u64 a0_1) ∧ w'.cell? ⟨gb381,2,none⟩ = some (.int .u64 a0_2) ∧ w'.cell? ⟨gb381,3,none⟩ = some (.int .i64 a0_3)) (ds := []) #[false,false,false,false,false,false,false,false,false,false,false,false,false] (by kernel_rfl) rfl rfl (XR.c4 BK381.out) (fun hHeld => ?_);refine with_tabW ddiref03_Size.tab1 ddiref03_Size.bits1 (fun HT_ HW_ => ?_);generalize w3.drew = w7 at BK381 HB hHeld ⊢;(first | refine XL.tl 0 6 31 _ gb381 [.bool a0_0,.int .u64 a0_1,.int .u64 a0_2,.int .i64 a0_3] Try.underlying31 (fun w_ hs_ => XL.lst_range _ 0 hs_) HT_.out HW_.out hHeld ?_ | refine XR.ta 0 6 HT_.out HW_.out hHeld ?_);refine XR.on 1 (some 7) HT_.out (fun K hK => ?_);refine XR.gO Try.func44 #[.agg #[.bool a0_0,.int .u64 a0_1,.int .u64 a0_2,.int .i64 a0_3]] ?_
   with_reducible refine (ddiref03_Valid.calls k a0_0 a0_1 a0_2 a0_3 true _ A4.out).mono ?_
   rintro e w8 ⟨rfl,hb⟩;refine ⟨_,rfl,?_⟩;replace BK381 := Aside0.mk (XR.bb BK381.out hb);replace HB := Aside0.mk (below_step (XR.sB HB.out) hb);(try clear hb);(try clear hb2);(try clear hk);(try clear hi);refine hK.out _ _ (XR.c4 BK381.out) (fun hHeld => ?_);clear hK K;refine norm_ (a' := ?_) ?_ ?_
   rotate_left
   ·show Act.put _ (some 7) _ = _
    simp only [Act.put,List.setIfInBounds_toArray,List.set_cons_zero,List.set_cons_succ,i64_w,i32_w]
    rfl
   refine XR.pu 2 8 HT_.out ?_;refine XR.pu 3 9 HT_.out ?_;refine XR.pu 4 10 HT_.out ?_;refine XR.pu 5 11 HT_.out ?_;refine XR.pu 8 14 HT_.out ?_;(first | refine XL.tl 6 12 31 _ gb381 [.bool a0_0,.int .u64 a0_1,.int .u64 a0_2,.int .i64 a0_3] Try.underlying31 (fun w_ hs_ => XL.lst_range _ 0 hs_) HT_.out HW_.out hHeld ?_ | refine XR.ta 6 12 HT_.out HW_.out hHeld ?_);(first | refine XL.tl 9 15 31 _ gb381 [.bool a0_0,.int .u64 a0_1,.int .u64 a0_2,.int .i64 a0_3] Try.underlying31 (fun w_ hs_ => XL.lst_range _ 0 hs_) HT_.out HW_.out hHeld ?_ | refine XR.ta 9 15 HT_.out HW_.out hHeld ?_);refine XR.on 7 (some 13) HT_.out (fun K hK => ?_);refine XR.gO Try.func71 #[.bool a0_0] ?_
   with_reducible refine (ddiref03_Long.calls a0_0 t383 _ A6.out).mono ?_
   rintro e w' ⟨rfl,⟨nd,rfl⟩⟩;refine ⟨_,rfl,?_⟩;refine hK.out _ _ (XR.c4 BK381.out) (fun hHeld => ?_);clear hK K;refine norm_ (a' := ?_) ?_ ?_
   rotate_left
   ·show Act.put _ (some 13) _ = _
    simp only [Act.put,List.setIfInBounds_toArray,List.set_cons_zero,List.set_cons_succ,i64_w,i32_w]
    rfl
   refine XR.pu 10 16 HT_.out ?_;refine XR.pu 11 17 HT_.out ?_;refine XR.pu 12 18 HT_.out ?_;refine done_ (done_of HT_.out (by kernel_rfl)) ?_
   try go_wp2
   go_meet
   case rel => exact ⟨_,(decide ((wrap64 (t383 - a0_3)) > 63)),XR.rf,H',XR.om,(XR.fb BK381.out),⟨XR.sB HB.out⟩⟩
  ·replace c5 := Bool.eq_false_iff.mpr c5;subst c5;rw [if_neg (show ¬ (false = true) by decide)] at H;(try dsimp only at H);have H' := Aside0.mk H;clear H
   try go_wp2
   replace BK381 := Aside0.mk (blk_drew BK381.out);replace HB := Aside0.mk (below_drew1 HB.out);refine start_ (n := 13) (S := fun w' => w'.cell? ⟨gb381,0,none⟩ = some (.bool a0_0) ∧ w'.cell? ⟨gb381,1,none⟩ = some (.int .u64 a0_1) ∧ w'.cell? ⟨gb381,2,none⟩ = some (.int .u64 a0_2) ∧ w'.cell? ⟨gb381,3,none⟩ = some (.int .i64 a0_3)) (ds := []) #[false,false,false,false,false,false,false,false,false,false,false,false,false] (by kernel_rfl) rfl rfl (XR.c4 BK381.out) (fun hHeld => ?_);refine with_tabW ddiref03_Size.tab1 ddiref03_Size.bits1 (fun HT_ HW_ => ?_);generalize w3.drew = w9 at BK381 HB hHeld ⊢;(first | refine XL.tl 0 6 31 _ gb381 [.bool a0_0,.int .u64 a0_1,.int .u64 a0_2,.int .i64 a0_3] Try.underlying31 (fun w_ hs_ => XL.lst_range _ 0 hs_) HT_.out HW_.out hHeld ?_ | refine XR.ta 0 6 HT_.out HW_.out hHeld ?_);refine XR.on 1 (some 7) HT_.out (fun K hK => ?_);refine XR.gO Try.func44 #[.agg #[.bool a0_0,.int .u64 a0_1,.int .u64 a0_2,.int .i64 a0_3]] ?_
   with_reducible refine (ddiref03_Valid.calls k a0_0 a0_1 a0_2 a0_3 false _ A4.out).mono ?_
   rintro e w10 ⟨rfl,hb⟩;refine ⟨_,rfl,?_⟩;replace BK381 := Aside0.mk (XR.bb BK381.out hb);replace HB := Aside0.mk (below_step (XR.sB HB.out) hb);(try clear hb);(try clear hb2);(try clear hk);(try clear hi);refine hK.out _ _ (XR.c4 BK381.out) (fun hHeld => ?_);clear hK K;refine norm_ (a' := ?_) ?_ ?_
   rotate_left
   ·show Act.put _ (some 7) _ = _
    simp only [Act.put,List.setIfInBounds_toArray,List.set_cons_zero,List.set_cons_succ,i64_w,i32_w]
    rfl
   refine XR.pu 2 8 HT_.out ?_;refine XR.pu 3 9 HT_.out ?_;refine XR.pn 4 10 HT_.out ?_;refine XR.pn 5 11 HT_.out ?_;refine XR.pn 6 12 HT_.out ?_;refine XR.pn 7 13 HT_.out ?_;refine XR.pn 8 14 HT_.out ?_;refine XR.pn 9 15 HT_.out ?_;refine XR.pn 10 16 HT_.out ?_;refine XR.pn 11 17 HT_.out ?_;refine XR.pu 12 18 HT_.out ?_;refine done_ (done_of HT_.out (by kernel_rfl)) ?_
   try go_wp2
   go_meet
   case rel => exact ⟨_,(true),XR.rf,H',XR.om,(XR.fb BK381.out),⟨XR.sB HB.out⟩⟩
 case rest =>
  clear HC2;(try clear p2);(try clear c4);(try clear c5);(try clear p6);(try clear c7);obtain ⟨kq,x18_1,rfl,HA,HJ1,BK381,HB⟩ := hcut
  cases kq with
  | zero => exact absurd HA.out (by simp [ddiref03_Size.j0])
  | succ kj1 =>
   have H := HA.out;clear HA;simp only [ddiref03_Size.j0] at H;by_cases c11 : x18_1 = true
   ·subst c11;rw [if_pos rfl] at H;(try dsimp only at H);simp only [Option.some.injEq,Prod.mk.injEq] at H;obtain ⟨rfl,rfl⟩ := H;go_wp2;go_ret2;exact XR.re HB.out
   ·replace c11 := Bool.eq_false_iff.mpr c11;subst c11;rw [if_neg (show ¬ (false = true) by decide)] at H;(try dsimp only at H);replace H := Option.bind_eq_some_iff.mp H;obtain ⟨t384,A120,H⟩ := H;(try dsimp only at H);have A12 := Aside0.mk A120;clear A120;replace H := Option.bind_eq_some_iff.mp H;obtain ⟨⟨t385,t386⟩,A130,H⟩ := H;replace H : (some (IntKind.u64.wrap (t386 + 1),true)) = some (r1,r2) := H;have A13 := Aside0.mk A130;clear A130;simp only [Option.some.injEq,Prod.mk.injEq] at H;obtain ⟨rfl,rfl⟩ := H
    try go_wp2
    replace BK381 := Aside0.mk (blk_drew BK381.out);replace HB := Aside0.mk (below_drew1 HB.out);refine start_ (n := 13) (S := fun w' => w'.cell? ⟨gb381,0,none⟩ = some (.bool a0_0) ∧ w'.cell? ⟨gb381,1,none⟩ = some (.int .u64 a0_1) ∧ w'.cell? ⟨gb381,2,none⟩ = some (.int .u64 a0_2) ∧ w'.cell? ⟨gb381,3,none⟩ = some (.int .i64 a0_3)) (ds := []) #[false,false,false,false,false,false,false,false,false,false,false,false,false] (by kernel_rfl) rfl rfl (XR.c4 BK381.out) (fun hHeld => ?_);refine with_tabW ddiref03_Size.tab3 ddiref03_Size.bits3 (fun HT_ HW_ => ?_);generalize wc.drew = w14 at BK381 HB hHeld ⊢;refine XR.pu 0 20 HT_.out ?_;refine XR.pu 1 21 HT_.out ?_;refine XR.pu 4 24 HT_.out ?_;(first | refine XL.tl 2 22 31 _ gb381 [.bool a0_0,.int .u64 a0_1,.int .u64 a0_2,.int .i64 a0_3] Try.underlying31 (fun w_ hs_ => XL.lst_range _ 0 hs_) HT_.out HW_.out hHeld ?_ | refine XR.ta 2 22 HT_.out HW_.out hHeld ?_);(first | refine XL.tl 5 25 31 _ gb381 [.bool a0_0,.int .u64 a0_1,.int .u64 a0_2,.int .i64 a0_3] Try.underlying31 (fun w_ hs_ => XL.lst_range _ 0 hs_) HT_.out HW_.out hHeld ?_ | refine XR.ta 5 25 HT_.out HW_.out hHeld ?_);refine XR.on 3 (some 23) HT_.out (fun K hK => ?_);refine XR.gO Try.func71 #[.bool a0_0] ?_
    with_reducible refine (ddiref03_Long.calls a0_0 t384 _ A12.out).mono ?_
    rintro e w' ⟨rfl,⟨nd,rfl⟩⟩;refine ⟨_,rfl,?_⟩;refine hK.out _ _ (XR.c4 BK381.out) (fun hHeld => ?_);clear hK K;refine norm_ (a' := ?_) ?_ ?_
    rotate_left
    ·show Act.put _ (some 23) _ = _
     simp only [Act.put,List.setIfInBounds_toArray,List.set_cons_zero,List.set_cons_succ,i64_w,i32_w]
     rfl
    refine XR.pu 6 26 HT_.out ?_;refine XR.on 7 (some 27) HT_.out (fun K hK => ?_);refine XR.gO Try.func72 #[.int .i64 (wrap64 (t384 - a0_3))] ?_
    with_reducible refine (ddiref03_ones.calls kj1 (wrap64 (t384 - a0_3)) t385 t386 _ A13.out).mono ?_
    rintro e w' ⟨rfl,⟨nd,rfl⟩⟩;refine ⟨_,rfl,?_⟩;refine hK.out _ _ (XR.c4 BK381.out) (fun hHeld => ?_);clear hK K;refine norm_ (a' := ?_) ?_ ?_
    rotate_left
    ·show Act.put _ (some 27) _ = _
     simp only [Act.put,List.setIfInBounds_toArray,List.set_cons_zero,List.set_cons_succ,i64_w,i32_w]
     rfl
    refine XR.pu 8 19 HT_.out ?_;refine XR.pu 9 28 HT_.out ?_;refine XR.pu 10 29 HT_.out ?_;refine XR.pu 11 4 HT_.out ?_;refine XR.pu 12 5 HT_.out ?_;refine done_ (done_of HT_.out (by kernel_rfl)) ?_
    try go_wp2
    go_ret2;exact XR.re HB.out
end Go.Proofs.Ytjifdgicamlikaa.QA
