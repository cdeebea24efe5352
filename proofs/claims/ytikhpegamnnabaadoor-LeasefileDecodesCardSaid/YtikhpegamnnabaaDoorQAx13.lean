import Derived.Test.YtikhpegamnnabaaDoorQAd1
import Derived.Test.YtikhpegamnnabaaDoorQAx0
import Derived.Test.YtikhpegamnnabaaDoorQAx4
import Derived.Test.YtikhpegamnnabaaDoorQAx12
import Derived.Test.YtikhpegamnnabaaDoorXL
namespace Go.Proofs.YtikhpegamnnabaaDoor.QA
open Go.RowKit Go.Proofs.YtikhpegamnnabaaDoorW.PrintWords Go.Proofs.YtikhpegamnnabaaDoorW.PrintLast Go.Proofs.YtikhpegamnnabaaDoorW.PrintMore
attribute [local go_sem] max2_int min2_int max_two min_two max_three min_three max_four min_four
attribute [local go_sem high] Go.Proofs.YtikhpegamnnabaaDoor.XW.cell_setCell_lit
set_option linter.unusedVariables false
set_option linter.unusedSimpArgs false
def addr_Wire.T5 : Bool × List (List Nat × List Nat) := (true,[([],[]),([0],[0]),([1],[1]),([2],[2]),([],[]),([4],[4]),([5,2],[5]),([6],[6]),([3,7],[3,7]),([8,6,0,1,2,3,4,5,6,7,8],[8]),([9,0,1,2,3,4,5,6,7,8,9],[])])
def addr_Wire.B5 : List Nat := [0,1,3,7,0,16,55,119,255,511,1023]
theorem addr_Wire.tab5 : rtab .any (opsOf Tryd.f27 5) = addr_Wire.T5 := by kernel_rfl
theorem addr_Wire.bits5 : waitsOk addr_Wire.T5.2 addr_Wire.B5 = true := by kernel_rfl
set_option maxHeartbeats 8000000 in
set_option maxRecDepth 100000 in
theorem addr_Wire.calls (k : Nat) (a0_0 : Bool) (a0_1 : Int) (a0_2 : Int) (r1 : ByteArray) (r2 : Int) (w : World) (h : addr_Wire.f k a0_0 a0_1 a0_2 = some (r1,r2)) :
  Calls Tryd.prog 27 #[.agg #[.bool a0_0,.int .u64 a0_1,.int .u64 a0_2]] w fun e w' => e = .returned (.tuple #[.string r1,.int .i64 r2]) ∧ Below w.heap.size w w' := by
 have hu24 := Tryd.underlying24;have HB := Aside0.mk (Below.refl w.heap.size w);have H : ((addr_Valid.f a0_0 a0_1 a0_2).bind fun t157 => (if t157 = true then (if a0_0 = true then ((addr_bytes.f k a0_1).bind fun t165 => ((addr_bytes.f k a0_2).bind fun t168 => (if (strOfNums t165).size + (strOfNums t168).size ≤ 9223372036854775807 then (some ((strOfNums t165) ++ (strOfNums t168),0)) else (none)))) else ((addr_bytes.f k a0_2).bind fun t158 => (if 4 ≤ (t158.length : Int) then (some (strOfNums (t158.drop 4),0)) else (none)))) else (some ((⟨#[]⟩ : ByteArray),3)))) = some (r1,r2) := h;clear h;replace H := Option.bind_eq_some_iff.mp H;obtain ⟨t157,A20,H⟩ := H;(try dsimp only at H);have A2 := Aside0.mk A20;clear A20;by_cases c3 : t157 = true
 ·subst c3;rw [if_pos rfl] at H;(try dsimp only at H);by_cases c4 : a0_0 = true
  ·subst c4;rw [if_pos rfl] at H;(try dsimp only at H);replace H := Option.bind_eq_some_iff.mp H;obtain ⟨t165,A50,H⟩ := H;(try dsimp only at H);have A5 := Aside0.mk A50;clear A50;replace H := Option.bind_eq_some_iff.mp H;obtain ⟨t168,A60,H⟩ := H;(try dsimp only at H);have A6 := Aside0.mk A60;clear A60;by_cases c7 : (strOfNums t165).size + (strOfNums t168).size ≤ 9223372036854775807
   ·rw [if_pos c7] at H;have c7b0 := eq_true c7;have c7b1 := decide_eq_true c7
    try have c7b2 : (9223372036854775807 < (strOfNums t165).size + (strOfNums t168).size) = False := eq_false (Nat.not_lt.2 c7)
    skip
    simp only [Option.some.injEq,Prod.mk.injEq] at H;obtain ⟨rfl,rfl⟩ := H;go_enter Tryd.func27,Tryd.ntmps27
    try go_wp2_with (first | ((with_reducible refine gate_dst (N := 1) rfl ?_);refine XR.bx 1 24 #[.bool true,.int .u64 a0_1,.int .u64 a0_2] ?_;intro gb156 hg w8 hbox hb;have BK156 := Aside0.mk (hbox);have GW156 := Aside0.mk (XR.ge hg HB.out);have GE156 := GW156;replace HB := Aside0.mk (XR.bB HB.out hb);clear hb hbox hg;obtain ⟨Y9_0,Y9_1,Y9_2⟩ := XR.c3 BK156.out;obtain ⟨Z9_0,Z9_1,Z9_2⟩ := XR.f3 BK156.out) | ((with_reducible refine gate_callee (f := 50) rfl ?_);refine XR.gL 6 Tryd.func50 #[.agg #[.bool true,.int .u64 a0_1,.int .u64 a0_2]] ?_;(with_reducible refine (addr_Valid.calls true a0_1 a0_2 true _ A2.out).mono ?_);rintro e w10 ⟨rfl,hb⟩;refine ⟨_,rfl,?_⟩;replace BK156 := Aside0.mk (XR.bb BK156.out hb);replace HB := Aside0.mk (below_step (XR.sB HB.out) hb);(try clear hb);(try clear hk);obtain ⟨Y11_0,Y11_1,Y11_2⟩ := XR.c3 BK156.out;obtain ⟨Z11_0,Z11_1,Z11_2⟩ := XR.f3 BK156.out))
    replace BK156 := Aside0.mk (blk_drew BK156.out);replace HB := Aside0.mk (below_drew1 HB.out);refine start_ (n := 11) (S := fun w' => w'.cell? ⟨gb156,0,none⟩ = some (.bool true) ∧ w'.cell? ⟨gb156,1,none⟩ = some (.int .u64 a0_1) ∧ w'.cell? ⟨gb156,2,none⟩ = some (.int .u64 a0_2)) (ds := []) #[false,false,false,false,false,false,false,false,false,false,false] (by kernel_rfl) rfl rfl (XR.c3 BK156.out) (fun hHeld => ?_);refine with_tabW addr_Wire.tab5 addr_Wire.bits5 (fun HT_ HW_ => ?_);generalize w10.drew = w12 at BK156 HB hHeld ⊢;refine XR.pu 0 17 HT_.out ?_;refine XR.pu 4 21 HT_.out ?_;(first | refine XL.tl 1 18 24 _ gb156 [.bool true,.int .u64 a0_1,.int .u64 a0_2] Tryd.underlying24 (fun w_ hs_ => XL.lst_range _ 0 hs_) HT_.out HW_.out hHeld ?_ | refine XR.ta 1 18 HT_.out HW_.out hHeld ?_);(first | refine XL.tl 5 22 24 _ gb156 [.bool true,.int .u64 a0_1,.int .u64 a0_2] Tryd.underlying24 (fun w_ hs_ => XL.lst_range _ 0 hs_) HT_.out HW_.out hHeld ?_ | refine XR.ta 5 22 HT_.out HW_.out hHeld ?_);refine XR.on 2 (some 19) HT_.out (fun K hK => ?_);refine XR.gO Tryd.func55 #[.int .u64 a0_1] ?_
    with_reducible refine (addr_bytes.calls k a0_1 t165 _ A5.out).mono ?_
    rintro e w13 ⟨v166,rfl,ho0,hb⟩;refine ⟨_,rfl,?_⟩;have HO167 := Aside0.mk (Kd.R_lower ho0 (below_size (XR.sB HB.out)));replace BK156 := Aside0.mk (XR.bb BK156.out hb);replace HB := Aside0.mk (below_step (XR.sB HB.out) hb);(try clear hb);(try clear hb2);(try clear hk);(try clear hi);(try clear ho0);refine hK.out _ _ (XR.c3 BK156.out) (fun hHeld => ?_);clear hK K;refine norm_ (a' := ?_) ?_ ?_
    rotate_left
    ·show Act.put _ (some 19) _ = _
     simp only [Act.put,List.setIfInBounds_toArray,List.set_cons_zero,List.set_cons_succ,i64_w,i32_w]
     rfl
    refine join_ (σ := Value) 3 #[true,true,true,true,true,true,true,true,false,false,false] (fun s_ => [(20,.string (strOfNums t165)),(23,s_),(24,.string (strOfNums t168))]) (fun s_ w' => (w'.cell? ⟨gb156,0,none⟩ = some (.bool true) ∧ w'.cell? ⟨gb156,1,none⟩ = some (.int .u64 a0_1) ∧ w'.cell? ⟨gb156,2,none⟩ = some (.int .u64 a0_2)) ∧ (Kd.R (Kd.int .u8) 5 w' w.heap.size (fun k_ => some k_ ≠ (s_ : Value).ownBlock) v166 t165) ∧ (Kd.R (Kd.int .u8) 5 w' w.heap.size (fun k_ => some k_ ≠ (v166 : Value).ownBlock) s_ t168) ∧ (w'.heap[gb156]? = some (.cells #[.bool true,.int .u64 a0_1,.int .u64 a0_2] 24 (0,0))) ∧ (Below w.heap.size w w')) ?_ ?_
    rotate_left
    ·intro hCont;refine two_ (i := 3) (j := 6) (Ni := some 20) (Nj := some 23) #[true,true,true,true,true,true,false,false,false,false,false] #[true,true,true,false,true,true,true,false,false,false,false] rfl rfl rfl rfl (two_of HT_.out (by kernel_rfl)) (by decide) (by decide) (fun K hK => ?_) (fun K hK => ?_)
     ·skip
      have hcv14 := own_string (P := Tryd.prog) Tryd.underlying53 Tryd.underlying5 Tryd.underlying9 (Kd.own_of_R HO167.out);refine value_ (w1 := ?_) (v := ?_) (by rfl) rfl ?_ ?_
      rotate_left 2
      ·go_simp
       constructor
       ·rfl
       ·rfl
      clear hcv14;refine hK.out _ _ (XR.c3 BK156.out) (fun hHeld => ?_);clear hK K;refine norm_ (a' := ?_) ?_ ?_
      rotate_left
      ·show Act.put _ (some 20) _ = _
       simp only [Act.put,List.setIfInBounds_toArray,List.set_cons_zero,List.set_cons_succ,i64_w,i32_w]
       rfl
      refine XR.on 6 (some 23) HT_.out (fun K hK => ?_);refine XR.gO Tryd.func55 #[.int .u64 a0_2] ?_
      with_reducible refine (addr_bytes.calls k a0_2 t168 _ A6.out).mono ?_
      rintro e w15 ⟨v169,rfl,ho0,hb⟩;refine ⟨_,rfl,?_⟩;have HO170 := Aside0.mk (Kd.R_lower (Kd.R_new' ho0 (Kd.R_lt (XR.lR HO167.out))) (below_size (XR.sB HB.out)));replace HO167 := Aside0.mk (Kd.R_elder' (XR.lR HO167.out) (Kd.R_base ho0) hb);replace BK156 := Aside0.mk (XR.bb BK156.out hb);replace HB := Aside0.mk (below_step (XR.sB HB.out) hb);(try clear hb);(try clear hb2);(try clear hk);(try clear hi);(try clear ho0);refine hK.out _ _ (XR.c3 BK156.out) (fun hHeld => ?_);clear hK K;refine norm_ (a' := ?_) ?_ ?_
      rotate_left
      ·show Act.put _ (some 23) _ = _
       simp only [Act.put,List.setIfInBounds_toArray,List.set_cons_zero,List.set_cons_succ,i64_w,i32_w]
       rfl
      refine XR.on 7 (some 24) HT_.out (fun K hK => ?_);have hcv16 := own_string (P := Tryd.prog) Tryd.underlying53 Tryd.underlying5 Tryd.underlying9 (Kd.own_of_R HO170.out);refine value_ (w1 := ?_) (v := ?_) (by rfl) rfl ?_ ?_
      rotate_left 2
      ·go_simp
       constructor
       ·rfl
       ·rfl
      clear hcv16;refine hK.out _ _ (XR.c3 BK156.out) (fun hHeld => ?_);clear hK K;refine norm_ (a' := ?_) ?_ ?_
      rotate_left
      ·show Act.put _ (some 24) _ = _
       simp only [Act.put,List.setIfInBounds_toArray,List.set_cons_zero,List.set_cons_succ,i64_w,i32_w]
       rfl
      exact norm_ (by simp only [putAll,Act.put,List.setIfInBounds_toArray,List.set_cons_zero,List.set_cons_succ]) (hCont (v169) _ ⟨hHeld,(by (with_reducible repeat (first | apply Kd.R_alloc | apply Kd.R_drewN | apply Kd.R_drew));exact Kd.R_mono HO167.out (fun _ hk => hk.2)),(by (with_reducible repeat (first | apply Kd.R_alloc | apply Kd.R_drewN | apply Kd.R_drew));exact Kd.R_mono HO170.out (fun _ hk => hk.2)),(XR.lb BK156.out),(XR.sB HB.out)⟩)
     ·skip
      refine XR.gO Tryd.func55 #[.int .u64 a0_2] ?_
      with_reducible refine (addr_bytes.calls k a0_2 t168 _ A6.out).mono ?_
      rintro e w14 ⟨v169,rfl,ho0,hb⟩;refine ⟨_,rfl,?_⟩;have HO170 := Aside0.mk (Kd.R_lower (Kd.R_new' ho0 (Kd.R_lt (XR.lR HO167.out))) (below_size (XR.sB HB.out)));replace HO167 := Aside0.mk (Kd.R_elder' (XR.lR HO167.out) (Kd.R_base ho0) hb);replace BK156 := Aside0.mk (XR.bb BK156.out hb);replace HB := Aside0.mk (below_step (XR.sB HB.out) hb);(try clear hb);(try clear hb2);(try clear hk);(try clear hi);(try clear ho0);refine hK.out _ _ (XR.c3 BK156.out) (fun hHeld => ?_);clear hK K;refine norm_ (a' := ?_) ?_ ?_
      rotate_left
      ·show Act.put _ (some 23) _ = _
       simp only [Act.put,List.setIfInBounds_toArray,List.set_cons_zero,List.set_cons_succ,i64_w,i32_w]
       rfl
      refine two_ (i := 3) (j := 7) (Ni := some 20) (Nj := some 24) #[true,true,true,true,true,true,true,false,false,false,false] #[true,true,true,false,true,true,true,true,false,false,false] rfl rfl rfl rfl (two_of HT_.out (by kernel_rfl)) (by decide) (by decide) (fun K hK => ?_) (fun K hK => ?_)
      ·skip
       have hcv15 := own_string (P := Tryd.prog) Tryd.underlying53 Tryd.underlying5 Tryd.underlying9 (Kd.own_of_R HO167.out);refine value_ (w1 := ?_) (v := ?_) (by rfl) rfl ?_ ?_
       rotate_left 2
       ·go_simp
        constructor
        ·rfl
        ·rfl
       clear hcv15;refine hK.out _ _ (XR.c3 BK156.out) (fun hHeld => ?_);clear hK K;refine norm_ (a' := ?_) ?_ ?_
       rotate_left
       ·show Act.put _ (some 20) _ = _
        simp only [Act.put,List.setIfInBounds_toArray,List.set_cons_zero,List.set_cons_succ,i64_w,i32_w]
        rfl
       refine XR.on 7 (some 24) HT_.out (fun K hK => ?_);have hcv16 := own_string (P := Tryd.prog) Tryd.underlying53 Tryd.underlying5 Tryd.underlying9 (Kd.own_of_R HO170.out);refine value_ (w1 := ?_) (v := ?_) (by rfl) rfl ?_ ?_
       rotate_left 2
       ·go_simp
        constructor
        ·rfl
        ·rfl
       clear hcv16;refine hK.out _ _ (XR.c3 BK156.out) (fun hHeld => ?_);clear hK K;refine norm_ (a' := ?_) ?_ ?_
       rotate_left
       ·show Act.put _ (some 24) _ = _
        simp only [Act.put,List.setIfInBounds_toArray,List.set_cons_zero,List.set_cons_succ,i64_w,i32_w]
        rfl
       exact norm_ (by simp only [putAll,Act.put,List.setIfInBounds_toArray,List.set_cons_zero,List.set_cons_succ]) (hCont (v169) _ ⟨hHeld,(by (with_reducible repeat (first | apply Kd.R_alloc | apply Kd.R_drewN | apply Kd.R_drew));exact Kd.R_mono HO167.out (fun _ hk => hk.2)),(by (with_reducible repeat (first | apply Kd.R_alloc | apply Kd.R_drewN | apply Kd.R_drew));exact Kd.R_mono HO170.out (fun _ hk => hk.2)),(XR.lb BK156.out),(XR.sB HB.out)⟩)
      ·skip
       have hcv15 := own_string (P := Tryd.prog) Tryd.underlying53 Tryd.underlying5 Tryd.underlying9 (Kd.own_of_R HO170.out);refine value_ (w1 := ?_) (v := ?_) (by rfl) rfl ?_ ?_
       rotate_left 2
       ·go_simp
        constructor
        ·rfl
        ·rfl
       clear hcv15;refine hK.out _ _ (XR.c3 BK156.out) (fun hHeld => ?_);clear hK K;refine norm_ (a' := ?_) ?_ ?_
       rotate_left
       ·show Act.put _ (some 24) _ = _
        simp only [Act.put,List.setIfInBounds_toArray,List.set_cons_zero,List.set_cons_succ,i64_w,i32_w]
        rfl
       refine XR.on 3 (some 20) HT_.out (fun K hK => ?_);have hcv16 := own_string (P := Tryd.prog) Tryd.underlying53 Tryd.underlying5 Tryd.underlying9 (Kd.own_of_R HO167.out);refine value_ (w1 := ?_) (v := ?_) (by rfl) rfl ?_ ?_
       rotate_left 2
       ·go_simp
        constructor
        ·rfl
        ·rfl
       clear hcv16;refine hK.out _ _ (XR.c3 BK156.out) (fun hHeld => ?_);clear hK K;refine norm_ (a' := ?_) ?_ ?_
       rotate_left
       ·show Act.put _ (some 20) _ = _
        simp only [Act.put,List.setIfInBounds_toArray,List.set_cons_zero,List.set_cons_succ,i64_w,i32_w]
        rfl
       exact norm_ (by simp only [putAll,Act.put,List.setIfInBounds_toArray,List.set_cons_zero,List.set_cons_succ]) (hCont (v169) _ ⟨hHeld,(by (with_reducible repeat (first | apply Kd.R_alloc | apply Kd.R_drewN | apply Kd.R_drew));exact Kd.R_mono HO167.out (fun _ hk => hk.2)),(by (with_reducible repeat (first | apply Kd.R_alloc | apply Kd.R_drewN | apply Kd.R_drew));exact Kd.R_mono HO170.out (fun _ hk => hk.2)),(XR.lb BK156.out),(XR.sB HB.out)⟩)
    rintro v169 w17 ⟨hS_,h0_,h1_,h2_,h3_⟩;have n0_ : Aside0 (Kd.R (Kd.int .u8) 5 w17 w.heap.size (fun k_ => some k_ ≠ (v169 : Value).ownBlock) v166 t165) := ⟨h0_⟩;have n1_ : Aside0 (Kd.R (Kd.int .u8) 5 w17 w.heap.size (fun k_ => some k_ ≠ (v166 : Value).ownBlock) v169 t168) := ⟨h1_⟩;have n2_ : Aside0 (w17.heap[gb156]? = some (.cells #[.bool true,.int .u64 a0_1,.int .u64 a0_2] 24 (0,0))) := ⟨h2_⟩;have n3_ : Aside0 (Below w.heap.size w w17) := ⟨h3_⟩;clear BK156;clear HB;clear h0_ h1_ h2_ h3_;have HO167 := n0_;have HO170 := n1_;have BK156 := n2_;have HB := n3_;clear n0_ n1_ n2_ n3_;have hHeld : w17.cell? ⟨gb156,0,none⟩ = some (.bool true) ∧ w17.cell? ⟨gb156,1,none⟩ = some (.int .u64 a0_1) ∧ w17.cell? ⟨gb156,2,none⟩ = some (.int .u64 a0_2) := hS_;refine norm_ (a' := ?_) ?_ ?_
    rotate_left
    ·simp only [putAll,Act.put,List.setIfInBounds_toArray,List.set_cons_zero,List.set_cons_succ]
     rfl
    refine XR.pu 8 25 HT_.out ?_;refine XR.pu 9 2 HT_.out ?_;refine XR.pu 10 3 HT_.out ?_;refine done_ (done_of HT_.out (by kernel_rfl)) ?_
    try go_wp2
    go_ret2;exact XR.re HB.out
   ·rw [if_neg c7] at H;exact absurd H (by simp)
  ·replace c4 := Bool.eq_false_iff.mpr c4;subst c4;rw [if_neg (show ¬ (false = true) by decide)] at H;(try dsimp only at H);replace H := Option.bind_eq_some_iff.mp H;obtain ⟨t158,A180,H⟩ := H;replace H : (if 4 ≤ (t158.length : Int) then (some (strOfNums (t158.drop 4),0)) else (none)) = some (r1,r2) := H;have A18 := Aside0.mk A180;clear A180;by_cases c19 : 4 ≤ (t158.length : Int)
   ·rw [if_pos c19] at H;have c19b0 := eq_true c19;have c19b1 := decide_eq_true c19;clear c19;obtain ⟨y161,hy161⟩ : ∃ y_ : List Int,y_ = (t158.drop 4) := ⟨_,rfl⟩;replace H : (some (strOfNums y161,0)) = some (r1,r2) := by first | (rw [hy161];with_reducible exact H) | (have H2_ := (Option.bind_some _ _).symm.trans H;rw [hy161];with_reducible exact H2_) | (have H2_ := (Option.bind_some _ _).symm.trans H;with_reducible exact H2_) | with_reducible exact H | (rw [hy161];exact H) | exact H
    have Ny161 := Aside0.mk hy161;clear hy161;simp only [Option.some.injEq,Prod.mk.injEq] at H;obtain ⟨rfl,rfl⟩ := H;go_enter Tryd.func27,Tryd.ntmps27;go_wp2_with (first | ((with_reducible refine gate_dst (N := 1) rfl ?_);refine XR.bx 1 24 #[.bool false,.int .u64 a0_1,.int .u64 a0_2] ?_;intro gb156 hg w20 hbox hb;have BK156 := Aside0.mk (hbox);have GW156 := Aside0.mk (XR.ge hg HB.out);have GE156 := GW156;replace HB := Aside0.mk (XR.bB HB.out hb);clear hb hbox hg;obtain ⟨Y21_0,Y21_1,Y21_2⟩ := XR.c3 BK156.out;obtain ⟨Z21_0,Z21_1,Z21_2⟩ := XR.f3 BK156.out) | ((with_reducible refine gate_callee (f := 50) rfl ?_);refine XR.gL 6 Tryd.func50 #[.agg #[.bool false,.int .u64 a0_1,.int .u64 a0_2]] ?_;(with_reducible refine (addr_Valid.calls false a0_1 a0_2 true _ A2.out).mono ?_);rintro e w22 ⟨rfl,hb⟩;refine ⟨_,rfl,?_⟩;replace BK156 := Aside0.mk (XR.bb BK156.out hb);replace HB := Aside0.mk (below_step (XR.sB HB.out) hb);(try clear hb);(try clear hk);obtain ⟨Y23_0,Y23_1,Y23_2⟩ := XR.c3 BK156.out;obtain ⟨Z23_0,Z23_1,Z23_2⟩ := XR.f3 BK156.out) | ((with_reducible refine gate_callee (f := 55) rfl ?_);refine XR.gL 14 Tryd.func55 #[.int .u64 a0_2] ?_;(with_reducible refine (addr_bytes.calls k a0_2 t158 _ A18.out).mono ?_);rintro e w24 ⟨v159,rfl,ho0,hb⟩;refine ⟨_,rfl,?_⟩;have HO160 := Aside0.mk (Kd.R_lower ho0 (below_size (XR.sB HB.out)));replace BK156 := Aside0.mk (XR.bb BK156.out hb);replace HB := Aside0.mk (below_step (XR.sB HB.out) hb);(try clear hb);(try clear hk);(try clear ho0);obtain ⟨Ao26,co26,eo26⟩ := Kd.R_slice HO160.out;subst eo26;have q25 : (4 : Int) ≤ ((t158.length : Int) : Int) := XR.od;obtain ⟨i025,hi025,_,hsz25,_⟩ := info_parts info5;have hroom25 : t158.length ≤ co26 := (Kd.R_reads' HO160.out).2.1;have hC25 : Kd.C (Kd.int .u8) _ Ao26 t158.length t158 := (Kd.R_reads' HO160.out).2.2;have hcut25 := cut_from (P := Tryd.prog) 53 5 .i64 Tryd.underlying53 hi025 1 hsz25 Ao26 t158.length co26 4 (by omega) q25;have hr25 := Kd.C_drop (m := (4 : Int).toNat) (c := co26) hC25 (by omega) hroom25;obtain ⟨A25,hA25⟩ : ∃ A1,A1 = (if co26 = (4 : Int).toNat then Ao26 else (Ao26 : Option Addr).map (·.add ((4 : Int).toNat * 1))) := ⟨_,rfl⟩;obtain ⟨c25,hc25⟩ : ∃ c1,c1 = co26 - (4 : Int).toNat := ⟨_,rfl⟩;have hy25 : y161.length = t158.length - (4 : Int).toNat := (by rw [Ny161.out,List.length_drop] <;> omega);rw [show (t158).drop (4 : Int).toNat = y161 from Ny161.out.symm] at hr25;replace hr25 : Kd.C (Kd.int .u8) _ A25 y161.length y161 := (by rw [hA25];exact hr25);rw [← hy25,← hA25,← hc25] at hcut25;have HR164 := Aside0.mk hr25;have HC164 := Aside0.mk (show y161.length ≤ c25 from by rw [hy25,hc25];exact Nat.sub_le_sub_right hroom25 _);clear hr25 hC25 hroom25 hi025 hsz25 hc25;have KY25 := Aside0.mk hy25;have KA25 := Aside0.mk hA25;clear hy25 hA25;have KL25 := Aside0.mk (show 4 ≤ t158.length from by omega);replace q25 := eq_true q25;have hcv27 := Kd.C_string (P := Tryd.prog) (A := A25) (c := c25) Tryd.underlying53 Tryd.underlying5 Tryd.underlying9 (by repeat (first | (with_reducible exact HR164.out) | (with_reducible refine Kd.C_alloc ?_ _) | (with_reducible refine Kd.C_drewN ?_ _) | (with_reducible refine Kd.C_drew ?_) | exact HR164.out))));go_ret2;exact XR.re HB.out
   ·rw [if_neg c19] at H;exact absurd H (by simp)
 ·replace c3 := Bool.eq_false_iff.mpr c3;subst c3;rw [if_neg (show ¬ (false = true) by decide)] at H;(try dsimp only at H);simp only [Option.some.injEq,Prod.mk.injEq] at H;obtain ⟨rfl,rfl⟩ := H;go_enter Tryd.func27,Tryd.ntmps27;go_wp2_with (first | ((with_reducible refine gate_dst (N := 1) rfl ?_);refine XR.bx 1 24 #[.bool a0_0,.int .u64 a0_1,.int .u64 a0_2] ?_;intro gb156 hg w28 hbox hb;have BK156 := Aside0.mk (hbox);have GW156 := Aside0.mk (XR.ge hg HB.out);have GE156 := GW156;replace HB := Aside0.mk (XR.bB HB.out hb);clear hb hbox hg;obtain ⟨Y29_0,Y29_1,Y29_2⟩ := XR.c3 BK156.out;obtain ⟨Z29_0,Z29_1,Z29_2⟩ := XR.f3 BK156.out) | ((with_reducible refine gate_callee (f := 50) rfl ?_);refine XR.gL 6 Tryd.func50 #[.agg #[.bool a0_0,.int .u64 a0_1,.int .u64 a0_2]] ?_;(with_reducible refine (addr_Valid.calls a0_0 a0_1 a0_2 false _ A2.out).mono ?_);rintro e w30 ⟨rfl,hb⟩;refine ⟨_,rfl,?_⟩;replace BK156 := Aside0.mk (XR.bb BK156.out hb);replace HB := Aside0.mk (below_step (XR.sB HB.out) hb);(try clear hb);(try clear hk)));go_ret2;exact XR.re HB.out
set_option maxHeartbeats 8000000 in
set_option maxRecDepth 100000 in
theorem leasefile_text.calls (a0 : ByteArray) (r : ByteArray) (w : World) (h : leasefile_text.f a0 = some r) :
  Calls Tryd.prog 28 #[.string a0] w fun e w' => e = .returned (.string r) ∧ Below w.heap.size w w' := by
 have HB := Aside0.mk (Below.refl w.heap.size w);have H : ((some (([((a0.size : Int)) % 256] : List Int) : List Int)).bind fun y171 => (if (strOfNums y171).size + a0.size ≤ 9223372036854775807 then (some ((strOfNums y171) ++ a0)) else (none))) = some r := h;clear h;obtain ⟨y171,hy171⟩ : ∃ y_ : List Int,y_ = (([((a0.size : Int)) % 256] : List Int)) := ⟨_,rfl⟩;replace H : (if (strOfNums y171).size + a0.size ≤ 9223372036854775807 then (some ((strOfNums y171) ++ a0)) else (none)) = some r := by first | (rw [hy171];with_reducible exact H) | (have H2_ := (Option.bind_some _ _).symm.trans H;rw [hy171];with_reducible exact H2_) | (have H2_ := (Option.bind_some _ _).symm.trans H;with_reducible exact H2_) | with_reducible exact H | (rw [hy171];exact H) | exact H
 have Ny171 := Aside0.mk hy171;clear hy171;by_cases c2 : (strOfNums y171).size + a0.size ≤ 9223372036854775807
 ·rw [if_pos c2] at H;have c2b0 := eq_true c2;have c2b1 := decide_eq_true c2
  try have c2b2 : (9223372036854775807 < (strOfNums y171).size + a0.size) = False := eq_false (Nat.not_lt.2 c2)
  skip
  obtain rfl := Option.some.inj H;go_enter Tryd.func28,Tryd.ntmps28;go_wp2_with (first | ((with_reducible refine gate_dst (N := 6) rfl ?_);refine Kd.R_lit (Kd.int .u8) _ 5 ?hg (N := 6) ?hd (xs := ([((a0.size : Int)) % 256] : List Int)) (inner := [.int .u8 (((a0.size : Int)) % 256)]) (ok := fun _ => True) (okp := fun _ => True) ?hr ?hp (fun _ hk => hk) trivial (Below.refl _ _) (Nat.le_refl _) (by simp) ?_;(case hd => rfl);(case hg => rfl);(case hr => first | (go_simp;done) | (go_simp;rfl));(case hp => exact (Reps.one (show Kd.M (Kd.int .u8) _ _ _ (((a0.size : Int)) % 256) [.int .u8 (((a0.size : Int)) % 256)] from rfl) (Reps.none _ _)));intro v172 w3 ho4 hb hg_ hnew_;clear hg_ hnew_;(first | rw [← Ny171.out] at ho4 | (simp only [Int.reduceToNat] at ho4;rw [← Ny171.out] at ho4));have HO173 := Aside0.mk (Kd.R_lower ho4 (below_size (XR.lB HB.out)));replace HB := Aside0.mk (XR.bB HB.out hb);clear hb ho4;have hcv5 := own_string (P := Tryd.prog) Tryd.underlying53 Tryd.underlying5 Tryd.underlying9 (Kd.own_of_R HO173.out)));go_ret;exact XR.re HB.out
 ·rw [if_neg c2] at H;exact absurd H (by simp)
set_option maxHeartbeats 8000000 in
set_option maxRecDepth 100000 in
theorem leasefile_four.calls (a0 : Int) (r : ByteArray) (w : World) (h : leasefile_four.f a0 = some r) :
  Calls Tryd.prog 29 #[.int .i64 a0] w fun e w' => e = .returned (.string r) ∧ Below w.heap.size w w' := by
 have HB := Aside0.mk (Below.refl w.heap.size w);have H : (some (strOfNums (([(a0 / 16777216) % 256,(a0 / 65536) % 256,(a0 / 256) % 256,(a0) % 256] : List Int)))) = some r := h;clear h;obtain ⟨y174,hy174⟩ : ∃ y_ : List Int,y_ = (([(a0 / 16777216) % 256,(a0 / 65536) % 256,(a0 / 256) % 256,(a0) % 256] : List Int)) := ⟨_,rfl⟩;replace H : (some (strOfNums y174)) = some r := by first | (rw [hy174];with_reducible exact H) | (have H2_ := (Option.bind_some _ _).symm.trans H;rw [hy174];with_reducible exact H2_) | (have H2_ := (Option.bind_some _ _).symm.trans H;with_reducible exact H2_) | with_reducible exact H | (rw [hy174];exact H) | exact H
 have Ny174 := Aside0.mk hy174;clear hy174;obtain rfl := Option.some.inj H;go_enter Tryd.func29,Tryd.ntmps29;go_wp2_with (first | ((with_reducible refine gate_dst (N := 14) rfl ?_);refine Kd.R_lit (Kd.int .u8) _ 5 ?hg (N := 14) ?hd (xs := ([(a0 / 16777216) % 256,(a0 / 65536) % 256,(a0 / 256) % 256,(a0) % 256] : List Int)) (inner := [.int .u8 ((a0 / 16777216) % 256),.int .u8 ((a0 / 65536) % 256),.int .u8 ((a0 / 256) % 256),.int .u8 ((a0) % 256)]) (ok := fun _ => True) (okp := fun _ => True) ?hr ?hp (fun _ hk => hk) trivial (Below.refl _ _) (Nat.le_refl _) (by simp) ?_;(case hd => rfl);(case hg => rfl);(case hr => first | (go_simp;done) | (go_simp;rfl));(case hp => exact (Reps.one (show Kd.M (Kd.int .u8) _ _ _ ((a0 / 16777216) % 256) [.int .u8 ((a0 / 16777216) % 256)] from rfl) (Reps.one (show Kd.M (Kd.int .u8) _ _ _ ((a0 / 65536) % 256) [.int .u8 ((a0 / 65536) % 256)] from rfl) (Reps.one (show Kd.M (Kd.int .u8) _ _ _ ((a0 / 256) % 256) [.int .u8 ((a0 / 256) % 256)] from rfl) (Reps.one (show Kd.M (Kd.int .u8) _ _ _ ((a0) % 256) [.int .u8 ((a0) % 256)] from rfl) (Reps.none _ _))))));intro v175 w2 ho3 hb hg_ hnew_;clear hg_ hnew_;(first | rw [← Ny174.out] at ho3 | (simp only [Int.reduceToNat] at ho3;rw [← Ny174.out] at ho3));have HO176 := Aside0.mk (Kd.R_lower ho3 (below_size (XR.lB HB.out)));replace HB := Aside0.mk (XR.bB HB.out hb);clear hb ho3;have hcv4 := own_string (P := Tryd.prog) Tryd.underlying53 Tryd.underlying5 Tryd.underlying9 (Kd.own_of_R HO176.out)));go_ret;exact XR.re HB.out
end Go.Proofs.YtikhpegamnnabaaDoor.QA
