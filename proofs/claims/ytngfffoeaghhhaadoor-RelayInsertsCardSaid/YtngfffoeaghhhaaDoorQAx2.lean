import Derived.Test.YtngfffoeaghhhaaDoorQAd1
import Derived.Test.YtngfffoeaghhhaaDoorQAx0
import Derived.Test.YtngfffoeaghhhaaDoorQAx7
import Derived.Test.YtngfffoeaghhhaaDoorQAx1
namespace Go.Proofs.YtngfffoeaghhhaaDoor.QA
open Go.RowKit Go.Proofs.YtngfffoeaghhhaaDoorW.PrintWords Go.Proofs.YtngfffoeaghhhaaDoorW.PrintLast Go.Proofs.YtngfffoeaghhhaaDoorW.PrintMore
attribute [local go_sem] max2_int min2_int max_two min_two max_three min_three max_four min_four
attribute [local go_sem high] Go.Proofs.YtngfffoeaghhhaaDoor.XW.cell_setCell_lit
set_option linter.unusedVariables false
set_option linter.unusedSimpArgs false
set_option maxHeartbeats 8000000 in
set_option maxRecDepth 100000 in
theorem prefix_length.calls (a0_0 : Bool) (a0_1 : Int) (a0_2 : Int) (r : Int) (w : World) (h : prefix_length.f a0_0 a0_1 a0_2 = some r) :
  Calls Tryd.prog 55 #[.agg #[.bool a0_0,.int .u64 a0_1,.int .u64 a0_2]] w fun e w' => e = .returned (.int .i64 r) ∧ Below w.heap.size w w' := by
 have hu24 := Tryd.underlying24;have HB := Aside0.mk (Below.refl w.heap.size w);have H : (if a0_0 = true then (some 128) else (some 32)) = some r := h;clear h;by_cases c2 : a0_0 = true
 ·subst c2;rw [if_pos rfl] at H;(try dsimp only at H);obtain rfl := Option.some.inj H;go_enter Tryd.func55,Tryd.ntmps55;go_wp2_with (first | ((with_reducible refine gate_dst (N := 1) rfl ?_);refine XR.bx 1 24 #[.bool true,.int .u64 a0_1,.int .u64 a0_2] ?_;intro gb201 hg w3 hbox hb;have BK201 := Aside0.mk (hbox);have GW201 := Aside0.mk (XR.ge hg HB.out);have GE201 := GW201;replace HB := Aside0.mk (XR.bB HB.out hb);clear hb hbox hg;obtain ⟨Y4_0,Y4_1,Y4_2⟩ := XR.c3 BK201.out;obtain ⟨Z4_0,Z4_1,Z4_2⟩ := XR.f3 BK201.out));go_ret;exact XR.re HB.out
 ·replace c2 := Bool.eq_false_iff.mpr c2;subst c2;rw [if_neg (show ¬ (false = true) by decide)] at H;(try dsimp only at H);obtain rfl := Option.some.inj H;go_enter Tryd.func55,Tryd.ntmps55;go_wp2_with (first | ((with_reducible refine gate_dst (N := 1) rfl ?_);refine XR.bx 1 24 #[.bool false,.int .u64 a0_1,.int .u64 a0_2] ?_;intro gb201 hg w5 hbox hb;have BK201 := Aside0.mk (hbox);have GW201 := Aside0.mk (XR.ge hg HB.out);have GE201 := GW201;replace HB := Aside0.mk (XR.bB HB.out hb);clear hb hbox hg;obtain ⟨Y6_0,Y6_1,Y6_2⟩ := XR.c3 BK201.out;obtain ⟨Z6_0,Z6_1,Z6_2⟩ := XR.f3 BK201.out));go_ret;exact XR.re HB.out
set_option maxHeartbeats 8000000 in
set_option maxRecDepth 100000 in
theorem prefix_later.calls (a0 : Bool) (a1 : Int) (r1 : Int) (r2 : Int) (w : World) (h : prefix_later.f a0 a1 = some (r1,r2)) :
  Calls Tryd.prog 56 #[.bool a0,.int .i64 a1] w fun e w' => e = .returned (.tuple #[.int .u64 r1,.int .u64 r2]) ∧ Drawn0 w w' := by
 have H : (if a0 = true then (if a1 ≥ 64 then (if 0 ≤ (IntKind.u64.wrap (wrap64 (128 - a1))) then (some (0,IntKind.u64.wrap ((shl .u64 1 (IntKind.u64.wrap (wrap64 (128 - a1)))) - 1))) else (none)) else (if 0 ≤ (IntKind.u64.wrap (wrap64 (64 - a1))) then (some (IntKind.u64.wrap ((shl .u64 1 (IntKind.u64.wrap (wrap64 (64 - a1)))) - 1),18446744073709551615)) else (none))) else (if 0 ≤ (IntKind.u64.wrap (wrap64 (32 - a1))) then (some (0,IntKind.u64.wrap ((shl .u64 1 (IntKind.u64.wrap (wrap64 (32 - a1)))) - 1))) else (none))) = some (r1,r2) := h;clear h;by_cases c3 : a0 = true
 ·subst c3;rw [if_pos rfl] at H;(try dsimp only at H);by_cases c4 : a1 ≥ 64
  ·rw [if_pos c4] at H;have c4b0 := decide_eq_true c4;clear c4;obtain ⟨ji5,hji5⟩ : ∃ j_ : Int,(IntKind.u64.wrap (wrap64 (128 - a1))) = j_ := ⟨_,rfl⟩;replace H : (if 0 ≤ (ji5) then (some (0,IntKind.u64.wrap ((shl .u64 1 (ji5)) - 1))) else (none)) = some (r1,r2) := by first | (rw [hji5] at H;exact H) | (simp only [hji5] at H ⊢;exact H)
   by_cases c6 : 0 ≤ (ji5)
   ·rw [if_pos c6] at H;have c6b0 := eq_true c6;have c6b1 := decide_eq_true c6;clear c6;obtain ⟨ji7,hji7⟩ : ∃ j_ : Int,(shl .u64 1 (ji5)) = j_ := ⟨_,rfl⟩;replace H : (some (0,IntKind.u64.wrap ((ji7) - 1))) = some (r1,r2) := by first | (rw [hji7] at H;exact H) | (simp only [hji7] at H ⊢;exact H)
    have hji7_ : (IntKind.u64.wrap (1 * 2 ^ min (ji5).toNat 64)) = ji7 := hji7;have hji7z : (ji5) ≤ 64 → (IntKind.u64.wrap (1 * 2 ^ (ji5).toNat)) = ji7 := shl_small hji7;have hji7u : (IntKind.u64.wrap (2 ^ min (ji5).toNat 64)) = ji7 := by have h_ := hji7_;rw [Int.one_mul] at h_;exact h_
    have hji7v : (ji5) ≤ 64 → (IntKind.u64.wrap (2 ^ (ji5).toNat)) = ji7 := fun hle_ => by have h_ := hji7z hle_;rw [Int.one_mul] at h_;exact h_
    simp only [Option.some.injEq,Prod.mk.injEq] at H;obtain ⟨rfl,rfl⟩ := H;go_enter Tryd.func56,Tryd.ntmps56;go_wp2;go_ret2;exact ⟨by first | rfl | (simp;done) | (simp only [← hji5,← hji7] <;> (first | rfl | simp)) | (simp [*];done),by repeat (first | exact Drawn0.refl _ | apply Drawn0.step)⟩
   ·rw [if_neg c6] at H;exact absurd H (by simp)
  ·rw [if_neg c4] at H;have c4b0 := decide_eq_false c4;clear c4;obtain ⟨ji8,hji8⟩ : ∃ j_ : Int,(IntKind.u64.wrap (wrap64 (64 - a1))) = j_ := ⟨_,rfl⟩;replace H : (if 0 ≤ (ji8) then (some (IntKind.u64.wrap ((shl .u64 1 (ji8)) - 1),18446744073709551615)) else (none)) = some (r1,r2) := by first | (rw [hji8] at H;exact H) | (simp only [hji8] at H ⊢;exact H)
   by_cases c9 : 0 ≤ (ji8)
   ·rw [if_pos c9] at H;have c9b0 := eq_true c9;have c9b1 := decide_eq_true c9;clear c9;obtain ⟨ji10,hji10⟩ : ∃ j_ : Int,(shl .u64 1 (ji8)) = j_ := ⟨_,rfl⟩;replace H : (some (IntKind.u64.wrap ((ji10) - 1),18446744073709551615)) = some (r1,r2) := by first | (rw [hji10] at H;exact H) | (simp only [hji10] at H ⊢;exact H)
    have hji10_ : (IntKind.u64.wrap (1 * 2 ^ min (ji8).toNat 64)) = ji10 := hji10;have hji10z : (ji8) ≤ 64 → (IntKind.u64.wrap (1 * 2 ^ (ji8).toNat)) = ji10 := shl_small hji10;have hji10u : (IntKind.u64.wrap (2 ^ min (ji8).toNat 64)) = ji10 := by have h_ := hji10_;rw [Int.one_mul] at h_;exact h_
    have hji10v : (ji8) ≤ 64 → (IntKind.u64.wrap (2 ^ (ji8).toNat)) = ji10 := fun hle_ => by have h_ := hji10z hle_;rw [Int.one_mul] at h_;exact h_
    simp only [Option.some.injEq,Prod.mk.injEq] at H;obtain ⟨rfl,rfl⟩ := H;go_enter Tryd.func56,Tryd.ntmps56;go_wp2;go_ret2;exact ⟨by first | rfl | (simp;done) | (simp only [← hji8,← hji10] <;> (first | rfl | simp)) | (simp [*];done),by repeat (first | exact Drawn0.refl _ | apply Drawn0.step)⟩
   ·rw [if_neg c9] at H;exact absurd H (by simp)
 ·replace c3 := Bool.eq_false_iff.mpr c3;subst c3;rw [if_neg (show ¬ (false = true) by decide)] at H;(try dsimp only at H);obtain ⟨ji11,hji11⟩ : ∃ j_ : Int,(IntKind.u64.wrap (wrap64 (32 - a1))) = j_ := ⟨_,rfl⟩;replace H : (if 0 ≤ (ji11) then (some (0,IntKind.u64.wrap ((shl .u64 1 (ji11)) - 1))) else (none)) = some (r1,r2) := by first | (rw [hji11] at H;exact H) | (simp only [hji11] at H ⊢;exact H)
  by_cases c12 : 0 ≤ (ji11)
  ·rw [if_pos c12] at H;have c12b0 := eq_true c12;have c12b1 := decide_eq_true c12;clear c12;obtain ⟨ji13,hji13⟩ : ∃ j_ : Int,(shl .u64 1 (ji11)) = j_ := ⟨_,rfl⟩;replace H : (some (0,IntKind.u64.wrap ((ji13) - 1))) = some (r1,r2) := by first | (rw [hji13] at H;exact H) | (simp only [hji13] at H ⊢;exact H)
   have hji13_ : (IntKind.u64.wrap (1 * 2 ^ min (ji11).toNat 64)) = ji13 := hji13;have hji13z : (ji11) ≤ 64 → (IntKind.u64.wrap (1 * 2 ^ (ji11).toNat)) = ji13 := shl_small hji13;have hji13u : (IntKind.u64.wrap (2 ^ min (ji11).toNat 64)) = ji13 := by have h_ := hji13_;rw [Int.one_mul] at h_;exact h_
   have hji13v : (ji11) ≤ 64 → (IntKind.u64.wrap (2 ^ (ji11).toNat)) = ji13 := fun hle_ => by have h_ := hji13z hle_;rw [Int.one_mul] at h_;exact h_
   simp only [Option.some.injEq,Prod.mk.injEq] at H;obtain ⟨rfl,rfl⟩ := H;go_enter Tryd.func56,Tryd.ntmps56;go_wp2;go_ret2;exact ⟨by first | rfl | (simp;done) | (simp only [← hji11,← hji13] <;> (first | rfl | simp)) | (simp [*];done),by repeat (first | exact Drawn0.refl _ | apply Drawn0.step)⟩
  ·rw [if_neg c12] at H;exact absurd H (by simp)
end Go.Proofs.YtngfffoeaghhhaaDoor.QA
namespace Go.Proofs.YtngfffoeaghhhaaDoor.QA
open Go.RowKit Go.Proofs.YtngfffoeaghhhaaDoorW.PrintWords Go.Proofs.YtngfffoeaghhhaaDoorW.PrintLast Go.Proofs.YtngfffoeaghhhaaDoorW.PrintMore
attribute [local go_sem] max2_int min2_int max_two min_two max_three min_three max_four min_four
attribute [local go_sem high] Go.Proofs.YtngfffoeaghhhaaDoor.XW.cell_setCell_lit
set_option linter.unusedVariables false
set_option linter.unusedSimpArgs false
def prefix_Valid.T1 : Bool × List (List Nat × List Nat) := (true,[([],[]),([0],[0]),([1],[1]),([2],[2]),([3,2],[3]),([4],[4]),([5,4],[4,5]),([6,4],[4,6]),([4,7],[4,7]),([8,4],[8]),([9],[9]),([10,9],[9,10]),([9],[9]),([12,9],[9,12]),([13,9,9],[9,13]),([11,14,9],[9,11,14]),([9,15],[9,15])])
def prefix_Valid.B1 : List Nat := [0,1,3,7,15,31,63,127,255,511,1023,2047,1023,5119,13311,32767,65535]
theorem prefix_Valid.tab1 : rtab .any (opsOf Tryd.f39 1) = prefix_Valid.T1 := by kernel_rfl
theorem prefix_Valid.bits1 : waitsOk prefix_Valid.T1.2 prefix_Valid.B1 = true := by kernel_rfl
set_option maxHeartbeats 8000000 in
set_option maxRecDepth 100000 in
theorem prefix_Valid.calls (k : Nat) (a0_0 : Bool) (a0_1 : Int) (a0_2 : Int) (a0_3 : Int) (r : Bool) (w : World) (h : prefix_Valid.f k a0_0 a0_1 a0_2 a0_3 = some r) :
  Calls Tryd.prog 39 #[.agg #[.bool a0_0,.int .u64 a0_1,.int .u64 a0_2,.int .i64 a0_3]] w fun e w' => e = .returned (.bool r) ∧ Below w.heap.size w w' := by
 have hu45 := Tryd.underlying45;have hu24 := Tryd.underlying24;have HB := Aside0.mk (Below.refl w.heap.size w);have H : ((addr_Valid.f a0_0 a0_1 a0_2).bind fun t203 => (if t203 = true then (if a0_3 < 0 then (prefix_Valid.j0 k true a0_0 a0_1 a0_2 a0_3) else ((prefix_length.f a0_0 a0_1 a0_2).bind fun t204 => (prefix_Valid.j0 k (decide (a0_3 > t204)) a0_0 a0_1 a0_2 a0_3))) else (prefix_Valid.j0 k true a0_0 a0_1 a0_2 a0_3))) = some r := h;clear h;have HC2 := Aside0.mk H;clear H;go_enter Tryd.func39,Tryd.ntmps39;go_upto_region 1 with (first | ((with_reducible refine gate_dst (N := 1) rfl ?_);refine XR.bx 1 45 #[.bool a0_0,.int .u64 a0_1,.int .u64 a0_2,.int .i64 a0_3] ?_;intro gb202 hg w3 hbox hb;have BK202 := Aside0.mk (hbox);have GW202 := Aside0.mk (XR.ge hg HB.out);have GE202 := GW202;replace HB := Aside0.mk (XR.bB HB.out hb);clear hb hbox hg));(try simp only [Act.put,List.setIfInBounds_toArray,List.set_cons_zero,List.set_cons_succ]);go_cut [21] (fun v21 wc => ∃ (kq : Nat) (x21_1 : Bool),v21 = .bool x21_1 ∧ Aside0 (prefix_Valid.j0 kq x21_1 a0_0 a0_1 a0_2 a0_3 = some r) ∧ Aside0 (kq ≤ k) ∧ Aside0 (wc.heap[gb202]? = some (.cells #[.bool a0_0,.int .u64 a0_1,.int .u64 a0_2,.int .i64 a0_3] 45 (0,0))) ∧ Aside0 (Below w.heap.size w wc))
 case first =>
  have H := HC2.out;clear HC2;replace H := Option.bind_eq_some_iff.mp H;obtain ⟨t203,A40,H⟩ := H;(try dsimp only at H);have A4 := Aside0.mk A40;clear A40;by_cases c5 : t203 = true
  ·subst c5;rw [if_pos rfl] at H;(try dsimp only at H);by_cases c6 : a0_3 < 0
   ·rw [if_pos c6] at H;have c6b0 := decide_eq_true c6;clear c6;(first | rw [c6b0] | (simp only [i64_w,i32_w];rw [c6b0]) | skip);have H' := Aside0.mk H;clear H
    try go_wp2
    replace BK202 := Aside0.mk (blk_drew BK202.out);replace HB := Aside0.mk (below_drew1 HB.out);refine start_ (n := 17) (S := fun w' => w'.cell? ⟨gb202,0,none⟩ = some (.bool a0_0) ∧ w'.cell? ⟨gb202,1,none⟩ = some (.int .u64 a0_1) ∧ w'.cell? ⟨gb202,2,none⟩ = some (.int .u64 a0_2) ∧ w'.cell? ⟨gb202,3,none⟩ = some (.int .i64 a0_3)) (ds := []) #[false,false,false,false,false,false,false,false,false,false,false,false,false,false,false,false,false] (by kernel_rfl) rfl rfl (XR.c4 BK202.out) (fun hHeld => ?_);refine with_tabW prefix_Valid.tab1 prefix_Valid.bits1 (fun HT_ HW_ => ?_);generalize w3.drew = w7 at BK202 HB hHeld ⊢;refine XR.pu 0 5 HT_.out ?_;refine XR.ta 1 6 HT_.out HW_.out hHeld ?_;refine XR.on 2 (some 7) HT_.out (fun K hK => ?_);refine XR.gO Tryd.func27 #[.agg #[.bool a0_0,.int .u64 a0_1,.int .u64 a0_2]] ?_
    with_reducible refine (addr_Valid.calls a0_0 a0_1 a0_2 true _ A4.out).mono ?_
    rintro e w8 ⟨rfl,hb⟩;refine ⟨_,rfl,?_⟩;replace BK202 := Aside0.mk (XR.bb BK202.out hb);replace HB := Aside0.mk (below_step (XR.sB HB.out) hb);(try clear hb);(try clear hb2);(try clear hk);(try clear hi);refine hK.out _ _ (XR.c4 BK202.out) (fun hHeld => ?_);clear hK K;refine norm_ (a' := ?_) ?_ ?_
    rotate_left
    ·show Act.put _ (some 7) _ = _
     simp only [Act.put,List.setIfInBounds_toArray,List.set_cons_zero,List.set_cons_succ,i64_w,i32_w]
     rfl
    refine XR.pu 3 8 HT_.out ?_;refine XR.pu 4 9 HT_.out ?_;refine XR.pu 5 10 HT_.out ?_;refine XR.ta 6 11 HT_.out HW_.out hHeld ?_;refine XR.pu 7 12 HT_.out ?_;refine XR.pu 8 13 HT_.out ?_;refine XR.pu 9 14 HT_.out ?_;refine XR.pn 10 15 HT_.out ?_;refine XR.pn 11 16 HT_.out ?_;refine XR.pn 12 17 HT_.out ?_;refine XR.pn 13 18 HT_.out ?_;refine XR.pn 14 19 HT_.out ?_;refine XR.pn 15 20 HT_.out ?_;refine XR.pu 16 21 HT_.out ?_;refine done_ (done_of HT_.out (by kernel_rfl)) ?_
    try go_wp2
    first | go_meet | ((refine Met.intro ?_);go_step;(try simp only [c6b0]);(repeat apply Exists.intro);refine ⟨?rel,rfl⟩)
    case rel => exact ⟨_,(true),XR.rf,(by first | exact H' | (have h_ := H';simp only [c6b0] at h_;exact h_)),XR.om,(XR.fb BK202.out),⟨XR.sB HB.out⟩⟩
   ·rw [if_neg c6] at H;have c6b0 := decide_eq_false c6;clear c6;(first | rw [c6b0] | (simp only [i64_w,i32_w];rw [c6b0]) | skip);replace H := Option.bind_eq_some_iff.mp H;obtain ⟨t204,A90,H⟩ := H;replace H : (prefix_Valid.j0 k (decide (a0_3 > t204)) a0_0 a0_1 a0_2 a0_3) = some r := H;have A9 := Aside0.mk A90;clear A90;have H' := Aside0.mk H;clear H
    try go_wp2
    replace BK202 := Aside0.mk (blk_drew BK202.out);replace HB := Aside0.mk (below_drew1 HB.out);refine start_ (n := 17) (S := fun w' => w'.cell? ⟨gb202,0,none⟩ = some (.bool a0_0) ∧ w'.cell? ⟨gb202,1,none⟩ = some (.int .u64 a0_1) ∧ w'.cell? ⟨gb202,2,none⟩ = some (.int .u64 a0_2) ∧ w'.cell? ⟨gb202,3,none⟩ = some (.int .i64 a0_3)) (ds := []) #[false,false,false,false,false,false,false,false,false,false,false,false,false,false,false,false,false] (by kernel_rfl) rfl rfl (XR.c4 BK202.out) (fun hHeld => ?_);refine with_tabW prefix_Valid.tab1 prefix_Valid.bits1 (fun HT_ HW_ => ?_);generalize w3.drew = w10 at BK202 HB hHeld ⊢;refine XR.pu 0 5 HT_.out ?_;refine XR.ta 1 6 HT_.out HW_.out hHeld ?_;refine XR.on 2 (some 7) HT_.out (fun K hK => ?_);refine XR.gO Tryd.func27 #[.agg #[.bool a0_0,.int .u64 a0_1,.int .u64 a0_2]] ?_
    with_reducible refine (addr_Valid.calls a0_0 a0_1 a0_2 true _ A4.out).mono ?_
    rintro e w11 ⟨rfl,hb⟩;refine ⟨_,rfl,?_⟩;replace BK202 := Aside0.mk (XR.bb BK202.out hb);replace HB := Aside0.mk (below_step (XR.sB HB.out) hb);(try clear hb);(try clear hb2);(try clear hk);(try clear hi);refine hK.out _ _ (XR.c4 BK202.out) (fun hHeld => ?_);clear hK K;refine norm_ (a' := ?_) ?_ ?_
    rotate_left
    ·show Act.put _ (some 7) _ = _
     simp only [Act.put,List.setIfInBounds_toArray,List.set_cons_zero,List.set_cons_succ,i64_w,i32_w]
     rfl
    refine XR.pu 3 8 HT_.out ?_;refine XR.pu 4 9 HT_.out ?_;refine XR.pu 5 10 HT_.out ?_;refine XR.ta 6 11 HT_.out HW_.out hHeld ?_;refine XR.pu 7 12 HT_.out ?_;refine XR.pu 8 13 HT_.out ?_;refine XR.pu 9 14 HT_.out ?_;refine XR.pu 10 15 HT_.out ?_;refine XR.pu 12 17 HT_.out ?_;refine XR.ta 11 16 HT_.out HW_.out hHeld ?_;refine XR.ta 13 18 HT_.out HW_.out hHeld ?_;refine XR.on 14 (some 19) HT_.out (fun K hK => ?_);refine XR.gO Tryd.func55 #[.agg #[.bool a0_0,.int .u64 a0_1,.int .u64 a0_2]] ?_
    with_reducible refine (prefix_length.calls a0_0 a0_1 a0_2 t204 _ A9.out).mono ?_
    rintro e w12 ⟨rfl,hb⟩;refine ⟨_,rfl,?_⟩;replace BK202 := Aside0.mk (XR.bb BK202.out hb);replace HB := Aside0.mk (below_step (XR.sB HB.out) hb);(try clear hb);(try clear hb2);(try clear hk);(try clear hi);refine hK.out _ _ (XR.c4 BK202.out) (fun hHeld => ?_);clear hK K;refine norm_ (a' := ?_) ?_ ?_
    rotate_left
    ·show Act.put _ (some 19) _ = _
     simp only [Act.put,List.setIfInBounds_toArray,List.set_cons_zero,List.set_cons_succ,i64_w,i32_w]
     rfl
    refine XR.pu 15 20 HT_.out ?_;refine XR.pu 16 21 HT_.out ?_;refine done_ (done_of HT_.out (by kernel_rfl)) ?_
    try go_wp2
    first | go_meet | ((refine Met.intro ?_);go_step;(try simp only [c6b0]);(repeat apply Exists.intro);refine ⟨?rel,rfl⟩)
    case rel => exact ⟨_,(decide (a0_3 > t204)),XR.rf,(by first | exact H' | (have h_ := H';simp only [c6b0] at h_;exact h_)),XR.om,(XR.fb BK202.out),⟨XR.sB HB.out⟩⟩
  ·replace c5 := Bool.eq_false_iff.mpr c5;subst c5;rw [if_neg (show ¬ (false = true) by decide)] at H;(try dsimp only at H);have H' := Aside0.mk H;clear H
   try go_wp2
   replace BK202 := Aside0.mk (blk_drew BK202.out);replace HB := Aside0.mk (below_drew1 HB.out);refine start_ (n := 17) (S := fun w' => w'.cell? ⟨gb202,0,none⟩ = some (.bool a0_0) ∧ w'.cell? ⟨gb202,1,none⟩ = some (.int .u64 a0_1) ∧ w'.cell? ⟨gb202,2,none⟩ = some (.int .u64 a0_2) ∧ w'.cell? ⟨gb202,3,none⟩ = some (.int .i64 a0_3)) (ds := []) #[false,false,false,false,false,false,false,false,false,false,false,false,false,false,false,false,false] (by kernel_rfl) rfl rfl (XR.c4 BK202.out) (fun hHeld => ?_);refine with_tabW prefix_Valid.tab1 prefix_Valid.bits1 (fun HT_ HW_ => ?_);generalize w3.drew = w13 at BK202 HB hHeld ⊢;refine XR.pu 0 5 HT_.out ?_;refine XR.ta 1 6 HT_.out HW_.out hHeld ?_;refine XR.on 2 (some 7) HT_.out (fun K hK => ?_);refine XR.gO Tryd.func27 #[.agg #[.bool a0_0,.int .u64 a0_1,.int .u64 a0_2]] ?_
   with_reducible refine (addr_Valid.calls a0_0 a0_1 a0_2 false _ A4.out).mono ?_
   rintro e w14 ⟨rfl,hb⟩;refine ⟨_,rfl,?_⟩;replace BK202 := Aside0.mk (XR.bb BK202.out hb);replace HB := Aside0.mk (below_step (XR.sB HB.out) hb);(try clear hb);(try clear hb2);(try clear hk);(try clear hi);refine hK.out _ _ (XR.c4 BK202.out) (fun hHeld => ?_);clear hK K;refine norm_ (a' := ?_) ?_ ?_
   rotate_left
   ·show Act.put _ (some 7) _ = _
    simp only [Act.put,List.setIfInBounds_toArray,List.set_cons_zero,List.set_cons_succ,i64_w,i32_w]
    rfl
   refine XR.pu 3 8 HT_.out ?_;refine XR.pu 4 9 HT_.out ?_;refine XR.pn 5 10 HT_.out ?_;refine XR.pn 6 11 HT_.out ?_;refine XR.pn 7 12 HT_.out ?_;refine XR.pu 8 13 HT_.out ?_;refine XR.pu 9 14 HT_.out ?_;refine XR.pn 10 15 HT_.out ?_;refine XR.pn 11 16 HT_.out ?_;refine XR.pn 12 17 HT_.out ?_;refine XR.pn 13 18 HT_.out ?_;refine XR.pn 14 19 HT_.out ?_;refine XR.pn 15 20 HT_.out ?_;refine XR.pu 16 21 HT_.out ?_;refine done_ (done_of HT_.out (by kernel_rfl)) ?_
   try go_wp2
   go_meet
   case rel => exact ⟨_,(true),XR.rf,H',XR.om,(XR.fb BK202.out),⟨XR.sB HB.out⟩⟩
 case rest =>
  clear HC2;(try clear c2);(try clear p2);(try clear c3);(try clear c5);(try clear c6);(try clear c6b0);obtain ⟨kq,x21_1,rfl,HA,HJ1,BK202,HB⟩ := hcut
  cases kq with
  | zero => exact absurd HA.out (by simp [prefix_Valid.j0])
  | succ kj1 =>
   have H := HA.out;clear HA;simp only [prefix_Valid.j0] at H;by_cases c15 : x21_1 = true
   ·subst c15;rw [if_pos rfl] at H;(try dsimp only at H);obtain rfl := Option.some.inj H;go_wp2;go_ret;exact XR.re HB.out
   ·replace c15 := Bool.eq_false_iff.mpr c15;subst c15;rw [if_neg (show ¬ (false = true) by decide)] at H;(try dsimp only at H);replace H := Option.bind_eq_some_iff.mp H;obtain ⟨⟨t205,t206⟩,A160,H⟩ := H;(try dsimp only at H);have A16 := Aside0.mk A160;clear A160;by_cases c17 : (Go.bits .and .u64 a0_1 t205) = 0
    ·rw [if_pos c17] at H;have c17b0 := beq_iff_eq.mpr c17;have c17b1 := bne_eq_false_iff_eq.mpr c17;clear c17;obtain rfl := Option.some.inj H;obtain ⟨Y18_0,Y18_1,Y18_2,Y18_3⟩ := XR.c4 BK202.out;obtain ⟨Z18_0,Z18_1,Z18_2,Z18_3⟩ := XR.f4 BK202.out;go_wp2_with (first | ((with_reducible refine gate_callee (f := 56) rfl ?_);refine XR.gL 28 Tryd.func56 #[.bool a0_0,.int .i64 a0_3] ?_;(with_reducible refine (prefix_later.calls a0_0 a0_3 t205 t206 _ A16.out).mono ?_);rintro e w' ⟨rfl,⟨nd,rfl⟩⟩;refine ⟨_,rfl,?_⟩));go_ret;exact XR.re HB.out
    ·rw [if_neg c17] at H;have c17b0 := beq_eq_false_iff_ne.mpr c17;have c17b1 := bne_iff_ne.mpr c17;obtain rfl := Option.some.inj H;obtain ⟨Y19_0,Y19_1,Y19_2,Y19_3⟩ := XR.c4 BK202.out;obtain ⟨Z19_0,Z19_1,Z19_2,Z19_3⟩ := XR.f4 BK202.out;go_wp2_with (first | ((with_reducible refine gate_callee (f := 56) rfl ?_);refine XR.gL 28 Tryd.func56 #[.bool a0_0,.int .i64 a0_3] ?_;(with_reducible refine (prefix_later.calls a0_0 a0_3 t205 t206 _ A16.out).mono ?_);rintro e w' ⟨rfl,⟨nd,rfl⟩⟩;refine ⟨_,rfl,?_⟩));go_ret;exact XR.re HB.out
end Go.Proofs.YtngfffoeaghhhaaDoor.QA
namespace Go.Proofs.YtngfffoeaghhhaaDoor.QA
open Go.RowKit Go.Proofs.YtngfffoeaghhhaaDoorW.PrintWords Go.Proofs.YtngfffoeaghhhaaDoorW.PrintLast Go.Proofs.YtngfffoeaghhhaaDoorW.PrintMore
attribute [local go_sem] max2_int min2_int max_two min_two max_three min_three max_four min_four
attribute [local go_sem high] Go.Proofs.YtngfffoeaghhhaaDoor.XW.cell_setCell_lit
set_option linter.unusedVariables false
set_option linter.unusedSimpArgs false
theorem eqA45 (d : Nat) (w : World) (x0 y0 : Bool) (x1 y1 : Int) (x2 y2 : Int) (x3 y3 : Int) :
  (Op.equalIn (d + 3) 45 (.agg #[.bool x0,.int .u64 x1,.int .u64 x2,.int .i64 x3]) (.agg #[.bool y0,.int .u64 y1,.int .u64 y2,.int .i64 y3])).run Tryd.prog w = .ok ((x0 == y0 && (x1 == y1 && (x2 == y2))) && (x3 == y3)) w := by
 refine eqA_of Tryd.underlying45 (by kernel_rfl) ?_;refine eqf_cons (by rfl) (by go_simp) (by go_simp) (eqA24 (d + 0) w _ _ _ _ _ _) ?_;exact eqf_last (by rfl) (by go_simp;rfl) (by go_simp;rfl) (by go_simp)
end Go.Proofs.YtngfffoeaghhhaaDoor.QA
