import Derived.Test.YthjngcjhjnigjaaQAd1
import Derived.Test.YthjngcjhjnigjaaQAx0
import Derived.Test.YthjngcjhjnigjaaXF
namespace Go.Proofs.Ythjngcjhjnigjaa.QA
open Go.RowKit Go.Proofs.YthjngcjhjnigjaaW.PrintWords Go.Proofs.YthjngcjhjnigjaaW.PrintLast Go.Proofs.YthjngcjhjnigjaaW.PrintMore
attribute [local go_sem] max2_int min2_int max_two min_two max_three min_three max_four min_four
attribute [local go_sem high] Go.Proofs.Ythjngcjhjnigjaa.XW.cell_setCell_lit
set_option linter.unusedVariables false
set_option linter.unusedSimpArgs false
set_option maxHeartbeats 8000000 in
set_option maxRecDepth 100000 in
theorem addr_Valid.calls (a0_0 : Bool) (a0_1 : Int) (a0_2 : Int) (r : Bool) (w : World) (h : addr_Valid.f a0_0 a0_1 a0_2 = some r) :
  Calls Try.prog 55 #[.agg #[.bool a0_0,.int .u64 a0_1,.int .u64 a0_2]] w fun e w' => e = .returned (.bool r) ∧ Below w.heap.size w w' := by
 have hu24 := Try.underlying24;have HB := Aside0.mk (Below.refl w.heap.size w);have H : (if a0_0 = true then (some true) else (if a0_1 = 0 then (some (decide (a0_2 ≤ 4294967295))) else (some false))) = some r := h;clear h;by_cases c2 : a0_0 = true
 ·subst c2;rw [if_pos rfl] at H;(try dsimp only at H);obtain rfl := Option.some.inj H;go_enter Try.func55,Try.ntmps55;go_wp2_with (first | ((with_reducible refine gate_dst (N := 1) rfl ?_);refine XR.bx 1 24 #[.bool true,.int .u64 a0_1,.int .u64 a0_2] ?_;intro gb114 hg w3 hbox hb;have BK114 := Aside0.mk (hbox);have GW114 := Aside0.mk (XR.ge hg HB.out);have GE114 := GW114;replace HB := Aside0.mk (XR.bB HB.out hb);clear hb hbox hg;obtain ⟨Y4_0,Y4_1,Y4_2⟩ := XR.c3 BK114.out;obtain ⟨Z4_0,Z4_1,Z4_2⟩ := XR.f3 BK114.out));go_ret;exact XR.re HB.out
 ·replace c2 := Bool.eq_false_iff.mpr c2;subst c2;rw [if_neg (show ¬ (false = true) by decide)] at H;(try dsimp only at H);by_cases c5 : a0_1 = 0
  ·rw [if_pos c5] at H;have c5b0 := beq_iff_eq.mpr c5;have c5b1 := bne_eq_false_iff_eq.mpr c5;clear c5;obtain rfl := Option.some.inj H;go_enter Try.func55,Try.ntmps55;go_wp2_with (first | ((with_reducible refine gate_dst (N := 1) rfl ?_);refine XR.bx 1 24 #[.bool false,.int .u64 a0_1,.int .u64 a0_2] ?_;intro gb114 hg w6 hbox hb;have BK114 := Aside0.mk (hbox);have GW114 := Aside0.mk (XR.ge hg HB.out);have GE114 := GW114;replace HB := Aside0.mk (XR.bB HB.out hb);clear hb hbox hg;obtain ⟨Y7_0,Y7_1,Y7_2⟩ := XR.c3 BK114.out;obtain ⟨Z7_0,Z7_1,Z7_2⟩ := XR.f3 BK114.out));go_ret;exact XR.re HB.out
  ·rw [if_neg c5] at H;have c5b0 := beq_eq_false_iff_ne.mpr c5;have c5b1 := bne_iff_ne.mpr c5;obtain rfl := Option.some.inj H;go_enter Try.func55,Try.ntmps55;go_wp2_with (first | ((with_reducible refine gate_dst (N := 1) rfl ?_);refine XR.bx 1 24 #[.bool false,.int .u64 a0_1,.int .u64 a0_2] ?_;intro gb114 hg w8 hbox hb;have BK114 := Aside0.mk (hbox);have GW114 := Aside0.mk (XR.ge hg HB.out);have GE114 := GW114;replace HB := Aside0.mk (XR.bB HB.out hb);clear hb hbox hg;obtain ⟨Y9_0,Y9_1,Y9_2⟩ := XR.c3 BK114.out;obtain ⟨Z9_0,Z9_1,Z9_2⟩ := XR.f3 BK114.out));go_ret;exact XR.re HB.out
set_option maxHeartbeats 8000000 in
set_option maxRecDepth 100000 in
theorem prefix_length.calls (a0_0 : Bool) (a0_1 : Int) (a0_2 : Int) (r : Int) (w : World) (h : prefix_length.f a0_0 a0_1 a0_2 = some r) :
  Calls Try.prog 56 #[.agg #[.bool a0_0,.int .u64 a0_1,.int .u64 a0_2]] w fun e w' => e = .returned (.int .i64 r) ∧ Below w.heap.size w w' := by
 have hu24 := Try.underlying24;have HB := Aside0.mk (Below.refl w.heap.size w);have H : (if a0_0 = true then (some 128) else (some 32)) = some r := h;clear h;by_cases c2 : a0_0 = true
 ·subst c2;rw [if_pos rfl] at H;(try dsimp only at H);obtain rfl := Option.some.inj H;go_enter Try.func56,Try.ntmps56;go_wp2_with (first | ((with_reducible refine gate_dst (N := 1) rfl ?_);refine XR.bx 1 24 #[.bool true,.int .u64 a0_1,.int .u64 a0_2] ?_;intro gb115 hg w3 hbox hb;have BK115 := Aside0.mk (hbox);have GW115 := Aside0.mk (XR.ge hg HB.out);have GE115 := GW115;replace HB := Aside0.mk (XR.bB HB.out hb);clear hb hbox hg;obtain ⟨Y4_0,Y4_1,Y4_2⟩ := XR.c3 BK115.out;obtain ⟨Z4_0,Z4_1,Z4_2⟩ := XR.f3 BK115.out));go_ret;exact XR.re HB.out
 ·replace c2 := Bool.eq_false_iff.mpr c2;subst c2;rw [if_neg (show ¬ (false = true) by decide)] at H;(try dsimp only at H);obtain rfl := Option.some.inj H;go_enter Try.func56,Try.ntmps56;go_wp2_with (first | ((with_reducible refine gate_dst (N := 1) rfl ?_);refine XR.bx 1 24 #[.bool false,.int .u64 a0_1,.int .u64 a0_2] ?_;intro gb115 hg w5 hbox hb;have BK115 := Aside0.mk (hbox);have GW115 := Aside0.mk (XR.ge hg HB.out);have GE115 := GW115;replace HB := Aside0.mk (XR.bB HB.out hb);clear hb hbox hg;obtain ⟨Y6_0,Y6_1,Y6_2⟩ := XR.c3 BK115.out;obtain ⟨Z6_0,Z6_1,Z6_2⟩ := XR.f3 BK115.out));go_ret;exact XR.re HB.out
set_option maxHeartbeats 8000000 in
set_option maxRecDepth 100000 in
theorem prefix_later.calls (a0 : Bool) (a1 : Int) (r1 : Int) (r2 : Int) (w : World) (h : prefix_later.f a0 a1 = some (r1,r2)) :
  Calls Try.prog 57 #[.bool a0,.int .i64 a1] w fun e w' => e = .returned (.tuple #[.int .u64 r1,.int .u64 r2]) ∧ Drawn0 w w' := by
 have H : (if a0 = true then (if a1 ≥ 64 then (if 0 ≤ (IntKind.u64.wrap (wrap64 (128 - a1))) then (some (0,IntKind.u64.wrap ((shl .u64 1 (IntKind.u64.wrap (wrap64 (128 - a1)))) - 1))) else (none)) else (if 0 ≤ (IntKind.u64.wrap (wrap64 (64 - a1))) then (some (IntKind.u64.wrap ((shl .u64 1 (IntKind.u64.wrap (wrap64 (64 - a1)))) - 1),18446744073709551615)) else (none))) else (if 0 ≤ (IntKind.u64.wrap (wrap64 (32 - a1))) then (some (0,IntKind.u64.wrap ((shl .u64 1 (IntKind.u64.wrap (wrap64 (32 - a1)))) - 1))) else (none))) = some (r1,r2) := h;clear h;by_cases c3 : a0 = true
 ·subst c3;rw [if_pos rfl] at H;(try dsimp only at H);by_cases c4 : a1 ≥ 64
  ·rw [if_pos c4] at H;have c4b0 := decide_eq_true c4;clear c4;obtain ⟨ji5,hji5⟩ : ∃ j_ : Int,(IntKind.u64.wrap (wrap64 (128 - a1))) = j_ := ⟨_,rfl⟩;replace H : (if 0 ≤ (ji5) then (some (0,IntKind.u64.wrap ((shl .u64 1 (ji5)) - 1))) else (none)) = some (r1,r2) := by first | (rw [hji5] at H;exact H) | (simp only [hji5] at H ⊢;exact H)
   by_cases c6 : 0 ≤ (ji5)
   ·rw [if_pos c6] at H;have c6b0 := eq_true c6;have c6b1 := decide_eq_true c6;clear c6;obtain ⟨ji7,hji7⟩ : ∃ j_ : Int,(shl .u64 1 (ji5)) = j_ := ⟨_,rfl⟩;replace H : (some (0,IntKind.u64.wrap ((ji7) - 1))) = some (r1,r2) := by first | (rw [hji7] at H;exact H) | (simp only [hji7] at H ⊢;exact H)
    have hji7_ : (IntKind.u64.wrap (1 * 2 ^ min (ji5).toNat 64)) = ji7 := hji7;have hji7z : (ji5) ≤ 64 → (IntKind.u64.wrap (1 * 2 ^ (ji5).toNat)) = ji7 := shl_small hji7;have hji7u : (IntKind.u64.wrap (2 ^ min (ji5).toNat 64)) = ji7 := by have h_ := hji7_;rw [Int.one_mul] at h_;exact h_
    have hji7v : (ji5) ≤ 64 → (IntKind.u64.wrap (2 ^ (ji5).toNat)) = ji7 := fun hle_ => by have h_ := hji7z hle_;rw [Int.one_mul] at h_;exact h_
    simp only [Option.some.injEq,Prod.mk.injEq] at H;obtain ⟨rfl,rfl⟩ := H;go_enter Try.func57,Try.ntmps57;go_wp2;go_ret2;exact ⟨by first | rfl | (simp;done) | (simp only [← hji5,← hji7] <;> (first | rfl | simp)) | (simp [*];done),by repeat (first | exact Drawn0.refl _ | apply Drawn0.step)⟩
   ·rw [if_neg c6] at H;exact absurd H (by simp)
  ·rw [if_neg c4] at H;have c4b0 := decide_eq_false c4;clear c4;obtain ⟨ji8,hji8⟩ : ∃ j_ : Int,(IntKind.u64.wrap (wrap64 (64 - a1))) = j_ := ⟨_,rfl⟩;replace H : (if 0 ≤ (ji8) then (some (IntKind.u64.wrap ((shl .u64 1 (ji8)) - 1),18446744073709551615)) else (none)) = some (r1,r2) := by first | (rw [hji8] at H;exact H) | (simp only [hji8] at H ⊢;exact H)
   by_cases c9 : 0 ≤ (ji8)
   ·rw [if_pos c9] at H;have c9b0 := eq_true c9;have c9b1 := decide_eq_true c9;clear c9;obtain ⟨ji10,hji10⟩ : ∃ j_ : Int,(shl .u64 1 (ji8)) = j_ := ⟨_,rfl⟩;replace H : (some (IntKind.u64.wrap ((ji10) - 1),18446744073709551615)) = some (r1,r2) := by first | (rw [hji10] at H;exact H) | (simp only [hji10] at H ⊢;exact H)
    have hji10_ : (IntKind.u64.wrap (1 * 2 ^ min (ji8).toNat 64)) = ji10 := hji10;have hji10z : (ji8) ≤ 64 → (IntKind.u64.wrap (1 * 2 ^ (ji8).toNat)) = ji10 := shl_small hji10;have hji10u : (IntKind.u64.wrap (2 ^ min (ji8).toNat 64)) = ji10 := by have h_ := hji10_;rw [Int.one_mul] at h_;exact h_
    have hji10v : (ji8) ≤ 64 → (IntKind.u64.wrap (2 ^ (ji8).toNat)) = ji10 := fun hle_ => by have h_ := hji10z hle_;rw [Int.one_mul] at h_;exact h_
    simp only [Option.some.injEq,Prod.mk.injEq] at H;obtain ⟨rfl,rfl⟩ := H;go_enter Try.func57,Try.ntmps57;go_wp2;go_ret2;exact ⟨by first | rfl | (simp;done) | (simp only [← hji8,← hji10] <;> (first | rfl | simp)) | (simp [*];done),by repeat (first | exact Drawn0.refl _ | apply Drawn0.step)⟩
   ·rw [if_neg c9] at H;exact absurd H (by simp)
 ·replace c3 := Bool.eq_false_iff.mpr c3;subst c3;rw [if_neg (show ¬ (false = true) by decide)] at H;(try dsimp only at H);obtain ⟨ji11,hji11⟩ : ∃ j_ : Int,(IntKind.u64.wrap (wrap64 (32 - a1))) = j_ := ⟨_,rfl⟩;replace H : (if 0 ≤ (ji11) then (some (0,IntKind.u64.wrap ((shl .u64 1 (ji11)) - 1))) else (none)) = some (r1,r2) := by first | (rw [hji11] at H;exact H) | (simp only [hji11] at H ⊢;exact H)
  by_cases c12 : 0 ≤ (ji11)
  ·rw [if_pos c12] at H;have c12b0 := eq_true c12;have c12b1 := decide_eq_true c12;clear c12;obtain ⟨ji13,hji13⟩ : ∃ j_ : Int,(shl .u64 1 (ji11)) = j_ := ⟨_,rfl⟩;replace H : (some (0,IntKind.u64.wrap ((ji13) - 1))) = some (r1,r2) := by first | (rw [hji13] at H;exact H) | (simp only [hji13] at H ⊢;exact H)
   have hji13_ : (IntKind.u64.wrap (1 * 2 ^ min (ji11).toNat 64)) = ji13 := hji13;have hji13z : (ji11) ≤ 64 → (IntKind.u64.wrap (1 * 2 ^ (ji11).toNat)) = ji13 := shl_small hji13;have hji13u : (IntKind.u64.wrap (2 ^ min (ji11).toNat 64)) = ji13 := by have h_ := hji13_;rw [Int.one_mul] at h_;exact h_
   have hji13v : (ji11) ≤ 64 → (IntKind.u64.wrap (2 ^ (ji11).toNat)) = ji13 := fun hle_ => by have h_ := hji13z hle_;rw [Int.one_mul] at h_;exact h_
   simp only [Option.some.injEq,Prod.mk.injEq] at H;obtain ⟨rfl,rfl⟩ := H;go_enter Try.func57,Try.ntmps57;go_wp2;go_ret2;exact ⟨by first | rfl | (simp;done) | (simp only [← hji11,← hji13] <;> (first | rfl | simp)) | (simp [*];done),by repeat (first | exact Drawn0.refl _ | apply Drawn0.step)⟩
  ·rw [if_neg c12] at H;exact absurd H (by simp)
end Go.Proofs.Ythjngcjhjnigjaa.QA
