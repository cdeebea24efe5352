-- Written by this session's own program (wip/xprint) out of the translation; Lean checks it.
import Derived.Test.YtgkpinecggoilaaQAd4
import Derived.Test.YtgkpinecggoilaaQAx0
import Derived.Test.YtgkpinecggoilaaQAx1
import Derived.Test.YtgkpinecggoilaaQAx3
import Derived.Test.YtgkpinecggoilaaQAx14
import Derived.Test.YtgkpinecggoilaaQAx30
import Derived.Test.YtgkpinecggoilaaQAx39
import Derived.Test.YtgkpinecggoilaaQAx46
namespace Go.Proofs.Ytgkpinecggoilaa.QA
open Go.RowKit Go.Proofs.YtgkpinecggoilaaW.PrintWords Go.Proofs.YtgkpinecggoilaaW.PrintLast Go.Proofs.YtgkpinecggoilaaW.PrintMore
attribute [local go_sem] max2_int min2_int max_two min_two max_three min_three max_four min_four   -- for this text's walks alone
attribute [local go_sem high] Go.Proofs.Ytgkpinecggoilaa.XW.cell_setCell_lit
set_option linter.unusedVariables false
set_option linter.unusedSimpArgs false

attribute [local go_sem high] eqA25 eqA35
/-! ### ddilaw32_UpstreamKnows: function 6 -/
def ddilaw32_UpstreamKnows.T5 : Bool × List (List Nat × List Nat) := (true, [([], []), ([], []), ([1], [1]), ([0, 2], [0, 2]), ([3], [3]), ([4], [4]), ([], []), ([], []), ([6, 7], [6, 7]), ([8], [8]), ([9], [9]), ([5, 10], [5, 10]), ([11], [11])])
def ddilaw32_UpstreamKnows.B5 : List Nat := [0, 0, 2, 7, 15, 31, 0, 0, 192, 448, 960, 2047, 4095]
theorem ddilaw32_UpstreamKnows.tab5 : rtab .any (opsOf Try.f6 5) = ddilaw32_UpstreamKnows.T5 := by kernel_rfl
theorem ddilaw32_UpstreamKnows.bits5 : waitsOk ddilaw32_UpstreamKnows.T5.2 ddilaw32_UpstreamKnows.B5 = true := by kernel_rfl
def ddilaw32_UpstreamKnows.T18 : Bool × List (List Nat × List Nat) := (true, [([], []), ([0], [0]), ([1], [1]), ([2], [2]), ([3], [3]), ([4, 3], [3, 4]), ([5, 3], [3, 5]), ([3], [3]), ([6, 7, 3], [3, 6, 7]), ([3, 8], [3, 8]), ([9, 3], [9]), ([10], [10]), ([11, 10], [10, 11]), ([12, 10], [10, 12]), ([10, 13], [10, 13]), ([14, 10], [14]), ([15], [15]), ([16, 15], [15, 16]), ([17, 15], [15, 17]), ([15, 18], [15, 18]), ([19, 15], [19]), ([20], [20]), ([21, 20], [20, 21]), ([22, 20], [20, 22]), ([20, 23], [20, 23]), ([24, 20], [24]), ([25], [25]), ([26, 25], [25, 26]), ([27, 25], [25, 27]), ([25, 28], [25, 28]), ([29, 25], [29]), ([30, 30], [30]), ([30, 31], [30, 31]), ([32, 31, 0, 1, 2, 3, 4, 5, 6, 7, 8, 9, 10, 11, 12, 13, 14, 15, 16, 17, 18, 19, 20, 21, 22, 23, 24, 25, 26, 27, 28, 29, 30, 31, 32], [32])])
def ddilaw32_UpstreamKnows.B18 : List Nat := [0, 1, 3, 7, 15, 31, 63, 15, 255, 511, 1023, 2047, 4095, 8191, 16383, 32767, 65535, 131071, 262143, 524287, 1048575, 2097151, 4194303, 8388607, 16777215, 33554431, 67108863, 134217727, 268435455, 536870911, 1073741823, 2147483647, 4294967295, 8589934591]
theorem ddilaw32_UpstreamKnows.tab18 : rtab .any (opsOf Try.f6 18) = ddilaw32_UpstreamKnows.T18 := by kernel_rfl
theorem ddilaw32_UpstreamKnows.bits18 : waitsOk ddilaw32_UpstreamKnows.T18.2 ddilaw32_UpstreamKnows.B18 = true := by kernel_rfl
set_option maxHeartbeats 8000000 in
set_option maxRecDepth 100000 in
theorem ddilaw32_UpstreamKnows.calls (k : Nat) (A0 : Option Addr) (c0 : Nat) (l0 : List (S27)) (a1 : Int) (r : Bool) (w : World) (hr0 : Kd.C k27 w A0 l0.length l0) (hc0 : l0.length ≤ c0) (h : ddilaw32_UpstreamKnows.f k l0 a1 = some r) (hT_ : r = true) :
    Calls Try.prog 6 #[.slice A0 l0.length c0, .int .u8 a1] w fun e w' => e = .returned (.bool r) ∧ Below w.heap.size w w' := by
  have hu25 := Try.underlying25
  have hu27 := Try.underlying27
  have hu35 := Try.underlying35
  have HR0 := Aside0.mk hr0
  have HC0 := Aside0.mk hc0
  clear hr0 hc0
  have HB := Aside0.mk (Below.refl w.heap.size w)
  have H : ((ddilaw32_play.f k l0).bind fun t473 => (ddilaw32_UpstreamKnows.l0 k l0 a1 t473 1)) = some r := h
  clear h
  replace H := Option.bind_eq_some_iff.mp H
  obtain ⟨t473, A30, H⟩ := H
  replace H : (ddilaw32_UpstreamKnows.l0 k l0 a1 t473 1) = some r := H
  have A3 := Aside0.mk A30
  clear A30
  have H' := Aside0.mk H
  clear H
  go_enter Try.func6, Try.ntmps6
  go_wp2_with (first | ((with_reducible refine gate_callee (f := 22) rfl ?_); refine goesL_ (some 13) rfl rfl Try.func22 (by kernel_rfl) rfl #[.slice A0 l0.length c0] rfl (by (try simp only [List.map_toArray, List.map_cons, List.map_nil]); first | done | rfl | (simp only [List.length_drop, List.length_take]; rfl)) ?_; (with_reducible refine (ddilaw32_play.calls k _ _ l0 t473 _ ?side1 ?side2 A3.out).mono ?_); (case side1 => repeat (first | exact HR0.out | (with_reducible refine Kd.C_alloc ?_ _) | (with_reducible refine Kd.C_drewN ?_ _) | (with_reducible refine Kd.C_drew ?_))); (case side2 => exact HC0.out); rintro e w4 ⟨v474, rfl, ho0, hb⟩; refine ⟨_, rfl, ?_⟩; have n0_ := Aside0.mk (Kd.R_lower ho0 (below_size (by repeat (first | (with_reducible first | exact HB.out | apply below_alloc | apply pw_below_drewN | apply below_drew1) | exact HB.out)))); have n1_ := Aside0.mk (below_step (by repeat (first | (with_reducible first | exact HB.out | apply below_alloc | apply pw_below_drewN | apply below_drew1) | exact HB.out)) hb); clear HB; have HO475 := n0_; have HB := n1_; clear n0_ n1_; (try clear hb); (try clear hb2); (try clear hk); (try clear hi); (try clear ho0)))
  go_loopg [6] k (fun kq v6 w' => ∃ (x6_1 : Int), v6 = .int .i64 x6_1 ∧ Aside0 (ddilaw32_UpstreamKnows.l0 kq l0 a1 t473 x6_1 = some r) ∧ Aside0 (kq ≤ k) ∧ Aside0 (Kd.R k35 35 w' w.heap.size (fun _ => True) v474 t473) ∧ Aside0 (Below w.heap.size w w'))
  case atStart => exact ⟨(1), (by first | rfl | (simp; done) | (simp [*]; done)), H', ⟨Nat.le_refl _⟩, ⟨by (with_reducible repeat (first | apply Kd.R_alloc | apply Kd.R_drewN | apply Kd.R_drew)); exact HO475.out⟩, ⟨by repeat (first | (with_reducible first | exact HB.out | apply below_alloc | apply pw_below_drewN | apply below_drew1) | exact HB.out)⟩⟩
  case round =>
    clear H'
    try clear c2
    try clear p2
    obtain ⟨x6_1, rfl, HA, HK1, HO_5, HB⟩ := hrel
    cases gk with
    | zero => exact absurd HA.out (by simp [ddilaw32_UpstreamKnows.l0])
    | succ k1 =>
      have H := HA.out
      clear HA
      simp only [ddilaw32_UpstreamKnows.l0] at H
      by_cases c5 : x6_1 < (t473.length : Int)
      · rw [if_pos c5] at H
        have c5b0 : decide (x6_1 < (t473.length : Int)) = true := decide_eq_true c5
        clear c5
        obtain ⟨ji6, hji6⟩ : ∃ j_ : Int, (wrap64 (x6_1 - 1)) = j_ := ⟨_, rfl⟩
        replace H : (if 0 ≤ (ji6) then (if (ji6) < (t473.length : Int) then (if 0 ≤ x6_1 then ((addr_Compare.f k1 ((rd_T35 t473 (ji6)).f0.f0) ((rd_T35 t473 (ji6)).f0.f1) ((rd_T35 t473 (ji6)).f0.f2) ((rd_T35 t473 x6_1).f0.f0) ((rd_T35 t473 x6_1).f0.f1) ((rd_T35 t473 x6_1).f0.f2)).bind fun t478 => (if t478 ≥ 0 then (some false) else (ddilaw32_UpstreamKnows.l0 k1 l0 a1 t473 (wrap64 (x6_1 + 1))))) else (none)) else (none)) else (none)) = some r := by first | (rw [hji6] at H; exact H) | (simp only [hji6] at H ⊢; exact H)
        have hji6w : (IntKind.i64.wrap (x6_1 - 1)) = ji6 := (i64_w _).trans hji6
        by_cases c7 : 0 ≤ (ji6)
        · rw [if_pos c7] at H
          have c7b0 : decide (0 ≤ (ji6)) = true := decide_eq_true c7
          clear c7
          by_cases c8 : (ji6) < (t473.length : Int)
          · rw [if_pos c8] at H
            have c8b0 : decide ((ji6) < (t473.length : Int)) = true := decide_eq_true c8
            clear c8
            by_cases c9 : 0 ≤ x6_1
            · rw [if_pos c9] at H
              have c9b0 : decide (0 ≤ x6_1) = true := decide_eq_true c9
              clear c9
              replace H := Option.bind_eq_some_iff.mp H
              obtain ⟨t478, A100, H⟩ := H
              (try dsimp only at H)
              have A10 := Aside0.mk A100
              clear A100
              by_cases c11 : t478 ≥ 0
              · rw [if_pos c11] at H
                have c11b0 : decide (0 ≤ t478) = true := decide_eq_true c11
                clear c11
                exact absurd (Option.some.inj H) (by rw [hT_]; decide)
              · rw [if_neg c11] at H
                have c11b0 : decide (0 ≤ t478) = false := decide_eq_false c11
                clear c11
                have H' := Aside0.mk H
                clear H
                obtain ⟨Ao12, co12, eo12⟩ := Kd.R_slice HO_5.out
                subst eo12
                try go_wp2
                have n0_ := Aside0.mk (Kd.R_drew HO_5.out)
                have n1_ := Aside0.mk (below_drew1 HB.out)
                clear HO_5
                clear HB
                have HO_5 := n0_
                have HB := n1_
                clear n0_ n1_
                have p476 : 0 ≤ ((ji6) : Int) := of_decide_eq_true (by first | (with_reducible assumption) | assumption)
                have q476 : (ji6) < (t473.length : Int) := of_decide_eq_true (by first | (with_reducible assumption) | assumption)
                obtain ⟨ad476, e476, hx476_0, hx476_1, hx476_2, hx476_3, hx476_4, hx476_5⟩ := at_T35 (Kd.R_reads' HO_5.out).2.2 (ji6) p476 q476
                cases e476
                replace p476 := eq_true p476
                replace q476 := eq_true q476
                have p477 : 0 ≤ (x6_1 : Int) := of_decide_eq_true (by first | (with_reducible assumption) | assumption)
                have q477 : x6_1 < (t473.length : Int) := of_decide_eq_true (by first | (with_reducible assumption) | assumption)
                obtain ⟨ad477, e477, hx477_0, hx477_1, hx477_2, hx477_3, hx477_4, hx477_5⟩ := at_T35 (Kd.R_reads' HO_5.out).2.2 x6_1 p477 q477
                obtain rfl : ad476 = ad477 := (by injection e477)
                replace p477 := eq_true p477
                replace q477 := eq_true q477
                refine start_ (n := 13) (S := fun w' => w'.cell? (ad476.add (((ji6)).toNat * 6)) = some (.bool ((rd_T35 t473 (ji6)).f0.f0)) ∧ w'.cell? ⟨(ad476.add (((ji6)).toNat * 6)).block, (ad476.add (((ji6)).toNat * 6)).off + 1, none⟩ = some (.int .u64 ((rd_T35 t473 (ji6)).f0.f1)) ∧ w'.cell? ⟨(ad476.add (((ji6)).toNat * 6)).block, (ad476.add (((ji6)).toNat * 6)).off + 2, none⟩ = some (.int .u64 ((rd_T35 t473 (ji6)).f0.f2)) ∧ w'.cell? ⟨(ad476.add (((ji6)).toNat * 6)).block, (ad476.add (((ji6)).toNat * 6)).off + 3, none⟩ = some (.int .i64 ((rd_T35 t473 (ji6)).f1)) ∧ w'.cell? ⟨(ad476.add (((ji6)).toNat * 6)).block, (ad476.add (((ji6)).toNat * 6)).off + 4, none⟩ = some (.int .i64 ((rd_T35 t473 (ji6)).f2)) ∧ w'.cell? ⟨(ad476.add (((ji6)).toNat * 6)).block, (ad476.add (((ji6)).toNat * 6)).off + 5, none⟩ = some (.int .i64 ((rd_T35 t473 (ji6)).f3)) ∧ w'.cell? (ad476.add ((x6_1).toNat * 6)) = some (.bool ((rd_T35 t473 x6_1).f0.f0)) ∧ w'.cell? ⟨(ad476.add ((x6_1).toNat * 6)).block, (ad476.add ((x6_1).toNat * 6)).off + 1, none⟩ = some (.int .u64 ((rd_T35 t473 x6_1).f0.f1)) ∧ w'.cell? ⟨(ad476.add ((x6_1).toNat * 6)).block, (ad476.add ((x6_1).toNat * 6)).off + 2, none⟩ = some (.int .u64 ((rd_T35 t473 x6_1).f0.f2)) ∧ w'.cell? ⟨(ad476.add ((x6_1).toNat * 6)).block, (ad476.add ((x6_1).toNat * 6)).off + 3, none⟩ = some (.int .i64 ((rd_T35 t473 x6_1).f1)) ∧ w'.cell? ⟨(ad476.add ((x6_1).toNat * 6)).block, (ad476.add ((x6_1).toNat * 6)).off + 4, none⟩ = some (.int .i64 ((rd_T35 t473 x6_1).f2)) ∧ w'.cell? ⟨(ad476.add ((x6_1).toNat * 6)).block, (ad476.add ((x6_1).toNat * 6)).off + 5, none⟩ = some (.int .i64 ((rd_T35 t473 x6_1).f3))) (ds := []) #[false, false, false, false, false, false, false, false, false, false, false, false, false] (by kernel_rfl) rfl rfl ⟨hx476_0, hx476_1, hx476_2, hx476_3, hx476_4, hx476_5, hx477_0, hx477_1, hx477_2, hx477_3, hx477_4, hx477_5⟩ (fun hHeld => ?_); refine with_tabW ddilaw32_UpstreamKnows.tab5 ddilaw32_UpstreamKnows.bits5 (fun HT_ HW_ => ?_)
                generalize wr.drew = w13 at HO_5 HB hx476_0 hx476_1 hx476_2 hx476_3 hx476_4 hx476_5 hx477_0 hx477_1 hx477_2 hx477_3 hx477_4 hx477_5 hHeld ⊢
                refine pure_ (i := 0) (N := some 20) (v := ?_) (a' := ?_) #[true, false, false, false, false, false, false, false, false, false, false, false, false] rfl rfl (any_of HT_.out (by kernel_rfl)) (fun _ _ _ h => h) (Or.inl ⟨by rfl, ?_⟩) ?_ ?_
                rotate_left
                · intro w'
                  go_simp
                  with_reducible rfl
                rotate_left
                · simp only [Act.put, List.setIfInBounds_toArray, List.set_cons_zero, List.set_cons_succ, i64_w, i32_w]
                  rfl
                refine pure_ (i := 1) (N := some 21) (v := ?_) (a' := ?_) #[true, true, false, false, false, false, false, false, false, false, false, false, false] rfl rfl (any_of HT_.out (by kernel_rfl)) (fun _ _ _ h => h) (Or.inl ⟨by rfl, ?_⟩) ?_ ?_
                rotate_left
                · intro w'
                  go_simp
                  with_reducible rfl
                rotate_left
                · simp only [Act.put, List.setIfInBounds_toArray, List.set_cons_zero, List.set_cons_succ, i64_w, i32_w]
                  rfl
                refine pure_ (i := 2) (N := some 22) (v := ?_) (a' := ?_) #[true, true, true, false, false, false, false, false, false, false, false, false, false] rfl rfl (any_of HT_.out (by kernel_rfl)) (fun _ _ _ h => h) (Or.inl ⟨by rfl, ?_⟩) ?_ ?_
                rotate_left
                · intro w'
                  go_simp
                  with_reducible rfl
                rotate_left
                · simp only [Act.put, List.setIfInBounds_toArray, List.set_cons_zero, List.set_cons_succ, i64_w, i32_w]
                  rfl
                refine pure_ (i := 3) (N := some 23) (v := ?_) (a' := ?_) #[true, true, true, true, false, false, false, false, false, false, false, false, false] rfl rfl (any_of HT_.out (by kernel_rfl)) (fun _ _ _ h => h) (Or.inl ⟨by rfl, ?_⟩) ?_ ?_
                rotate_left
                · intro w'
                  go_simp
                  with_reducible rfl
                rotate_left
                · simp only [Act.put, List.setIfInBounds_toArray, List.set_cons_zero, List.set_cons_succ, i64_w, i32_w]
                  rfl
                refine pure_ (i := 4) (N := some 24) (v := ?_) (a' := ?_) #[true, true, true, true, true, false, false, false, false, false, false, false, false] rfl rfl (any_of HT_.out (by kernel_rfl)) (fun _ _ _ h => h) (Or.inl ⟨by rfl, ?_⟩) ?_ ?_
                rotate_left
                · intro w'
                  go_simp
                  with_reducible rfl
                rotate_left
                · simp only [Act.put, List.setIfInBounds_toArray, List.set_cons_zero, List.set_cons_succ, i64_w, i32_w]
                  rfl
                refine pure_ (i := 6) (N := some 26) (v := ?_) (a' := ?_) #[true, true, true, true, true, false, true, false, false, false, false, false, false] rfl rfl (any_of HT_.out (by kernel_rfl)) (fun _ _ _ h => h) (Or.inl ⟨by rfl, ?_⟩) ?_ ?_
                rotate_left
                · intro w'
                  go_simp
                  with_reducible rfl
                rotate_left
                · simp only [Act.put, List.setIfInBounds_toArray, List.set_cons_zero, List.set_cons_succ, i64_w, i32_w]
                  rfl
                refine pure_ (i := 7) (N := some 27) (v := ?_) (a' := ?_) #[true, true, true, true, true, false, true, true, false, false, false, false, false] rfl rfl (any_of HT_.out (by kernel_rfl)) (fun _ _ _ h => h) (Or.inl ⟨by rfl, ?_⟩) ?_ ?_
                rotate_left
                · intro w'
                  go_simp
                  with_reducible rfl
                rotate_left
                · simp only [Act.put, List.setIfInBounds_toArray, List.set_cons_zero, List.set_cons_succ, i64_w, i32_w]
                  rfl
                refine pure_ (i := 8) (N := some 28) (v := ?_) (a' := ?_) #[true, true, true, true, true, false, true, true, true, false, false, false, false] rfl rfl (any_of HT_.out (by kernel_rfl)) (fun _ _ _ h => h) (Or.inl ⟨by rfl, ?_⟩) ?_ ?_
                rotate_left
                · intro w'
                  go_simp
                  with_reducible rfl
                rotate_left
                · simp only [Act.put, List.setIfInBounds_toArray, List.set_cons_zero, List.set_cons_succ, i64_w, i32_w]
                  rfl
                refine pure_ (i := 9) (N := some 29) (v := ?_) (a' := ?_) #[true, true, true, true, true, false, true, true, true, true, false, false, false] rfl rfl (any_of HT_.out (by kernel_rfl)) (fun _ _ _ h => h) (Or.inl ⟨by rfl, ?_⟩) ?_ ?_
                rotate_left
                · intro w'
                  go_simp
                  with_reducible rfl
                rotate_left
                · simp only [Act.put, List.setIfInBounds_toArray, List.set_cons_zero, List.set_cons_succ, i64_w, i32_w]
                  rfl
                refine take_ (i := 5) (N := some 25) (v := ?_) (a' := ?_) #[true, true, true, true, true, true, true, true, true, true, false, false, false] rfl rfl (take_ofW HT_.out HW_.out (by kernel_rfl)) (fun _ _ _ h => h) (Or.inl ⟨by rfl, ?_⟩) hHeld ?_ ?_
                rotate_left
                · rintro w' ⟨s0, s1, s2, s3, s4, s5, s6, s7, s8, s9, s10, s11⟩
                  go_simp
                  with_reducible rfl
                rotate_left
                · simp only [Act.put, List.setIfInBounds_toArray, List.set_cons_zero, List.set_cons_succ, i64_w, i32_w]
                  rfl
                refine take_ (i := 10) (N := some 30) (v := ?_) (a' := ?_) #[true, true, true, true, true, true, true, true, true, true, true, false, false] rfl rfl (take_ofW HT_.out HW_.out (by kernel_rfl)) (fun _ _ _ h => h) (Or.inl ⟨by rfl, ?_⟩) hHeld ?_ ?_
                rotate_left
                · rintro w' ⟨s0, s1, s2, s3, s4, s5, s6, s7, s8, s9, s10, s11⟩
                  go_simp
                  with_reducible rfl
                rotate_left
                · simp only [Act.put, List.setIfInBounds_toArray, List.set_cons_zero, List.set_cons_succ, i64_w, i32_w]
                  rfl
                refine one_ (i := 11) (N := some 31) #[true, true, true, true, true, true, true, true, true, true, true, true, false] rfl rfl (one_of HT_.out (by kernel_rfl)) (by decide) (fun K hK => ?_)
                refine goes_ Try.func23 (by kernel_rfl) rfl #[.agg #[.bool ((rd_T35 t473 (ji6)).f0.f0), .int .u64 ((rd_T35 t473 (ji6)).f0.f1), .int .u64 ((rd_T35 t473 (ji6)).f0.f2)], .agg #[.bool ((rd_T35 t473 x6_1).f0.f0), .int .u64 ((rd_T35 t473 x6_1).f0.f1), .int .u64 ((rd_T35 t473 x6_1).f0.f2)]] (by rfl) rfl rfl (by (try simp only [List.map_toArray, List.map_cons, List.map_nil]); first | done | (simp only [hji6]; rfl) | rfl | (simp only [List.length_drop, List.length_take]; rfl)) ?_
                with_reducible refine (addr_Compare.calls k1 ((rd_T35 t473 (ji6)).f0.f0) ((rd_T35 t473 (ji6)).f0.f1) ((rd_T35 t473 (ji6)).f0.f2) ((rd_T35 t473 x6_1).f0.f0) ((rd_T35 t473 x6_1).f0.f1) ((rd_T35 t473 x6_1).f0.f2) t478 _ A10.out).mono ?_
                rintro e w14 ⟨rfl, hb⟩
                have HS0_ := (hb.cell (World.block_lt_of_cell? _ _ (hHeld.1))).trans (hHeld.1)
                have HS1_ := (hb.cell (World.block_lt_of_cell? _ _ (hHeld.2.1))).trans (hHeld.2.1)
                have HS2_ := (hb.cell (World.block_lt_of_cell? _ _ (hHeld.2.2.1))).trans (hHeld.2.2.1)
                have HS3_ := (hb.cell (World.block_lt_of_cell? _ _ (hHeld.2.2.2.1))).trans (hHeld.2.2.2.1)
                have HS4_ := (hb.cell (World.block_lt_of_cell? _ _ (hHeld.2.2.2.2.1))).trans (hHeld.2.2.2.2.1)
                have HS5_ := (hb.cell (World.block_lt_of_cell? _ _ (hHeld.2.2.2.2.2.1))).trans (hHeld.2.2.2.2.2.1)
                have HS6_ := (hb.cell (World.block_lt_of_cell? _ _ (hHeld.2.2.2.2.2.2.1))).trans (hHeld.2.2.2.2.2.2.1)
                have HS7_ := (hb.cell (World.block_lt_of_cell? _ _ (hHeld.2.2.2.2.2.2.2.1))).trans (hHeld.2.2.2.2.2.2.2.1)
                have HS8_ := (hb.cell (World.block_lt_of_cell? _ _ (hHeld.2.2.2.2.2.2.2.2.1))).trans (hHeld.2.2.2.2.2.2.2.2.1)
                have HS9_ := (hb.cell (World.block_lt_of_cell? _ _ (hHeld.2.2.2.2.2.2.2.2.2.1))).trans (hHeld.2.2.2.2.2.2.2.2.2.1)
                have HS10_ := (hb.cell (World.block_lt_of_cell? _ _ (hHeld.2.2.2.2.2.2.2.2.2.2.1))).trans (hHeld.2.2.2.2.2.2.2.2.2.2.1)
                have HS11_ := (hb.cell (World.block_lt_of_cell? _ _ (hHeld.2.2.2.2.2.2.2.2.2.2.2))).trans (hHeld.2.2.2.2.2.2.2.2.2.2.2)
                refine ⟨_, rfl, ?_⟩
                have n0_ := Aside0.mk (Kd.R_below (by (with_reducible repeat (first | apply Kd.R_alloc | apply Kd.R_drewN | apply Kd.R_drew)); exact HO_5.out) hb)
                have n1_ := Aside0.mk (below_step (by repeat (first | (with_reducible first | exact HB.out | apply below_alloc | apply pw_below_drewN | apply below_drew1) | exact HB.out)) hb)
                clear HO_5
                clear HB
                have HO_5 := n0_
                have HB := n1_
                clear n0_ n1_
                (try clear hb)
                (try clear hb2)
                (try clear hk)
                (try clear hi)
                refine hK.out _ _ ⟨HS0_, HS1_, HS2_, HS3_, HS4_, HS5_, HS6_, HS7_, HS8_, HS9_, HS10_, HS11_⟩ (fun hHeld => ?_)
                clear hK K
                refine norm_ (a' := ?_) ?_ ?_
                rotate_left
                · show Act.put _ (some 31) _ = _
                  simp only [Act.put, List.setIfInBounds_toArray, List.set_cons_zero, List.set_cons_succ, i64_w, i32_w]
                  rfl
                refine pure_ (i := 12) (N := some 32) (v := ?_) (a' := ?_) #[true, true, true, true, true, true, true, true, true, true, true, true, true] rfl rfl (any_of HT_.out (by kernel_rfl)) (fun _ _ _ h => h) (Or.inl ⟨by rfl, ?_⟩) ?_ ?_
                rotate_left
                · intro w'
                  go_simp
                  with_reducible rfl
                rotate_left
                · simp only [Act.put, List.setIfInBounds_toArray, List.set_cons_zero, List.set_cons_succ, i64_w, i32_w]
                  rfl
                refine done_ (done_of HT_.out (by kernel_rfl)) ?_
                try go_wp2
                go_roundg k1
                case measure => have := HK1.out; omega
                case rel => exact ⟨(wrap64 (x6_1 + 1)), (by first | rfl | (simp; done) | (simp [*]; done)), H', ⟨by have := HK1.out; omega⟩, ⟨by (with_reducible repeat (first | apply Kd.R_alloc | apply Kd.R_drewN | apply Kd.R_drew)); exact HO_5.out⟩, ⟨by repeat (first | (with_reducible first | exact HB.out | apply below_alloc | apply pw_below_drewN | apply below_drew1) | exact HB.out)⟩⟩
            · rw [if_neg c9] at H
              exact absurd H (by simp)
          · rw [if_neg c8] at H
            exact absurd H (by simp)
        · rw [if_neg c7] at H
          exact absurd H (by simp)
      · rw [if_neg c5] at H
        have c5b0 : decide (x6_1 < (t473.length : Int)) = false := decide_eq_false c5
        clear c5
        by_cases c15 : (l0.length : Int) = 0
        · rw [if_pos c15] at H
          have c15b0 : ((l0.length : Int) == 0) = true := beq_iff_eq.mpr c15
          have c15b1 : ((l0.length : Int) != 0) = false := bne_eq_false_iff_eq.mpr c15
          clear c15
          by_cases c16 : (t473.length : Int) = 0
          · rw [if_pos c16] at H
            have c16b0 : ((t473.length : Int) == 0) = true := beq_iff_eq.mpr c16
            have c16b1 : ((t473.length : Int) != 0) = false := bne_eq_false_iff_eq.mpr c16
            clear c16
            replace H := Option.bind_eq_some_iff.mp H
            obtain ⟨t479, A170, H⟩ := H
            replace H : (some t479) = some r := H
            have A17 := Aside0.mk A170
            clear A170
            obtain rfl := Option.some.inj H
            obtain ⟨Ao18, co18, eo18⟩ := Kd.R_slice HO_5.out
            subst eo18
            go_wp2_with (first | (go_at_call 17; (with_reducible refine (ddilaw32_awake.calls k1  t479 _ A17.out (by first | assumption | rfl | simp_all)).mono ?_); rintro e w19 ⟨rfl, hb⟩; have n0_ := Aside0.mk (Kd.R_below (by (with_reducible repeat (first | apply Kd.R_alloc | apply Kd.R_drewN | apply Kd.R_drew)); exact HO_5.out) hb); have n1_ := Aside0.mk (below_step (by repeat (first | (with_reducible first | exact HB.out | apply below_alloc | apply pw_below_drewN | apply below_drew1) | exact HB.out)) hb); clear HO_5; clear HB; have HO_5 := n0_; have HB := n1_; clear n0_ n1_; (try clear hb); (try clear hb2); (try clear hk); (try clear hi)))
            go_ret
            exact ⟨by first | rfl | (simp [errW_none, errW_some] <;> rfl) | (simp [*, errW_none, errW_some] <;> rfl), by repeat (first | (with_reducible first | exact HB.out | apply below_alloc | apply pw_below_drewN | apply below_drew1) | exact HB.out)⟩
          · rw [if_neg c16] at H
            have c16b0 : ((t473.length : Int) == 0) = false := beq_eq_false_iff_ne.mpr c16
            have c16b1 : ((t473.length : Int) != 0) = true := bne_iff_ne.mpr c16
            have c16b2 : ¬ (t473 = []) := fun h_ => c16 (by rw [h_]; rfl)
            exact absurd (Option.some.inj H) (by rw [hT_]; decide)
        · rw [if_neg c15] at H
          have c15b0 : ((l0.length : Int) == 0) = false := beq_eq_false_iff_ne.mpr c15
          have c15b1 : ((l0.length : Int) != 0) = true := bne_iff_ne.mpr c15
          have c15b2 : ¬ (l0 = []) := fun h_ => c15 (by rw [h_]; rfl)
          obtain ⟨ji20, hji20⟩ : ∃ j_ : Int, (mn (l0.length : Int) 60) = j_ := ⟨_, rfl⟩
          replace H : (if (ji20) = 0 then (none) else (if 0 ≤ (Int.tmod (wrap64 (a1)) (ji20)) then (if (Int.tmod (wrap64 (a1)) (ji20)) < (l0.length : Int) then (ddilaw32_UpstreamKnows.l1 k1 l0 t473 ([] : List (S27)) 0 ((rd_T27 l0 (Int.tmod (wrap64 (a1)) (ji20))).f0.f0) ((rd_T27 l0 (Int.tmod (wrap64 (a1)) (ji20))).f0.f1) ((rd_T27 l0 (Int.tmod (wrap64 (a1)) (ji20))).f0.f2)) else (none)) else (none))) = some r := by first | (rw [hji20] at H; exact H) | (simp only [hji20] at H ⊢; exact H)
          (try (have hji20h : ji20 ≤ 60 := by (rw [← hji20]; unfold mn; (repeat' split) <;> omega)))
          (try (have hji20g : ji20 ≤ 64 := by omega))
          (try (have hji20l : 0 ≤ ji20 := by (rw [← hji20]; unfold mn; (repeat' split) <;> omega)))
          (try (have hji20m : 0 ≤ ji20 := by omega))
          have hji20_ : (if 60 < (l0.length : Int) then 60 else (l0.length : Int)) = ji20 := hji20
          by_cases c21 : (ji20) = 0
          · rw [if_pos c21] at H
            exact absurd H (by simp)
          · rw [if_neg c21] at H
            have c21b0 : ((ji20) == 0) = false := beq_eq_false_iff_ne.mpr c21
            have c21b1 : ((ji20) != 0) = true := bne_iff_ne.mpr c21
            obtain ⟨ji22, hji22⟩ : ∃ j_ : Int, (Int.tmod (wrap64 (a1)) (ji20)) = j_ := ⟨_, rfl⟩
            replace H : (if 0 ≤ (ji22) then (if (ji22) < (l0.length : Int) then (ddilaw32_UpstreamKnows.l1 k1 l0 t473 ([] : List (S27)) 0 ((rd_T27 l0 (ji22)).f0.f0) ((rd_T27 l0 (ji22)).f0.f1) ((rd_T27 l0 (ji22)).f0.f2)) else (none)) else (none)) = some r := by first | (rw [hji22] at H; exact H) | (simp only [hji22] at H ⊢; exact H)
            by_cases c23 : 0 ≤ (ji22)
            · rw [if_pos c23] at H
              have c23b0 : decide (0 ≤ (ji22)) = true := decide_eq_true c23
              clear c23
              by_cases c24 : (ji22) < (l0.length : Int)
              · rw [if_pos c24] at H
                have c24b0 : decide ((ji22) < (l0.length : Int)) = true := decide_eq_true c24
                clear c24
                have H' := Aside0.mk H
                clear H
                obtain ⟨Ao25, co25, eo25⟩ := Kd.R_slice HO_5.out
                subst eo25
                have p480 : 0 ≤ ((ji22) : Int) := of_decide_eq_true (by first | (with_reducible assumption) | assumption)
                have q480 : (ji22) < (l0.length : Int) := of_decide_eq_true (by first | (with_reducible assumption) | assumption)
                obtain ⟨ad480, e480, hx480_0, hx480_1, hx480_2, hx480_3, hx480_4, hx480_5⟩ := at_T27 HR0.out (ji22) p480 q480
                cases e480
                replace hx480_0 := (HB.out.cell (World.block_lt_of_cell? w _ hx480_0)).trans hx480_0
                replace hx480_1 := (HB.out.cell (World.block_lt_of_cell? w _ hx480_1)).trans hx480_1
                replace hx480_2 := (HB.out.cell (World.block_lt_of_cell? w _ hx480_2)).trans hx480_2
                replace hx480_3 := (HB.out.cell (World.block_lt_of_cell? w _ hx480_3)).trans hx480_3
                replace hx480_4 := (HB.out.cell (World.block_lt_of_cell? w _ hx480_4)).trans hx480_4
                replace hx480_5 := (HB.out.cell (World.block_lt_of_cell? w _ hx480_5)).trans hx480_5
                replace p480 := eq_true p480
                replace q480 := eq_true q480
                go_wp2_with (first | ((with_reducible refine gate_dst (N := 7) rfl ?_); refine box_event ?hg (N := 7) ?hd (cs := #[.bool false, .int .u64 0, .int .u64 0]) (t := 25) ?hr ?_; (case hd => rfl); (case hg => rfl); (case hr => first | (go_simp; done) | (go_simp; rfl)); intro gb481 hg w26 hbox hb; have n0_ := Aside0.mk (Kd.R_below (by (with_reducible repeat (first | apply Kd.R_alloc | apply Kd.R_drewN | apply Kd.R_drew)); exact HO_5.out) hb); have n1_ := Aside0.mk (below_step (by repeat (first | (with_reducible first | exact HB.out | apply below_alloc | apply pw_below_drewN | apply below_drew1) | exact HB.out)) hb); have n2_ := Aside0.mk (hbox); have n3_ := Aside0.mk ((by rw [hg]; exact (below_size (by repeat (first | (with_reducible first | exact HB.out | apply below_alloc | apply pw_below_drewN | apply below_drew1) | exact HB.out))) : w.heap.size ≤ gb481)); have n4_ := Aside0.mk ((by rw [hg]; exact (below_size (by repeat (first | (with_reducible first | exact HB.out | apply below_alloc | apply pw_below_drewN | apply below_drew1) | exact HB.out))) : w.heap.size ≤ gb481)); clear HO_5; clear HB; have HO_5 := n0_; have HB := n1_; have BK481 := n2_; have GW481 := n3_; have GE481 := n4_; clear n0_ n1_ n2_ n3_ n4_; clear hb hbox hg; have hcz27_0 : w26.cell? ⟨gb481, 0, none⟩ = some (.bool false) := (blk_cell BK481.out 0).trans rfl; have hcz27_1 : w26.cell? ⟨gb481, 1, none⟩ = some (.int .u64 0) := (blk_cell BK481.out 1).trans rfl; have hcz27_2 : w26.cell? ⟨gb481, 2, none⟩ = some (.int .u64 0) := (blk_cell BK481.out 2).trans rfl; have hfz27_0 := blk_frozen BK481.out 0; have hfz27_1 := blk_frozen BK481.out 1; have hfz27_2 := blk_frozen BK481.out 2))
                go_loopg [8, 9] k1 (fun kq v8 v9 w' => ∃ (x8_2 : List (S27)) (x9_2 : Int), v9 = .int .i64 x9_2 ∧ Aside0 (ddilaw32_UpstreamKnows.l1 kq l0 t473 x8_2 x9_2 ((rd_T27 l0 (ji22)).f0.f0) ((rd_T27 l0 (ji22)).f0.f1) ((rd_T27 l0 (ji22)).f0.f2) = some r) ∧ Aside0 (kq ≤ k1) ∧ Aside0 (Kd.R k35 35 w' w.heap.size (fun _ => True) (.slice Ao25 t473.length co25) t473) ∧ Aside0 (Kd.R k27 27 w' w.heap.size (fun _ => True) v8 x8_2) ∧ Aside0 (w'.heap[gb481]? = some (.cells #[.bool ((rd_T27 l0 (ji22)).f0.f0), .int .u64 ((rd_T27 l0 (ji22)).f0.f1), .int .u64 ((rd_T27 l0 (ji22)).f0.f2)] 25 (0, 0))) ∧ Aside0 (Below w.heap.size w w'))
                case atStart => exact ⟨(([] : List (S27))), (0), (by first | rfl | (simp; done) | (simp [*]; done)), H', ⟨Nat.le_refl _⟩, ⟨by (with_reducible repeat (first | apply Kd.R_alloc | apply Kd.R_drewN | apply Kd.R_drew)); exact Kd.R_mono (Kd.R_far (p := ⟨gb481, 2, none⟩) (Kd.R_far (p := ⟨gb481, 1, none⟩) (Kd.R_far (p := ⟨gb481, 0, none⟩) (Kd.R_types HO_5.out BK481.out (by decide)) (fun _ hk => hk.2) (.bool ((rd_T27 l0 (ji22)).f0.f0))) (fun _ hk => hk.2) (.int .u64 ((rd_T27 l0 (ji22)).f0.f1))) (fun _ hk => hk.2) (.int .u64 ((rd_T27 l0 (ji22)).f0.f2))) (fun _ hk => trivial)⟩, ⟨by first | exact Kd.R_nil _ _ _ _ _ | exact Kd.N_nil _ _ _ _ _ | exact Kd.V_nil _ _ _ _ _ | exact Kd.Q_nil _ _ _ _ _ | exact Kd.S_nil _ _ _ _ _⟩, ⟨by (with_reducible repeat (first | refine blk_drewN ?_ _ | refine blk_drew ?_ | refine blk_alloc ?_ _)); refine blk_put (cs := #[.bool ((rd_T27 l0 (ji22)).f0.f0), .int .u64 ((rd_T27 l0 (ji22)).f0.f1), .int .u64 0]) ?_ 2 _ rfl; (with_reducible repeat (first | refine blk_drewN ?_ _ | refine blk_drew ?_ | refine blk_alloc ?_ _)); refine blk_put (cs := #[.bool ((rd_T27 l0 (ji22)).f0.f0), .int .u64 0, .int .u64 0]) ?_ 1 _ rfl; (with_reducible repeat (first | refine blk_drewN ?_ _ | refine blk_drew ?_ | refine blk_alloc ?_ _)); refine blk_put (cs := #[.bool false, .int .u64 0, .int .u64 0]) ?_ 0 _ rfl; (with_reducible repeat (first | refine blk_drewN ?_ _ | refine blk_drew ?_ | refine blk_alloc ?_ _)); exact BK481.out⟩, ⟨by repeat (first | (with_reducible first | exact HB.out | apply below_alloc | apply pw_below_drewN | apply below_drew1 | refine below_set ?_ GE481.out) | exact HB.out)⟩⟩
                case round =>
                  clear H'
                  try clear c1
                  try clear c2
                  try clear p2
                  try clear p4
                  try clear q4
                  try clear hx4
                  try clear c5
                  try clear c5b0
                  try clear c6
                  try clear p6
                  try clear c7
                  try clear c7b0
                  try clear c8
                  try clear c8b0
                  try clear c9
                  try clear c9b0
                  try clear c11
                  try clear c11b0
                  try clear c15
                  try clear c15b0
                  try clear c15b1
                  try clear c15b2
                  try clear c16
                  try clear c16b0
                  try clear c16b1
                  try clear c16b2
                  try clear c21
                  try clear c21b0
                  try clear c21b1
                  try clear c22
                  try clear c23
                  try clear c23b0
                  try clear c24
                  try clear c24b0
                  try clear hcz27_0
                  try clear hcz27_1
                  try clear hcz27_2
                  try clear hfz27_0
                  try clear hfz27_1
                  try clear hfz27_2
                  try clear hx476_0
                  try clear hx476_1
                  try clear hx476_2
                  try clear hx476_3
                  try clear hx476_4
                  try clear hx476_5
                  try clear hx477_0
                  try clear hx477_1
                  try clear hx477_2
                  try clear hx477_3
                  try clear hx477_4
                  try clear hx477_5
                  try clear hx480_0
                  try clear hx480_1
                  try clear hx480_2
                  try clear hx480_3
                  try clear hx480_4
                  try clear hx480_5
                  try clear p2
                  try clear p476
                  try clear p477
                  try clear p480
                  try clear q476
                  try clear q477
                  try clear q480
                  obtain ⟨x8_2, x9_2, rfl, HA, HK2, HO_5, HO_8, BK481, HB⟩ := hrel
                  cases gk with
                  | zero => exact absurd HA.out (by simp [ddilaw32_UpstreamKnows.l1])
                  | succ k2 =>
                    have H := HA.out
                    clear HA
                    simp only [ddilaw32_UpstreamKnows.l1] at H
                    have HC28 := Aside0.mk H
                    clear H
                    go_upto_region 12 with (fail)
                    go_cut [59] (fun v59 wc => ∃ (kq : Nat) (x59_27 : Bool), v59 = .bool x59_27 ∧ Aside0 (ddilaw32_UpstreamKnows.j2 kq l0 t473 x8_2 x9_2 x59_27 ((rd_T27 l0 (ji22)).f0.f0) ((rd_T27 l0 (ji22)).f0.f1) ((rd_T27 l0 (ji22)).f0.f2) = some r) ∧ Aside0 (kq ≤ k2) ∧ Aside0 (Kd.R k35 35 wc w.heap.size (fun _ => True) (.slice Ao25 t473.length co25) t473) ∧ Aside0 (Kd.R k27 27 wc w.heap.size (fun _ => True) u8 x8_2) ∧ Aside0 (wc.heap[gb481]? = some (.cells #[.bool ((rd_T27 l0 (ji22)).f0.f0), .int .u64 ((rd_T27 l0 (ji22)).f0.f1), .int .u64 ((rd_T27 l0 (ji22)).f0.f2)] 25 (0, 0))) ∧ Aside0 (Below w.heap.size w wc))
                    case first =>
                      have H := HC28.out
                      clear HC28
                      by_cases c29 : x9_2 < (l0.length : Int)
                      · rw [if_pos c29] at H
                        have c29b0 : decide (x9_2 < (l0.length : Int)) = true := decide_eq_true c29
                        clear c29
                        (first | rw [c29b0] | (simp only [i64_w, i32_w]; rw [c29b0]) | skip)
                        have H' := Aside0.mk H
                        clear H
                        go_wp2
                        go_meet
                        case rel => exact ⟨_, (decide (x9_2 < 60)), (by first | rfl | (simp; done) | (simp [*]; done)), H', ⟨by have := HK1.out; have := HK2.out; first | omega | exact Nat.le_refl _⟩, ⟨by (with_reducible repeat (first | apply Kd.R_alloc | apply Kd.R_drewN | apply Kd.R_drew)); exact HO_5.out⟩, ⟨by (with_reducible repeat (first | apply Kd.R_alloc | apply Kd.R_drewN | apply Kd.R_drew)); exact HO_8.out⟩, ⟨by (with_reducible repeat (first | refine blk_drewN ?_ _ | refine blk_drew ?_ | refine blk_alloc ?_ _)); exact BK481.out⟩, ⟨by repeat (first | (with_reducible first | exact HB.out | apply below_alloc | apply pw_below_drewN | apply below_drew1 | refine below_set ?_ GE481.out) | exact HB.out)⟩⟩
                      · rw [if_neg c29] at H
                        have c29b0 : decide (x9_2 < (l0.length : Int)) = false := decide_eq_false c29
                        clear c29
                        (first | rw [c29b0] | (simp only [i64_w, i32_w]; rw [c29b0]) | skip)
                        have H' := Aside0.mk H
                        clear H
                        go_wp2
                        go_meet
                        case rel => exact ⟨_, (false), (by first | rfl | (simp; done) | (simp [*]; done)), H', ⟨by have := HK1.out; have := HK2.out; first | omega | exact Nat.le_refl _⟩, ⟨by (with_reducible repeat (first | apply Kd.R_alloc | apply Kd.R_drewN | apply Kd.R_drew)); exact HO_5.out⟩, ⟨by (with_reducible repeat (first | apply Kd.R_alloc | apply Kd.R_drewN | apply Kd.R_drew)); exact HO_8.out⟩, ⟨by (with_reducible repeat (first | refine blk_drewN ?_ _ | refine blk_drew ?_ | refine blk_alloc ?_ _)); exact BK481.out⟩, ⟨by repeat (first | (with_reducible first | exact HB.out | apply below_alloc | apply pw_below_drewN | apply below_drew1 | refine below_set ?_ GE481.out) | exact HB.out)⟩⟩
                    case rest =>
                      clear HC28
                      try clear c1
                      try clear c2
                      try clear p2
                      try clear p4
                      try clear q4
                      try clear hx4
                      try clear c5
                      try clear c5b0
                      try clear c6
                      try clear p6
                      try clear c7
                      try clear c7b0
                      try clear c8
                      try clear c8b0
                      try clear c9
                      try clear c9b0
                      try clear c11
                      try clear c11b0
                      try clear c15
                      try clear c15b0
                      try clear c15b1
                      try clear c15b2
                      try clear c16
                      try clear c16b0
                      try clear c16b1
                      try clear c16b2
                      try clear c21
                      try clear c21b0
                      try clear c21b1
                      try clear c22
                      try clear c23
                      try clear c23b0
                      try clear c24
                      try clear c24b0
                      try clear c29
                      try clear c29b0
                      try clear hcz27_0
                      try clear hcz27_1
                      try clear hcz27_2
                      try clear hfz27_0
                      try clear hfz27_1
                      try clear hfz27_2
                      try clear hx476_0
                      try clear hx476_1
                      try clear hx476_2
                      try clear hx476_3
                      try clear hx476_4
                      try clear hx476_5
                      try clear hx477_0
                      try clear hx477_1
                      try clear hx477_2
                      try clear hx477_3
                      try clear hx477_4
                      try clear hx477_5
                      try clear hx480_0
                      try clear hx480_1
                      try clear hx480_2
                      try clear hx480_3
                      try clear hx480_4
                      try clear hx480_5
                      try clear p2
                      try clear p4
                      try clear p476
                      try clear p477
                      try clear p480
                      try clear p6
                      try clear q4
                      try clear q476
                      try clear q477
                      try clear q480
                      obtain ⟨kq, x59_27, rfl, HA, HJ27, HO_5, HO_8, BK481, HB⟩ := hcut
                      cases kq with
                      | zero => exact absurd HA.out (by simp [ddilaw32_UpstreamKnows.j2])
                      | succ kj27 =>
                        have H := HA.out
                        clear HA
                        simp only [ddilaw32_UpstreamKnows.j2] at H
                        by_cases c30 : x59_27 = true
                        · subst c30
                          have H1 : (if 0 ≤ x9_2 then (if x9_2 < (l0.length : Int) then (if (((rd_T27 l0 x9_2).f0.f0) == ((rd_T27 l0 (ji22)).f0.f0) && (((rd_T27 l0 x9_2).f0.f1) == ((rd_T27 l0 (ji22)).f0.f1) && (((rd_T27 l0 x9_2).f0.f2) == ((rd_T27 l0 (ji22)).f0.f2)))) = true then (if x8_2.length < 2932031007402 then (ddilaw32_UpstreamKnows.l1 kj27 l0 t473 (x8_2 ++ [(⟨(⟨(rd_T27 l0 x9_2).f0.f0, (rd_T27 l0 x9_2).f0.f1, (rd_T27 l0 x9_2).f0.f2⟩ : S25), (rd_T27 l0 x9_2).f1, (rd_T27 l0 x9_2).f2, (rd_T27 l0 x9_2).f3⟩ : S27)]) (wrap64 (x9_2 + 1)) ((rd_T27 l0 (ji22)).f0.f0) ((rd_T27 l0 (ji22)).f0.f1) ((rd_T27 l0 (ji22)).f0.f2)) else (none)) else (ddilaw32_UpstreamKnows.l1 kj27 l0 t473 x8_2 (wrap64 (x9_2 + 1)) ((rd_T27 l0 (ji22)).f0.f0) ((rd_T27 l0 (ji22)).f0.f1) ((rd_T27 l0 (ji22)).f0.f2))) else (none)) else (none)) = some r := by rw [if_pos rfl] at H; exact H
                          clear H
                          have H := H1
                          clear H1
                          by_cases c31 : 0 ≤ x9_2
                          · rw [if_pos c31] at H
                            have c31b0 : decide (0 ≤ x9_2) = true := decide_eq_true c31
                            clear c31
                            by_cases c32 : x9_2 < (l0.length : Int)
                            · rw [if_pos c32] at H
                              have c32b0 : decide (x9_2 < (l0.length : Int)) = true := decide_eq_true c32
                              clear c32
                              by_cases c33 : (((rd_T27 l0 x9_2).f0.f0) == ((rd_T27 l0 (ji22)).f0.f0) && (((rd_T27 l0 x9_2).f0.f1) == ((rd_T27 l0 (ji22)).f0.f1) && (((rd_T27 l0 x9_2).f0.f2) == ((rd_T27 l0 (ji22)).f0.f2)))) = true
                              · rw [if_pos c33] at H
                                have c33b0 : (((rd_T27 l0 x9_2).f0.f0) == ((rd_T27 l0 (ji22)).f0.f0) && (((rd_T27 l0 x9_2).f0.f1) == ((rd_T27 l0 (ji22)).f0.f1) && (((rd_T27 l0 x9_2).f0.f2) == ((rd_T27 l0 (ji22)).f0.f2)))) = true := c33
                                (try (have c33b1 : decide (((rd_T27 l0 x9_2).f0.f0) = ((rd_T27 l0 (ji22)).f0.f0) && (((rd_T27 l0 x9_2).f0.f1) == ((rd_T27 l0 (ji22)).f0.f1) && (((rd_T27 l0 x9_2).f0.f2) == ((rd_T27 l0 (ji22)).f0.f2)))) = true := by simpa using c33))
                                (try (have c33b2 : (((rd_T27 l0 x9_2).f0.f0) == ((rd_T27 l0 (ji22)).f0.f0) && (((rd_T27 l0 x9_2).f0.f1) == ((rd_T27 l0 (ji22)).f0.f1) && (((rd_T27 l0 x9_2).f0.f2) == ((rd_T27 l0 (ji22)).f0.f2)))) = true := by simpa using c33))
                                clear c33
                                by_cases c34 : x8_2.length < 2932031007402
                                · rw [if_pos c34] at H
                                  have LMc34 := Aside0.mk c34
                                  clear c34
                                  obtain ⟨y484, hy484⟩ : ∃ y_ : List (S27), y_ = (x8_2 ++ [(⟨(⟨(rd_T27 l0 x9_2).f0.f0, (rd_T27 l0 x9_2).f0.f1, (rd_T27 l0 x9_2).f0.f2⟩ : S25), (rd_T27 l0 x9_2).f1, (rd_T27 l0 x9_2).f2, (rd_T27 l0 x9_2).f3⟩ : S27)]) := ⟨_, rfl⟩
                                  replace H : (ddilaw32_UpstreamKnows.l1 kj27 l0 t473 y484 (wrap64 (x9_2 + 1)) ((rd_T27 l0 (ji22)).f0.f0) ((rd_T27 l0 (ji22)).f0.f1) ((rd_T27 l0 (ji22)).f0.f2)) = some r := by first | (rw [hy484]; with_reducible exact H) | (have H2_ := (Option.bind_some _ _).symm.trans H; rw [hy484]; with_reducible exact H2_) | (have H2_ := (Option.bind_some _ _).symm.trans H; with_reducible exact H2_) | with_reducible exact H | (rw [hy484]; exact H) | exact H
                                  have Ny484 := Aside0.mk hy484
                                  clear hy484
                                  have H' := Aside0.mk H
                                  clear H
                                  try go_wp2
                                  have n0_ := Aside0.mk (Kd.R_drew HO_5.out)
                                  have n1_ := Aside0.mk (Kd.R_drew HO_8.out)
                                  have n2_ := Aside0.mk (blk_drew BK481.out)
                                  have n3_ := Aside0.mk (below_drew1 HB.out)
                                  clear HO_5
                                  clear HO_8
                                  clear BK481
                                  clear HB
                                  have HO_5 := n0_
                                  have HO_8 := n1_
                                  have BK481 := n2_
                                  have HB := n3_
                                  clear n0_ n1_ n2_ n3_
                                  have p482 : 0 ≤ (x9_2 : Int) := of_decide_eq_true (by first | (with_reducible assumption) | assumption)
                                  have q482 : x9_2 < (l0.length : Int) := of_decide_eq_true (by first | (with_reducible assumption) | assumption)
                                  obtain ⟨ad482, e482, hx482_0, hx482_1, hx482_2, hx482_3, hx482_4, hx482_5⟩ := at_T27 HR0.out x9_2 p482 q482
                                  have hw482_5 := hx482_5
                                  have hw482_4 := hx482_4
                                  have hw482_3 := hx482_3
                                  have hw482_2 := hx482_2
                                  have hw482_1 := hx482_1
                                  have hw482_0 := hx482_0
                                  obtain rfl : ad480 = ad482 := (by injection e482)
                                  replace hx482_0 := (HB.out.cell (World.block_lt_of_cell? w _ hx482_0)).trans hx482_0
                                  replace hx482_1 := (HB.out.cell (World.block_lt_of_cell? w _ hx482_1)).trans hx482_1
                                  replace hx482_2 := (HB.out.cell (World.block_lt_of_cell? w _ hx482_2)).trans hx482_2
                                  replace hx482_3 := (HB.out.cell (World.block_lt_of_cell? w _ hx482_3)).trans hx482_3
                                  replace hx482_4 := (HB.out.cell (World.block_lt_of_cell? w _ hx482_4)).trans hx482_4
                                  replace hx482_5 := (HB.out.cell (World.block_lt_of_cell? w _ hx482_5)).trans hx482_5
                                  replace p482 := eq_true p482
                                  replace q482 := eq_true q482
                                  refine start_ (n := 7) (S := fun w' => w'.cell? ⟨gb481, 0, none⟩ = some (.bool ((rd_T27 l0 (ji22)).f0.f0)) ∧ w'.cell? ⟨gb481, 1, none⟩ = some (.int .u64 ((rd_T27 l0 (ji22)).f0.f1)) ∧ w'.cell? ⟨gb481, 2, none⟩ = some (.int .u64 ((rd_T27 l0 (ji22)).f0.f2)) ∧ w'.cell? (ad480.add ((x9_2).toNat * 6)) = some (.bool ((rd_T27 l0 x9_2).f0.f0)) ∧ w'.cell? ⟨(ad480.add ((x9_2).toNat * 6)).block, (ad480.add ((x9_2).toNat * 6)).off + 1, none⟩ = some (.int .u64 ((rd_T27 l0 x9_2).f0.f1)) ∧ w'.cell? ⟨(ad480.add ((x9_2).toNat * 6)).block, (ad480.add ((x9_2).toNat * 6)).off + 2, none⟩ = some (.int .u64 ((rd_T27 l0 x9_2).f0.f2)) ∧ w'.cell? ⟨(ad480.add ((x9_2).toNat * 6)).block, (ad480.add ((x9_2).toNat * 6)).off + 3, none⟩ = some (.bool ((rd_T27 l0 x9_2).f1)) ∧ w'.cell? ⟨(ad480.add ((x9_2).toNat * 6)).block, (ad480.add ((x9_2).toNat * 6)).off + 4, none⟩ = some (.int .i64 ((rd_T27 l0 x9_2).f2)) ∧ w'.cell? ⟨(ad480.add ((x9_2).toNat * 6)).block, (ad480.add ((x9_2).toNat * 6)).off + 5, none⟩ = some (.int .i64 ((rd_T27 l0 x9_2).f3))) (ds := []) #[false, false, false, false, false, false, false] (by kernel_rfl) rfl rfl ⟨(blk_cell BK481.out 0).trans rfl, (blk_cell BK481.out 1).trans rfl, (blk_cell BK481.out 2).trans rfl, ((HB.out.cell (World.block_lt_of_cell? w _ hw482_0)).trans hw482_0), ((HB.out.cell (World.block_lt_of_cell? w _ hw482_1)).trans hw482_1), ((HB.out.cell (World.block_lt_of_cell? w _ hw482_2)).trans hw482_2), ((HB.out.cell (World.block_lt_of_cell? w _ hw482_3)).trans hw482_3), ((HB.out.cell (World.block_lt_of_cell? w _ hw482_4)).trans hw482_4), ((HB.out.cell (World.block_lt_of_cell? w _ hw482_5)).trans hw482_5)⟩ (fun hHeld => ?_)
                                  generalize wc.drew = w35 at HO_5 HO_8 BK481 HB hx482_0 hx482_1 hx482_2 hx482_3 hx482_4 hx482_5 hHeld ⊢
                                  refine pure_ (i := 0) (N := some 62) (v := ?_) (a' := ?_) #[true, false, false, false, false, false, false] rfl rfl (by kernel_rfl) (fun _ _ _ h => h) (Or.inl ⟨by rfl, ?_⟩) ?_ ?_
                                  rotate_left
                                  · intro w'
                                    go_simp
                                    with_reducible rfl
                                  rotate_left
                                  · simp only [Act.put, List.setIfInBounds_toArray, List.set_cons_zero, List.set_cons_succ, i64_w, i32_w]
                                    rfl
                                  refine pure_ (i := 1) (N := some 63) (v := ?_) (a' := ?_) #[true, true, false, false, false, false, false] rfl rfl (by kernel_rfl) (fun _ _ _ h => h) (Or.inl ⟨by rfl, ?_⟩) ?_ ?_
                                  rotate_left
                                  · intro w'
                                    go_simp
                                    with_reducible rfl
                                  rotate_left
                                  · simp only [Act.put, List.setIfInBounds_toArray, List.set_cons_zero, List.set_cons_succ, i64_w, i32_w]
                                    rfl
                                  refine pure_ (i := 2) (N := some 64) (v := ?_) (a' := ?_) #[true, true, true, false, false, false, false] rfl rfl (by kernel_rfl) (fun _ _ _ h => h) (Or.inl ⟨by rfl, ?_⟩) ?_ ?_
                                  rotate_left
                                  · intro w'
                                    go_simp
                                    with_reducible rfl
                                  rotate_left
                                  · simp only [Act.put, List.setIfInBounds_toArray, List.set_cons_zero, List.set_cons_succ, i64_w, i32_w]
                                    rfl
                                  refine pure_ (i := 3) (N := some 65) (v := ?_) (a' := ?_) #[true, true, true, true, false, false, false] rfl rfl (by kernel_rfl) (fun _ _ _ h => h) (Or.inl ⟨by rfl, ?_⟩) ?_ ?_
                                  rotate_left
                                  · intro w'
                                    go_simp
                                    with_reducible rfl
                                  rotate_left
                                  · simp only [Act.put, List.setIfInBounds_toArray, List.set_cons_zero, List.set_cons_succ, i64_w, i32_w]
                                    rfl
                                  refine take_ (i := 4) (N := some 66) (v := ?_) (a' := ?_) #[true, true, true, true, true, false, false] rfl rfl (by kernel_rfl) (fun _ _ _ h => h) (Or.inl ⟨by rfl, ?_⟩) hHeld ?_ ?_
                                  rotate_left
                                  · rintro w' ⟨s0, s1, s2, s3, s4, s5, s6, s7, s8⟩
                                    go_simp
                                    with_reducible rfl
                                  rotate_left
                                  · simp only [Act.put, List.setIfInBounds_toArray, List.set_cons_zero, List.set_cons_succ, i64_w, i32_w]
                                    rfl
                                  refine take_ (i := 5) (N := some 67) (v := ?_) (a' := ?_) #[true, true, true, true, true, true, false] rfl rfl (by kernel_rfl) (fun _ _ _ h => h) (Or.inl ⟨by rfl, ?_⟩) hHeld ?_ ?_
                                  rotate_left
                                  · rintro w' ⟨s0, s1, s2, s3, s4, s5, s6, s7, s8⟩
                                    go_simp
                                    with_reducible rfl
                                  rotate_left
                                  · simp only [Act.put, List.setIfInBounds_toArray, List.set_cons_zero, List.set_cons_succ, i64_w, i32_w]
                                    rfl
                                  refine pure_ (i := 6) (N := some 68) (v := ?_) (a' := ?_) #[true, true, true, true, true, true, true] rfl rfl (by kernel_rfl) (fun _ _ _ h => h) (Or.inl ⟨by rfl, ?_⟩) ?_ ?_
                                  rotate_left
                                  · intro w'
                                    go_simp
                                    with_reducible rfl
                                  rotate_left
                                  · simp only [Act.put, List.setIfInBounds_toArray, List.set_cons_zero, List.set_cons_succ, i64_w, i32_w]
                                    rfl
                                  refine done_ (by kernel_rfl) ?_
                                  have p483 : 0 ≤ (x9_2 : Int) := of_decide_eq_true (by first | (with_reducible assumption) | assumption)
                                  have q483 : x9_2 < (l0.length : Int) := of_decide_eq_true (by first | (with_reducible assumption) | assumption)
                                  obtain ⟨ad483, e483, hx483_0, hx483_1, hx483_2, hx483_3, hx483_4, hx483_5⟩ := at_T27 HR0.out x9_2 p483 q483
                                  obtain rfl : ad480 = ad483 := (by injection e483)
                                  replace hx483_0 := (HB.out.cell (World.block_lt_of_cell? w _ hx483_0)).trans hx483_0
                                  replace hx483_1 := (HB.out.cell (World.block_lt_of_cell? w _ hx483_1)).trans hx483_1
                                  replace hx483_2 := (HB.out.cell (World.block_lt_of_cell? w _ hx483_2)).trans hx483_2
                                  replace hx483_3 := (HB.out.cell (World.block_lt_of_cell? w _ hx483_3)).trans hx483_3
                                  replace hx483_4 := (HB.out.cell (World.block_lt_of_cell? w _ hx483_4)).trans hx483_4
                                  replace hx483_5 := (HB.out.cell (World.block_lt_of_cell? w _ hx483_5)).trans hx483_5
                                  replace p483 := eq_true p483
                                  replace q483 := eq_true q483
                                  try go_wp2_with (first | ((with_reducible refine gate_builtin (b := .append) (xs := #[.tmp 69, .tmp 74]) rfl ?_); at_builtin; refine Kd.R_append k27 (w0 := w) w.heap.size rfl (.tmp 69) (.tmp 74) 50 27 (.agg #[(.bool false), (.int .u64 0), (.int .u64 0), (.bool false), (.int .i64 0), (.int .i64 0)]) 48 rfl Try.underlying50 info27 rfl (by decide) (by omega) u8 x8_2 (⟨(⟨(rd_T27 l0 x9_2).f0.f0, (rd_T27 l0 x9_2).f0.f1, (rd_T27 l0 x9_2).f0.f2⟩ : S25), (rd_T27 l0 x9_2).f1, (rd_T27 l0 x9_2).f2, (rd_T27 l0 x9_2).f3⟩ : S27) [.bool ((rd_T27 l0 x9_2).f0.f0), .int .u64 ((rd_T27 l0 x9_2).f0.f1), .int .u64 ((rd_T27 l0 x9_2).f0.f2), .bool ((rd_T27 l0 x9_2).f1), .int .i64 ((rd_T27 l0 x9_2).f2), .int .i64 ((rd_T27 l0 x9_2).f3)] (fun _ => True) (fun _ => False) rfl rfl ?aP (fun _ hk => hk.elim) ?aF ?aO ?aB ?aS ?aL ?_; (case aP => exact k27_mkM _ _ _ (⟨(⟨(rd_T27 l0 x9_2).f0.f0, (rd_T27 l0 x9_2).f0.f1, (rd_T27 l0 x9_2).f0.f2⟩ : S25), (rd_T27 l0 x9_2).f1, (rd_T27 l0 x9_2).f2, (rd_T27 l0 x9_2).f3⟩ : S27)); (case aB => exact (by repeat (first | (with_reducible first | exact HB.out | apply below_alloc | apply pw_below_drewN | apply below_drew1 | refine below_set ?_ GE481.out) | exact HB.out))); (case aF => exact (fun _ _ => trivial)); (case aO => exact (by (with_reducible repeat (first | apply Kd.R_alloc | apply Kd.R_drewN | apply Kd.R_drew)); exact HO_8.out)); (case aS => exact (below_size (by repeat (first | (with_reducible first | exact HB.out | apply below_alloc | apply pw_below_drewN | apply below_drew1 | refine below_set ?_ GE481.out) | exact HB.out)))); (case aL => have := LMc34.out; omega); intro v485 w36 ho hb hg hat; rw [← Ny484.out] at ho; have n0_ := Aside0.mk (Kd.R_over' (by (with_reducible repeat (first | apply Kd.R_alloc | apply Kd.R_drewN | apply Kd.R_drew)); exact HO_5.out) (Kd.R_typed (by (with_reducible repeat (first | apply Kd.R_alloc | apply Kd.R_drewN | apply Kd.R_drew)); exact HO_8.out)) (by decide) hg); have n1_ := Aside0.mk (blk_grown (g := gb481) (o := .cells #[.bool ((rd_T27 l0 (ji22)).f0.f0), .int .u64 ((rd_T27 l0 (ji22)).f0.f1), .int .u64 ((rd_T27 l0 (ji22)).f0.f2)] 25 (0, 0)) (by (with_reducible repeat (first | refine blk_drewN ?_ _ | refine blk_drew ?_ | refine blk_alloc ?_ _)); exact BK481.out) hg (Kd.R_ne HO_8.out BK481.out (by decide))); have n2_ := Aside0.mk (hb); have n3_ := Aside0.mk (ho); clear HO_5; clear BK481; clear HB; clear HO_8; have HO_5 := n0_; have BK481 := n1_; have HB := n2_; have HO486 := n3_; clear n0_ n1_ n2_ n3_; clear ho hb hg hat))
                                  go_roundg kj27
                                  case measure => have := HK1.out; have := HK2.out; have := HJ27.out; omega
                                  case rel => exact ⟨(y484), (wrap64 (x9_2 + 1)), (by first | rfl | (simp; done) | (simp [*]; done)), H', ⟨by have := HK1.out; have := HK2.out; have := HJ27.out; omega⟩, ⟨by (with_reducible repeat (first | apply Kd.R_alloc | apply Kd.R_drewN | apply Kd.R_drew)); exact HO_5.out⟩, ⟨by (with_reducible repeat (first | apply Kd.R_alloc | apply Kd.R_drewN | apply Kd.R_drew)); exact HO486.out⟩, ⟨by (with_reducible repeat (first | refine blk_drewN ?_ _ | refine blk_drew ?_ | refine blk_alloc ?_ _)); exact BK481.out⟩, ⟨by repeat (first | (with_reducible first | exact HB.out | apply below_alloc | apply pw_below_drewN | apply below_drew1 | refine below_set ?_ GE481.out) | exact HB.out)⟩⟩
                                · rw [if_neg c34] at H
                                  exact absurd H (by simp)
                              · rw [if_neg c33] at H
                                have c33b0 : (((rd_T27 l0 x9_2).f0.f0) == ((rd_T27 l0 (ji22)).f0.f0) && (((rd_T27 l0 x9_2).f0.f1) == ((rd_T27 l0 (ji22)).f0.f1) && (((rd_T27 l0 x9_2).f0.f2) == ((rd_T27 l0 (ji22)).f0.f2)))) = false := by simpa using c33
                                (try (have c33b1 : decide (((rd_T27 l0 x9_2).f0.f0) = ((rd_T27 l0 (ji22)).f0.f0) && (((rd_T27 l0 x9_2).f0.f1) == ((rd_T27 l0 (ji22)).f0.f1) && (((rd_T27 l0 x9_2).f0.f2) == ((rd_T27 l0 (ji22)).f0.f2)))) = false := by simpa using c33))
                                (try (have c33b2 : (((rd_T27 l0 x9_2).f0.f0) == ((rd_T27 l0 (ji22)).f0.f0) && (((rd_T27 l0 x9_2).f0.f1) == ((rd_T27 l0 (ji22)).f0.f1) && (((rd_T27 l0 x9_2).f0.f2) == ((rd_T27 l0 (ji22)).f0.f2)))) = false := by simpa using c33))
                                (try (have c33b3 : ¬ (((rd_T27 l0 x9_2).f0.f0) = ((rd_T27 l0 (ji22)).f0.f0) && (((rd_T27 l0 x9_2).f0.f1) == ((rd_T27 l0 (ji22)).f0.f1) && (((rd_T27 l0 x9_2).f0.f2) == ((rd_T27 l0 (ji22)).f0.f2)))) := by simpa using c33))
                                clear c33
                                have H' := Aside0.mk H
                                clear H
                                try go_wp2
                                have n0_ := Aside0.mk (Kd.R_drew HO_5.out)
                                have n1_ := Aside0.mk (Kd.R_drew HO_8.out)
                                have n2_ := Aside0.mk (blk_drew BK481.out)
                                have n3_ := Aside0.mk (below_drew1 HB.out)
                                clear HO_5
                                clear HO_8
                                clear BK481
                                clear HB
                                have HO_5 := n0_
                                have HO_8 := n1_
                                have BK481 := n2_
                                have HB := n3_
                                clear n0_ n1_ n2_ n3_
                                have p482 : 0 ≤ (x9_2 : Int) := of_decide_eq_true (by first | (with_reducible assumption) | assumption)
                                have q482 : x9_2 < (l0.length : Int) := of_decide_eq_true (by first | (with_reducible assumption) | assumption)
                                obtain ⟨ad482, e482, hx482_0, hx482_1, hx482_2, hx482_3, hx482_4, hx482_5⟩ := at_T27 HR0.out x9_2 p482 q482
                                have hw482_5 := hx482_5
                                have hw482_4 := hx482_4
                                have hw482_3 := hx482_3
                                have hw482_2 := hx482_2
                                have hw482_1 := hx482_1
                                have hw482_0 := hx482_0
                                obtain rfl : ad480 = ad482 := (by injection e482)
                                replace hx482_0 := (HB.out.cell (World.block_lt_of_cell? w _ hx482_0)).trans hx482_0
                                replace hx482_1 := (HB.out.cell (World.block_lt_of_cell? w _ hx482_1)).trans hx482_1
                                replace hx482_2 := (HB.out.cell (World.block_lt_of_cell? w _ hx482_2)).trans hx482_2
                                replace hx482_3 := (HB.out.cell (World.block_lt_of_cell? w _ hx482_3)).trans hx482_3
                                replace hx482_4 := (HB.out.cell (World.block_lt_of_cell? w _ hx482_4)).trans hx482_4
                                replace hx482_5 := (HB.out.cell (World.block_lt_of_cell? w _ hx482_5)).trans hx482_5
                                replace p482 := eq_true p482
                                replace q482 := eq_true q482
                                refine start_ (n := 7) (S := fun w' => w'.cell? ⟨gb481, 0, none⟩ = some (.bool ((rd_T27 l0 (ji22)).f0.f0)) ∧ w'.cell? ⟨gb481, 1, none⟩ = some (.int .u64 ((rd_T27 l0 (ji22)).f0.f1)) ∧ w'.cell? ⟨gb481, 2, none⟩ = some (.int .u64 ((rd_T27 l0 (ji22)).f0.f2)) ∧ w'.cell? (ad480.add ((x9_2).toNat * 6)) = some (.bool ((rd_T27 l0 x9_2).f0.f0)) ∧ w'.cell? ⟨(ad480.add ((x9_2).toNat * 6)).block, (ad480.add ((x9_2).toNat * 6)).off + 1, none⟩ = some (.int .u64 ((rd_T27 l0 x9_2).f0.f1)) ∧ w'.cell? ⟨(ad480.add ((x9_2).toNat * 6)).block, (ad480.add ((x9_2).toNat * 6)).off + 2, none⟩ = some (.int .u64 ((rd_T27 l0 x9_2).f0.f2)) ∧ w'.cell? ⟨(ad480.add ((x9_2).toNat * 6)).block, (ad480.add ((x9_2).toNat * 6)).off + 3, none⟩ = some (.bool ((rd_T27 l0 x9_2).f1)) ∧ w'.cell? ⟨(ad480.add ((x9_2).toNat * 6)).block, (ad480.add ((x9_2).toNat * 6)).off + 4, none⟩ = some (.int .i64 ((rd_T27 l0 x9_2).f2)) ∧ w'.cell? ⟨(ad480.add ((x9_2).toNat * 6)).block, (ad480.add ((x9_2).toNat * 6)).off + 5, none⟩ = some (.int .i64 ((rd_T27 l0 x9_2).f3))) (ds := []) #[false, false, false, false, false, false, false] (by kernel_rfl) rfl rfl ⟨(blk_cell BK481.out 0).trans rfl, (blk_cell BK481.out 1).trans rfl, (blk_cell BK481.out 2).trans rfl, ((HB.out.cell (World.block_lt_of_cell? w _ hw482_0)).trans hw482_0), ((HB.out.cell (World.block_lt_of_cell? w _ hw482_1)).trans hw482_1), ((HB.out.cell (World.block_lt_of_cell? w _ hw482_2)).trans hw482_2), ((HB.out.cell (World.block_lt_of_cell? w _ hw482_3)).trans hw482_3), ((HB.out.cell (World.block_lt_of_cell? w _ hw482_4)).trans hw482_4), ((HB.out.cell (World.block_lt_of_cell? w _ hw482_5)).trans hw482_5)⟩ (fun hHeld => ?_)
                                generalize wc.drew = w37 at HO_5 HO_8 BK481 HB hx482_0 hx482_1 hx482_2 hx482_3 hx482_4 hx482_5 hHeld ⊢
                                refine pure_ (i := 0) (N := some 62) (v := ?_) (a' := ?_) #[true, false, false, false, false, false, false] rfl rfl (by kernel_rfl) (fun _ _ _ h => h) (Or.inl ⟨by rfl, ?_⟩) ?_ ?_
                                rotate_left
                                · intro w'
                                  go_simp
                                  with_reducible rfl
                                rotate_left
                                · simp only [Act.put, List.setIfInBounds_toArray, List.set_cons_zero, List.set_cons_succ, i64_w, i32_w]
                                  rfl
                                refine pure_ (i := 1) (N := some 63) (v := ?_) (a' := ?_) #[true, true, false, false, false, false, false] rfl rfl (by kernel_rfl) (fun _ _ _ h => h) (Or.inl ⟨by rfl, ?_⟩) ?_ ?_
                                rotate_left
                                · intro w'
                                  go_simp
                                  with_reducible rfl
                                rotate_left
                                · simp only [Act.put, List.setIfInBounds_toArray, List.set_cons_zero, List.set_cons_succ, i64_w, i32_w]
                                  rfl
                                refine pure_ (i := 2) (N := some 64) (v := ?_) (a' := ?_) #[true, true, true, false, false, false, false] rfl rfl (by kernel_rfl) (fun _ _ _ h => h) (Or.inl ⟨by rfl, ?_⟩) ?_ ?_
                                rotate_left
                                · intro w'
                                  go_simp
                                  with_reducible rfl
                                rotate_left
                                · simp only [Act.put, List.setIfInBounds_toArray, List.set_cons_zero, List.set_cons_succ, i64_w, i32_w]
                                  rfl
                                refine pure_ (i := 3) (N := some 65) (v := ?_) (a' := ?_) #[true, true, true, true, false, false, false] rfl rfl (by kernel_rfl) (fun _ _ _ h => h) (Or.inl ⟨by rfl, ?_⟩) ?_ ?_
                                rotate_left
                                · intro w'
                                  go_simp
                                  with_reducible rfl
                                rotate_left
                                · simp only [Act.put, List.setIfInBounds_toArray, List.set_cons_zero, List.set_cons_succ, i64_w, i32_w]
                                  rfl
                                refine take_ (i := 4) (N := some 66) (v := ?_) (a' := ?_) #[true, true, true, true, true, false, false] rfl rfl (by kernel_rfl) (fun _ _ _ h => h) (Or.inl ⟨by rfl, ?_⟩) hHeld ?_ ?_
                                rotate_left
                                · rintro w' ⟨s0, s1, s2, s3, s4, s5, s6, s7, s8⟩
                                  go_simp
                                  with_reducible rfl
                                rotate_left
                                · simp only [Act.put, List.setIfInBounds_toArray, List.set_cons_zero, List.set_cons_succ, i64_w, i32_w]
                                  rfl
                                refine take_ (i := 5) (N := some 67) (v := ?_) (a' := ?_) #[true, true, true, true, true, true, false] rfl rfl (by kernel_rfl) (fun _ _ _ h => h) (Or.inl ⟨by rfl, ?_⟩) hHeld ?_ ?_
                                rotate_left
                                · rintro w' ⟨s0, s1, s2, s3, s4, s5, s6, s7, s8⟩
                                  go_simp
                                  with_reducible rfl
                                rotate_left
                                · simp only [Act.put, List.setIfInBounds_toArray, List.set_cons_zero, List.set_cons_succ, i64_w, i32_w]
                                  rfl
                                refine pure_ (i := 6) (N := some 68) (v := ?_) (a' := ?_) #[true, true, true, true, true, true, true] rfl rfl (by kernel_rfl) (fun _ _ _ h => h) (Or.inl ⟨by rfl, ?_⟩) ?_ ?_
                                rotate_left
                                · intro w'
                                  go_simp
                                  with_reducible rfl
                                rotate_left
                                · simp only [Act.put, List.setIfInBounds_toArray, List.set_cons_zero, List.set_cons_succ, i64_w, i32_w]
                                  rfl
                                refine done_ (by kernel_rfl) ?_
                                try go_wp2
                                go_roundg kj27
                                case measure => have := HK1.out; have := HK2.out; have := HJ27.out; omega
                                case rel => exact ⟨(x8_2), (wrap64 (x9_2 + 1)), (by first | rfl | (simp; done) | (simp [*]; done)), H', ⟨by have := HK1.out; have := HK2.out; have := HJ27.out; omega⟩, ⟨by (with_reducible repeat (first | apply Kd.R_alloc | apply Kd.R_drewN | apply Kd.R_drew)); exact HO_5.out⟩, ⟨by (with_reducible repeat (first | apply Kd.R_alloc | apply Kd.R_drewN | apply Kd.R_drew)); exact HO_8.out⟩, ⟨by (with_reducible repeat (first | refine blk_drewN ?_ _ | refine blk_drew ?_ | refine blk_alloc ?_ _)); exact BK481.out⟩, ⟨by repeat (first | (with_reducible first | exact HB.out | apply below_alloc | apply pw_below_drewN | apply below_drew1 | refine below_set ?_ GE481.out) | exact HB.out)⟩⟩
                            · rw [if_neg c32] at H
                              exact absurd H (by simp)
                          · rw [if_neg c31] at H
                            exact absurd H (by simp)
                        · replace c30 := Bool.eq_false_iff.mpr c30
                          subst c30
                          have H1 : ((ddilaw32_play.f kj27 x8_2).bind fun t487 => ((upstream_Find.f kj27 t473 ((rd_T27 l0 (ji22)).f0.f0) ((rd_T27 l0 (ji22)).f0.f1) ((rd_T27 l0 (ji22)).f0.f2)).bind fun bt490 => (if (t487.length : Int) = 1 then (if 0 < (t487.length : Int) then (if ((((rd_T35 t487 0).f0.f0) == bt490.1 && (((rd_T35 t487 0).f0.f1) == bt490.2.1 && (((rd_T35 t487 0).f0.f2) == bt490.2.2.1))) && (((rd_T35 t487 0).f1) == bt490.2.2.2.1 && (((rd_T35 t487 0).f2) == bt490.2.2.2.2.1 && (((rd_T35 t487 0).f3) == bt490.2.2.2.2.2)))) = true then (if bt490.2.2.2.1 ≥ 1 then (if bt490.2.2.2.1 ≤ 30 then (if bt490.2.2.2.2.1 ≥ 0 then (if bt490.2.2.2.2.1 ≤ 6 then ((ddilaw32_awake.f kj27).bind fun t498 => (some t498)) else (some false)) else (some false)) else (some false)) else (some false)) else (some false)) else (none)) else (some false)))) = some r := by rw [if_neg (show ¬ (false = true) by decide)] at H; exact H
                          clear H
                          have H := H1
                          clear H1
                          replace H := Option.bind_eq_some_iff.mp H
                          obtain ⟨t487, A380, H⟩ := H
                          (try dsimp only at H)
                          have A38 := Aside0.mk A380
                          clear A380
                          replace H := Option.bind_eq_some_iff.mp H
                          obtain ⟨⟨t490, t491, t492, t493, t494, t495⟩, A390, H⟩ := H
                          (try dsimp only at H)
                          have A39 := Aside0.mk A390
                          clear A390
                          by_cases c40 : (t487.length : Int) = 1
                          · rw [if_pos c40] at H
                            have c40b0 : ((t487.length : Int) == 1) = true := beq_iff_eq.mpr c40
                            have c40b1 : ((t487.length : Int) != 1) = false := bne_eq_false_iff_eq.mpr c40
                            clear c40
                            by_cases c41 : 0 < (t487.length : Int)
                            · rw [if_pos c41] at H
                              have c41b0 : decide (0 < (t487.length : Int)) = true := decide_eq_true c41
                              have c41b1 : decide (0 < t487.length) = true := decide_eq_true (by omega)
                              clear c41
                              by_cases c42 : ((((rd_T35 t487 0).f0.f0) == t490 && (((rd_T35 t487 0).f0.f1) == t491 && (((rd_T35 t487 0).f0.f2) == t492))) && (((rd_T35 t487 0).f1) == t493 && (((rd_T35 t487 0).f2) == t494 && (((rd_T35 t487 0).f3) == t495)))) = true
                              · rw [if_pos c42] at H
                                have c42b0 : ((((rd_T35 t487 0).f0.f0) == t490 && (((rd_T35 t487 0).f0.f1) == t491 && (((rd_T35 t487 0).f0.f2) == t492))) && (((rd_T35 t487 0).f1) == t493 && (((rd_T35 t487 0).f2) == t494 && (((rd_T35 t487 0).f3) == t495)))) = true := c42
                                clear c42
                                by_cases c43 : t493 ≥ 1
                                · rw [if_pos c43] at H
                                  have c43b0 : decide (1 ≤ t493) = true := decide_eq_true c43
                                  clear c43
                                  by_cases c44 : t493 ≤ 30
                                  · rw [if_pos c44] at H
                                    have c44b0 : decide (t493 ≤ 30) = true := decide_eq_true c44
                                    clear c44
                                    by_cases c45 : t494 ≥ 0
                                    · rw [if_pos c45] at H
                                      have c45b0 : decide (0 ≤ t494) = true := decide_eq_true c45
                                      clear c45
                                      by_cases c46 : t494 ≤ 6
                                      · rw [if_pos c46] at H
                                        have c46b0 : decide (t494 ≤ 6) = true := decide_eq_true c46
                                        clear c46
                                        replace H := Option.bind_eq_some_iff.mp H
                                        obtain ⟨t498, A470, H⟩ := H
                                        replace H : (some t498) = some r := H
                                        have A47 := Aside0.mk A470
                                        clear A470
                                        obtain rfl := Option.some.inj H
                                        obtain ⟨Ao48, co48, eo48⟩ := Kd.R_slice HO_8.out
                                        subst eo48
                                        try go_wp2_with (first | ((with_reducible refine gate_callee (f := 22) rfl ?_); refine goesL_ (some 77) rfl rfl Try.func22 (by kernel_rfl) rfl #[.slice Ao48 x8_2.length co48] rfl (by (try simp only [List.map_toArray, List.map_cons, List.map_nil]); first | done | rfl | (simp only [List.length_drop, List.length_take]; rfl)) ?_; (with_reducible refine (ddilaw32_play.calls kj27 _ _ x8_2 t487 _ ?side1 ?side2 A38.out).mono ?_); (case side1 => repeat (first | exact (Kd.R_reads' HO_8.out).2.2 | (with_reducible refine Kd.C_alloc ?_ _) | (with_reducible refine Kd.C_drewN ?_ _) | (with_reducible refine Kd.C_drew ?_))); (case side2 => exact (Kd.R_reads' HO_8.out).2.1); rintro e w49 ⟨v488, rfl, ho0, hb⟩; refine ⟨_, rfl, ?_⟩; have n0_ := Aside0.mk (Kd.R_elder' (by (with_reducible repeat (first | apply Kd.R_alloc | apply Kd.R_drewN | apply Kd.R_drew)); exact HO_5.out) (Kd.R_base ho0) hb); have n1_ := Aside0.mk (Kd.R_below (by (with_reducible repeat (first | apply Kd.R_alloc | apply Kd.R_drewN | apply Kd.R_drew)); exact HO_8.out) hb); have n2_ := Aside0.mk (Kd.R_lower (Kd.R_new' ho0 (Kd.R_lt (by (with_reducible repeat (first | apply Kd.R_alloc | apply Kd.R_drewN | apply Kd.R_drew)); exact HO_5.out))) (below_size (by repeat (first | (with_reducible first | exact HB.out | apply below_alloc | apply pw_below_drewN | apply below_drew1 | refine below_set ?_ GE481.out) | exact HB.out)))); have n3_ := Aside0.mk (blk_below (g := gb481) (o := .cells #[.bool ((rd_T27 l0 (ji22)).f0.f0), .int .u64 ((rd_T27 l0 (ji22)).f0.f1), .int .u64 ((rd_T27 l0 (ji22)).f0.f2)] 25 (0, 0)) (by (with_reducible repeat (first | refine blk_drewN ?_ _ | refine blk_drew ?_ | refine blk_alloc ?_ _)); exact BK481.out) hb); have n4_ := Aside0.mk (below_step (by repeat (first | (with_reducible first | exact HB.out | apply below_alloc | apply pw_below_drewN | apply below_drew1 | refine below_set ?_ GE481.out) | exact HB.out)) hb); clear HO_5; clear HO_8; clear BK481; clear HB; have HO_5 := n0_; have HO_8 := n1_; have HO489 := n2_; have BK481 := n3_; have HB := n4_; clear n0_ n1_ n2_ n3_ n4_; (try clear hb); (try clear hb2); (try clear hk); (try clear hi); (try clear ho0); have hcz50_0 : w49.cell? ⟨gb481, 0, none⟩ = some (.bool ((rd_T27 l0 (ji22)).f0.f0)) := (blk_cell BK481.out 0).trans rfl; have hcz50_1 : w49.cell? ⟨gb481, 1, none⟩ = some (.int .u64 ((rd_T27 l0 (ji22)).f0.f1)) := (blk_cell BK481.out 1).trans rfl; have hcz50_2 : w49.cell? ⟨gb481, 2, none⟩ = some (.int .u64 ((rd_T27 l0 (ji22)).f0.f2)) := (blk_cell BK481.out 2).trans rfl; have hfz50_0 := blk_frozen BK481.out 0; have hfz50_1 := blk_frozen BK481.out 1; have hfz50_2 := blk_frozen BK481.out 2) | ((with_reducible refine gate_callee (f := 15) rfl ?_); refine goesL_ (some 80) rfl rfl Try.func15 (by kernel_rfl) rfl #[.slice Ao25 t473.length co25, .agg #[.bool ((rd_T27 l0 (ji22)).f0.f0), .int .u64 ((rd_T27 l0 (ji22)).f0.f1), .int .u64 ((rd_T27 l0 (ji22)).f0.f2)]] rfl (by (try simp only [List.map_toArray, List.map_cons, List.map_nil]); first | done | (simp only [hji22]; rfl) | rfl | (simp only [List.length_drop, List.length_take]; rfl)) ?_; (with_reducible refine (upstream_Find.calls kj27 _ _ t473 ((rd_T27 l0 (ji22)).f0.f0) ((rd_T27 l0 (ji22)).f0.f1) ((rd_T27 l0 (ji22)).f0.f2) t490 t491 t492 t493 t494 t495 _ ?side1 ?side2 A39.out).mono ?_); (case side1 => repeat (first | exact (Kd.R_reads' HO_5.out).2.2 | (with_reducible refine Kd.C_alloc ?_ _) | (with_reducible refine Kd.C_drewN ?_ _) | (with_reducible refine Kd.C_drew ?_))); (case side2 => exact (Kd.R_reads' HO_5.out).2.1); rintro e w51 ⟨rfl, hb⟩; refine ⟨_, rfl, ?_⟩; have n0_ := Aside0.mk (Kd.R_below (by (with_reducible repeat (first | apply Kd.R_alloc | apply Kd.R_drewN | apply Kd.R_drew)); exact HO_5.out) hb); have n1_ := Aside0.mk (Kd.R_below (by (with_reducible repeat (first | apply Kd.R_alloc | apply Kd.R_drewN | apply Kd.R_drew)); exact HO_8.out) hb); have n2_ := Aside0.mk (Kd.R_below (by (with_reducible repeat (first | apply Kd.R_alloc | apply Kd.R_drewN | apply Kd.R_drew)); exact HO489.out) hb); have n3_ := Aside0.mk (blk_below (g := gb481) (o := .cells #[.bool ((rd_T27 l0 (ji22)).f0.f0), .int .u64 ((rd_T27 l0 (ji22)).f0.f1), .int .u64 ((rd_T27 l0 (ji22)).f0.f2)] 25 (0, 0)) (by (with_reducible repeat (first | refine blk_drewN ?_ _ | refine blk_drew ?_ | refine blk_alloc ?_ _)); exact BK481.out) hb); have n4_ := Aside0.mk (below_step (by repeat (first | (with_reducible first | exact HB.out | apply below_alloc | apply pw_below_drewN | apply below_drew1 | refine below_set ?_ GE481.out) | exact HB.out)) hb); clear HO_5; clear HO_8; clear HO489; clear BK481; clear HB; have HO_5 := n0_; have HO_8 := n1_; have HO489 := n2_; have BK481 := n3_; have HB := n4_; clear n0_ n1_ n2_ n3_ n4_; (try clear hb); (try clear hb2); (try clear hk); (try clear hi)) | ((with_reducible refine gate_dst (N := 11) rfl ?_); refine box_event ?hg (N := 11) ?hd (cs := #[.bool false, .int .u64 0, .int .u64 0, .int .i64 0, .int .i64 0, .int .i64 0]) (t := 35) ?hr ?_; (case hd => rfl); (case hg => rfl); (case hr => first | (go_simp; done) | (go_simp; rfl)); intro gb496 hg w52 hbox hb; have n0_ := Aside0.mk (Kd.R_below (Kd.R_elderB (by (with_reducible repeat (first | apply Kd.R_alloc | apply Kd.R_drewN | apply Kd.R_drew)); exact HO_5.out) gb496 (Nat.le_of_eq hg.symm)) hb); have n1_ := Aside0.mk (Kd.R_below (by (with_reducible repeat (first | apply Kd.R_alloc | apply Kd.R_drewN | apply Kd.R_drew)); exact HO_8.out) hb); have n2_ := Aside0.mk (Kd.R_below (Kd.R_elderB (by (with_reducible repeat (first | apply Kd.R_alloc | apply Kd.R_drewN | apply Kd.R_drew)); exact HO489.out) gb496 (Nat.le_of_eq hg.symm)) hb); have n3_ := Aside0.mk (blk_below (g := gb481) (o := .cells #[.bool ((rd_T27 l0 (ji22)).f0.f0), .int .u64 ((rd_T27 l0 (ji22)).f0.f1), .int .u64 ((rd_T27 l0 (ji22)).f0.f2)] 25 (0, 0)) (by (with_reducible repeat (first | refine blk_drewN ?_ _ | refine blk_drew ?_ | refine blk_alloc ?_ _)); exact BK481.out) hb); have n4_ := Aside0.mk (below_step (by repeat (first | (with_reducible first | exact HB.out | apply below_alloc | apply pw_below_drewN | apply below_drew1 | refine below_set ?_ GE481.out) | exact HB.out)) hb); have n5_ := Aside0.mk (hbox); have n6_ := Aside0.mk ((by rw [hg]; exact (below_size (by repeat (first | (with_reducible first | exact HB.out | apply below_alloc | apply pw_below_drewN | apply below_drew1 | refine below_set ?_ GE481.out) | exact HB.out))) : w.heap.size ≤ gb496)); have n7_ := Aside0.mk ((by rw [hg]; exact (below_size (by repeat (first | (with_reducible first | exact HB.out | apply below_alloc | apply pw_below_drewN | apply below_drew1 | refine below_set ?_ GE481.out) | exact HB.out))) : w.heap.size ≤ gb496)); have n8_ := Aside0.mk ((by rw [hg]; exact Nat.ne_of_lt (blk_lt (g := gb481) (o := .cells #[.bool ((rd_T27 l0 (ji22)).f0.f0), .int .u64 ((rd_T27 l0 (ji22)).f0.f1), .int .u64 ((rd_T27 l0 (ji22)).f0.f2)] 25 (0, 0)) (by (with_reducible repeat (first | refine blk_drewN ?_ _ | refine blk_drew ?_ | refine blk_alloc ?_ _)); exact BK481.out)) : gb481 ≠ gb496)); have n9_ := Aside0.mk ((by rw [hg]; exact Nat.ne_of_gt (blk_lt (g := gb481) (o := .cells #[.bool ((rd_T27 l0 (ji22)).f0.f0), .int .u64 ((rd_T27 l0 (ji22)).f0.f1), .int .u64 ((rd_T27 l0 (ji22)).f0.f2)] 25 (0, 0)) (by (with_reducible repeat (first | refine blk_drewN ?_ _ | refine blk_drew ?_ | refine blk_alloc ?_ _)); exact BK481.out)) : gb496 ≠ gb481)); clear HO_5; clear HO_8; clear HO489; clear BK481; clear HB; have HO_5 := n0_; have HO_8 := n1_; have HO489 := n2_; have BK481 := n3_; have HB := n4_; have BK496 := n5_; have GW496 := n6_; have GE496 := n7_; have NB481_496 := n8_; have NB496_481 := n9_; clear n0_ n1_ n2_ n3_ n4_ n5_ n6_ n7_ n8_ n9_; clear hb hbox hg; have hnb53 := NB496_481.out; have hnc53 := NB481_496.out; have hcz54_0 : w52.cell? ⟨gb496, 0, none⟩ = some (.bool false) := (blk_cell BK496.out 0).trans rfl; have hcz54_1 : w52.cell? ⟨gb496, 1, none⟩ = some (.int .u64 0) := (blk_cell BK496.out 1).trans rfl; have hcz54_2 : w52.cell? ⟨gb496, 2, none⟩ = some (.int .u64 0) := (blk_cell BK496.out 2).trans rfl; have hcz54_3 : w52.cell? ⟨gb496, 3, none⟩ = some (.int .i64 0) := (blk_cell BK496.out 3).trans rfl; have hcz54_4 : w52.cell? ⟨gb496, 4, none⟩ = some (.int .i64 0) := (blk_cell BK496.out 4).trans rfl; have hcz54_5 : w52.cell? ⟨gb496, 5, none⟩ = some (.int .i64 0) := (blk_cell BK496.out 5).trans rfl; have hfz54_0 := blk_frozen BK496.out 0; have hfz54_1 := blk_frozen BK496.out 1; have hfz54_2 := blk_frozen BK496.out 2; have hfz54_3 := blk_frozen BK496.out 3; have hfz54_4 := blk_frozen BK496.out 4; have hfz54_5 := blk_frozen BK496.out 5))
                                        have n0_ : Aside0 (Kd.R k35 35 ((((((w52.setCell ⟨gb496, 0, none⟩ (.bool t490)).setCell ⟨gb496, 1, none⟩ (.int .u64 t491)).setCell ⟨gb496, 2, none⟩ (.int .u64 t492)).setCell ⟨gb496, 3, none⟩ (.int .i64 t493)).setCell ⟨gb496, 4, none⟩ (.int .i64 t494)).setCell ⟨gb496, 5, none⟩ (.int .i64 t495)) w.heap.size (fun k_ => some k_ ≠ (v488 : Value).ownBlock ∧ k_ ≠ gb496) (.slice Ao25 t473.length co25) t473) := ⟨by (with_reducible repeat (first | apply Kd.R_alloc | apply Kd.R_drewN | apply Kd.R_drew)); exact Kd.R_mono (Kd.R_far (p := ⟨gb496, 5, none⟩) (Kd.R_far (p := ⟨gb496, 4, none⟩) (Kd.R_far (p := ⟨gb496, 3, none⟩) (Kd.R_far (p := ⟨gb496, 2, none⟩) (Kd.R_far (p := ⟨gb496, 1, none⟩) (Kd.R_far (p := ⟨gb496, 0, none⟩) (Kd.R_mono HO_5.out (fun k_ hk => (⟨hk, hk.2⟩ : _ ∧ k_ ≠ gb496))) (fun _ hk => hk.2) (.bool t490)) (fun _ hk => hk.2) (.int .u64 t491)) (fun _ hk => hk.2) (.int .u64 t492)) (fun _ hk => hk.2) (.int .i64 t493)) (fun _ hk => hk.2) (.int .i64 t494)) (fun _ hk => hk.2) (.int .i64 t495)) (fun _ hk => ⟨hk.1.1.2, hk.1.2⟩)⟩
                                        have n1_ : Aside0 (Kd.R k27 27 ((((((w52.setCell ⟨gb496, 0, none⟩ (.bool t490)).setCell ⟨gb496, 1, none⟩ (.int .u64 t491)).setCell ⟨gb496, 2, none⟩ (.int .u64 t492)).setCell ⟨gb496, 3, none⟩ (.int .i64 t493)).setCell ⟨gb496, 4, none⟩ (.int .i64 t494)).setCell ⟨gb496, 5, none⟩ (.int .i64 t495)) w.heap.size (fun _ => True) (.slice Ao48 x8_2.length co48) x8_2) := ⟨by (with_reducible repeat (first | apply Kd.R_alloc | apply Kd.R_drewN | apply Kd.R_drew)); exact Kd.R_mono (Kd.R_far (p := ⟨gb496, 5, none⟩) (Kd.R_far (p := ⟨gb496, 4, none⟩) (Kd.R_far (p := ⟨gb496, 3, none⟩) (Kd.R_far (p := ⟨gb496, 2, none⟩) (Kd.R_far (p := ⟨gb496, 1, none⟩) (Kd.R_far (p := ⟨gb496, 0, none⟩) (Kd.R_types HO_8.out BK496.out (by decide)) (fun _ hk => hk.2) (.bool t490)) (fun _ hk => hk.2) (.int .u64 t491)) (fun _ hk => hk.2) (.int .u64 t492)) (fun _ hk => hk.2) (.int .i64 t493)) (fun _ hk => hk.2) (.int .i64 t494)) (fun _ hk => hk.2) (.int .i64 t495)) (fun _ hk => trivial)⟩
                                        have n2_ : Aside0 (Kd.R k35 35 ((((((w52.setCell ⟨gb496, 0, none⟩ (.bool t490)).setCell ⟨gb496, 1, none⟩ (.int .u64 t491)).setCell ⟨gb496, 2, none⟩ (.int .u64 t492)).setCell ⟨gb496, 3, none⟩ (.int .i64 t493)).setCell ⟨gb496, 4, none⟩ (.int .i64 t494)).setCell ⟨gb496, 5, none⟩ (.int .i64 t495)) w.heap.size (fun k_ => some k_ ≠ (.slice Ao25 t473.length co25 : Value).ownBlock ∧ k_ ≠ gb496) v488 t487) := ⟨by (with_reducible repeat (first | apply Kd.R_alloc | apply Kd.R_drewN | apply Kd.R_drew)); exact Kd.R_mono (Kd.R_far (p := ⟨gb496, 5, none⟩) (Kd.R_far (p := ⟨gb496, 4, none⟩) (Kd.R_far (p := ⟨gb496, 3, none⟩) (Kd.R_far (p := ⟨gb496, 2, none⟩) (Kd.R_far (p := ⟨gb496, 1, none⟩) (Kd.R_far (p := ⟨gb496, 0, none⟩) (Kd.R_mono HO489.out (fun k_ hk => (⟨hk, hk.2⟩ : _ ∧ k_ ≠ gb496))) (fun _ hk => hk.2) (.bool t490)) (fun _ hk => hk.2) (.int .u64 t491)) (fun _ hk => hk.2) (.int .u64 t492)) (fun _ hk => hk.2) (.int .i64 t493)) (fun _ hk => hk.2) (.int .i64 t494)) (fun _ hk => hk.2) (.int .i64 t495)) (fun _ hk => ⟨hk.1.1.2, hk.1.2⟩)⟩
                                        have n3_ : Aside0 (((((((w52.setCell ⟨gb496, 0, none⟩ (.bool t490)).setCell ⟨gb496, 1, none⟩ (.int .u64 t491)).setCell ⟨gb496, 2, none⟩ (.int .u64 t492)).setCell ⟨gb496, 3, none⟩ (.int .i64 t493)).setCell ⟨gb496, 4, none⟩ (.int .i64 t494)).setCell ⟨gb496, 5, none⟩ (.int .i64 t495)).heap[gb481]? = some (.cells #[.bool ((rd_T27 l0 (ji22)).f0.f0), .int .u64 ((rd_T27 l0 (ji22)).f0.f1), .int .u64 ((rd_T27 l0 (ji22)).f0.f2)] 25 (0, 0))) := ⟨by (with_reducible repeat (first | refine blk_drewN ?_ _ | refine blk_drew ?_ | refine blk_alloc ?_ _)); refine blk_far ?_ NB481_496.out _; (with_reducible repeat (first | refine blk_drewN ?_ _ | refine blk_drew ?_ | refine blk_alloc ?_ _)); refine blk_far ?_ NB481_496.out _; (with_reducible repeat (first | refine blk_drewN ?_ _ | refine blk_drew ?_ | refine blk_alloc ?_ _)); refine blk_far ?_ NB481_496.out _; (with_reducible repeat (first | refine blk_drewN ?_ _ | refine blk_drew ?_ | refine blk_alloc ?_ _)); refine blk_far ?_ NB481_496.out _; (with_reducible repeat (first | refine blk_drewN ?_ _ | refine blk_drew ?_ | refine blk_alloc ?_ _)); refine blk_far ?_ NB481_496.out _; (with_reducible repeat (first | refine blk_drewN ?_ _ | refine blk_drew ?_ | refine blk_alloc ?_ _)); refine blk_far ?_ NB481_496.out _; (with_reducible repeat (first | refine blk_drewN ?_ _ | refine blk_drew ?_ | refine blk_alloc ?_ _)); exact BK481.out⟩
                                        have n4_ : Aside0 (((((((w52.setCell ⟨gb496, 0, none⟩ (.bool t490)).setCell ⟨gb496, 1, none⟩ (.int .u64 t491)).setCell ⟨gb496, 2, none⟩ (.int .u64 t492)).setCell ⟨gb496, 3, none⟩ (.int .i64 t493)).setCell ⟨gb496, 4, none⟩ (.int .i64 t494)).setCell ⟨gb496, 5, none⟩ (.int .i64 t495)).heap[gb496]? = some (.cells #[.bool t490, .int .u64 t491, .int .u64 t492, .int .i64 t493, .int .i64 t494, .int .i64 t495] 35 (0, 0))) := ⟨by (with_reducible repeat (first | refine blk_drewN ?_ _ | refine blk_drew ?_ | refine blk_alloc ?_ _)); refine blk_put (cs := #[.bool t490, .int .u64 t491, .int .u64 t492, .int .i64 t493, .int .i64 t494, .int .i64 0]) ?_ 5 _ rfl; (with_reducible repeat (first | refine blk_drewN ?_ _ | refine blk_drew ?_ | refine blk_alloc ?_ _)); refine blk_put (cs := #[.bool t490, .int .u64 t491, .int .u64 t492, .int .i64 t493, .int .i64 0, .int .i64 0]) ?_ 4 _ rfl; (with_reducible repeat (first | refine blk_drewN ?_ _ | refine blk_drew ?_ | refine blk_alloc ?_ _)); refine blk_put (cs := #[.bool t490, .int .u64 t491, .int .u64 t492, .int .i64 0, .int .i64 0, .int .i64 0]) ?_ 3 _ rfl; (with_reducible repeat (first | refine blk_drewN ?_ _ | refine blk_drew ?_ | refine blk_alloc ?_ _)); refine blk_put (cs := #[.bool t490, .int .u64 t491, .int .u64 0, .int .i64 0, .int .i64 0, .int .i64 0]) ?_ 2 _ rfl; (with_reducible repeat (first | refine blk_drewN ?_ _ | refine blk_drew ?_ | refine blk_alloc ?_ _)); refine blk_put (cs := #[.bool t490, .int .u64 0, .int .u64 0, .int .i64 0, .int .i64 0, .int .i64 0]) ?_ 1 _ rfl; (with_reducible repeat (first | refine blk_drewN ?_ _ | refine blk_drew ?_ | refine blk_alloc ?_ _)); refine blk_put (cs := #[.bool false, .int .u64 0, .int .u64 0, .int .i64 0, .int .i64 0, .int .i64 0]) ?_ 0 _ rfl; (with_reducible repeat (first | refine blk_drewN ?_ _ | refine blk_drew ?_ | refine blk_alloc ?_ _)); exact BK496.out⟩
                                        have n5_ : Aside0 (Below w.heap.size w ((((((w52.setCell ⟨gb496, 0, none⟩ (.bool t490)).setCell ⟨gb496, 1, none⟩ (.int .u64 t491)).setCell ⟨gb496, 2, none⟩ (.int .u64 t492)).setCell ⟨gb496, 3, none⟩ (.int .i64 t493)).setCell ⟨gb496, 4, none⟩ (.int .i64 t494)).setCell ⟨gb496, 5, none⟩ (.int .i64 t495))) := ⟨by repeat (first | (with_reducible first | exact HB.out | apply below_alloc | apply pw_below_drewN | apply below_drew1 | refine below_set ?_ GE481.out | refine below_set ?_ GE496.out) | exact HB.out)⟩
                                        (try clear HO_5)
                                        (try clear HO_8)
                                        (try clear HO489)
                                        (try clear BK481)
                                        (try clear BK496)
                                        (try clear HB)
                                        generalize ((((((w52.setCell ⟨gb496, 0, none⟩ (.bool t490)).setCell ⟨gb496, 1, none⟩ (.int .u64 t491)).setCell ⟨gb496, 2, none⟩ (.int .u64 t492)).setCell ⟨gb496, 3, none⟩ (.int .i64 t493)).setCell ⟨gb496, 4, none⟩ (.int .i64 t494)).setCell ⟨gb496, 5, none⟩ (.int .i64 t495)) = w55 at n0_ n1_ n2_ n3_ n4_ n5_ ⊢
                                        have HO_5 := n0_
                                        have HO_8 := n1_
                                        have HO489 := n2_
                                        have BK481 := n3_
                                        have BK496 := n4_
                                        have HB := n5_
                                        clear n0_ n1_ n2_ n3_ n4_ n5_
                                        have n0_ := Aside0.mk (Kd.R_drew HO_5.out)
                                        have n1_ := Aside0.mk (Kd.R_drew HO_8.out)
                                        have n2_ := Aside0.mk (Kd.R_drew HO489.out)
                                        have n3_ := Aside0.mk (blk_drew BK481.out)
                                        have n4_ := Aside0.mk (blk_drew BK496.out)
                                        have n5_ := Aside0.mk (below_drew1 HB.out)
                                        clear HO_5
                                        clear HO_8
                                        clear HO489
                                        clear BK481
                                        clear BK496
                                        clear HB
                                        have HO_5 := n0_
                                        have HO_8 := n1_
                                        have HO489 := n2_
                                        have BK481 := n3_
                                        have BK496 := n4_
                                        have HB := n5_
                                        clear n0_ n1_ n2_ n3_ n4_ n5_
                                        obtain ⟨Ao57, co57, eo57⟩ := Kd.R_slice HO489.out
                                        (first | subst eo57 | (injection eo57 with f1_ f2_ f3_; have f4_ := f1_.symm; have f5_ := f3_.symm; clear f1_ f2_ f3_; subst f4_; subst f5_))
                                        have p497 : 0 ≤ (0 : Int) := (by omega)
                                        have q497 : 0 < (t487.length : Int) := of_decide_eq_true (by first | (with_reducible assumption) | assumption)
                                        obtain ⟨ad497, e497, hx497_0, hx497_1, hx497_2, hx497_3, hx497_4, hx497_5⟩ := at_T35 (Kd.R_reads' HO489.out).2.2 0 p497 q497
                                        cases e497
                                        have qi497 : (0 < t487.length) = True := eq_true (by omega)
                                        (try rw [show ((0 : Int)).toNat = 0 from rfl] at hx497_0)
                                        (try rw [show 0 * 6 = 0 from rfl] at hx497_0)
                                        (try rw [Addr.add_zero'] at hx497_0)
                                        (try rw [show ((0 : Int)).toNat = 0 from rfl] at hx497_1)
                                        (try rw [show 0 * 6 = 0 from rfl] at hx497_1)
                                        (try rw [Addr.add_zero'] at hx497_1)
                                        (try rw [show ((0 : Int)).toNat = 0 from rfl] at hx497_2)
                                        (try rw [show 0 * 6 = 0 from rfl] at hx497_2)
                                        (try rw [Addr.add_zero'] at hx497_2)
                                        (try rw [show ((0 : Int)).toNat = 0 from rfl] at hx497_3)
                                        (try rw [show 0 * 6 = 0 from rfl] at hx497_3)
                                        (try rw [Addr.add_zero'] at hx497_3)
                                        (try rw [show ((0 : Int)).toNat = 0 from rfl] at hx497_4)
                                        (try rw [show 0 * 6 = 0 from rfl] at hx497_4)
                                        (try rw [Addr.add_zero'] at hx497_4)
                                        (try rw [show ((0 : Int)).toNat = 0 from rfl] at hx497_5)
                                        (try rw [show 0 * 6 = 0 from rfl] at hx497_5)
                                        (try rw [Addr.add_zero'] at hx497_5)
                                        replace p497 := eq_true p497
                                        replace q497 := eq_true q497
                                        refine start_ (n := 34) (S := fun w' => w'.cell? ⟨gb496, 0, none⟩ = some (.bool t490) ∧ w'.cell? ⟨gb496, 1, none⟩ = some (.int .u64 t491) ∧ w'.cell? ⟨gb496, 2, none⟩ = some (.int .u64 t492) ∧ w'.cell? ⟨gb496, 3, none⟩ = some (.int .i64 t493) ∧ w'.cell? ⟨gb496, 4, none⟩ = some (.int .i64 t494) ∧ w'.cell? ⟨gb496, 5, none⟩ = some (.int .i64 t495) ∧ w'.cell? ad497 = some (.bool ((rd_T35 t487 0).f0.f0)) ∧ w'.cell? ⟨ad497.block, ad497.off + 1, none⟩ = some (.int .u64 ((rd_T35 t487 0).f0.f1)) ∧ w'.cell? ⟨ad497.block, ad497.off + 2, none⟩ = some (.int .u64 ((rd_T35 t487 0).f0.f2)) ∧ w'.cell? ⟨ad497.block, ad497.off + 3, none⟩ = some (.int .i64 ((rd_T35 t487 0).f1)) ∧ w'.cell? ⟨ad497.block, ad497.off + 4, none⟩ = some (.int .i64 ((rd_T35 t487 0).f2)) ∧ w'.cell? ⟨ad497.block, ad497.off + 5, none⟩ = some (.int .i64 ((rd_T35 t487 0).f3))) (ds := []) #[false, false, false, false, false, false, false, false, false, false, false, false, false, false, false, false, false, false, false, false, false, false, false, false, false, false, false, false, false, false, false, false, false, false] (by kernel_rfl) rfl rfl ⟨(blk_cell BK496.out 0).trans rfl, (blk_cell BK496.out 1).trans rfl, (blk_cell BK496.out 2).trans rfl, (blk_cell BK496.out 3).trans rfl, (blk_cell BK496.out 4).trans rfl, (blk_cell BK496.out 5).trans rfl, hx497_0, hx497_1, hx497_2, hx497_3, hx497_4, hx497_5⟩ (fun hHeld => ?_); refine with_tabW ddilaw32_UpstreamKnows.tab18 ddilaw32_UpstreamKnows.bits18 (fun HT_ HW_ => ?_)
                                        generalize w55.drew = w56 at HO_5 HO_8 HO489 BK481 BK496 HB hx497_0 hx497_1 hx497_2 hx497_3 hx497_4 hx497_5 hHeld ⊢
                                        refine pure_ (i := 0) (N := some 81) (v := ?_) (a' := ?_) #[true, false, false, false, false, false, false, false, false, false, false, false, false, false, false, false, false, false, false, false, false, false, false, false, false, false, false, false, false, false, false, false, false, false] rfl rfl (any_of HT_.out (by kernel_rfl)) (fun _ _ _ h => h) (Or.inl ⟨by rfl, ?_⟩) ?_ ?_
                                        rotate_left
                                        · intro w'
                                          go_simp
                                          with_reducible rfl
                                        rotate_left
                                        · simp only [Act.put, List.setIfInBounds_toArray, List.set_cons_zero, List.set_cons_succ, i64_w, i32_w]
                                          rfl
                                        refine pure_ (i := 1) (N := some 82) (v := ?_) (a' := ?_) #[true, true, false, false, false, false, false, false, false, false, false, false, false, false, false, false, false, false, false, false, false, false, false, false, false, false, false, false, false, false, false, false, false, false] rfl rfl (any_of HT_.out (by kernel_rfl)) (fun _ _ _ h => h) (Or.inl ⟨by rfl, ?_⟩) ?_ ?_
                                        rotate_left
                                        · intro w'
                                          go_simp
                                          with_reducible rfl
                                        rotate_left
                                        · simp only [Act.put, List.setIfInBounds_toArray, List.set_cons_zero, List.set_cons_succ, i64_w, i32_w]
                                          rfl
                                        refine pure_ (i := 2) (N := some 83) (v := ?_) (a' := ?_) #[true, true, true, false, false, false, false, false, false, false, false, false, false, false, false, false, false, false, false, false, false, false, false, false, false, false, false, false, false, false, false, false, false, false] rfl rfl (any_of HT_.out (by kernel_rfl)) (fun _ _ _ h => h) (Or.inl ⟨by rfl, ?_⟩) ?_ ?_
                                        rotate_left
                                        · intro w'
                                          go_simp
                                          with_reducible rfl
                                        rotate_left
                                        · simp only [Act.put, List.setIfInBounds_toArray, List.set_cons_zero, List.set_cons_succ, i64_w, i32_w]
                                          rfl
                                        refine pure_ (i := 3) (N := some 84) (v := ?_) (a' := ?_) #[true, true, true, true, false, false, false, false, false, false, false, false, false, false, false, false, false, false, false, false, false, false, false, false, false, false, false, false, false, false, false, false, false, false] rfl rfl (any_of HT_.out (by kernel_rfl)) (fun _ _ _ h => h) (Or.inl ⟨by rfl, ?_⟩) ?_ ?_
                                        rotate_left
                                        · intro w'
                                          go_simp
                                          with_reducible rfl
                                        rotate_left
                                        · simp only [Act.put, List.setIfInBounds_toArray, List.set_cons_zero, List.set_cons_succ, i64_w, i32_w]
                                          rfl
                                        refine pure_ (i := 4) (N := some 85) (v := ?_) (a' := ?_) #[true, true, true, true, true, false, false, false, false, false, false, false, false, false, false, false, false, false, false, false, false, false, false, false, false, false, false, false, false, false, false, false, false, false] rfl rfl (any_of HT_.out (by kernel_rfl)) (fun _ _ _ h => h) (Or.inl ⟨by rfl, ?_⟩) ?_ ?_
                                        rotate_left
                                        · intro w'
                                          go_simp
                                          with_reducible rfl
                                        rotate_left
                                        · simp only [Act.put, List.setIfInBounds_toArray, List.set_cons_zero, List.set_cons_succ, i64_w, i32_w]
                                          rfl
                                        refine pure_ (i := 5) (N := some 86) (v := ?_) (a' := ?_) #[true, true, true, true, true, true, false, false, false, false, false, false, false, false, false, false, false, false, false, false, false, false, false, false, false, false, false, false, false, false, false, false, false, false] rfl rfl (any_of HT_.out (by kernel_rfl)) (fun _ _ _ h => h) (Or.inl ⟨by rfl, ?_⟩) ?_ ?_
                                        rotate_left
                                        · intro w'
                                          go_simp
                                          with_reducible rfl
                                        rotate_left
                                        · simp only [Act.put, List.setIfInBounds_toArray, List.set_cons_zero, List.set_cons_succ, i64_w, i32_w]
                                          rfl
                                        refine take_ (i := 6) (N := some 87) (v := ?_) (a' := ?_) #[true, true, true, true, true, true, true, false, false, false, false, false, false, false, false, false, false, false, false, false, false, false, false, false, false, false, false, false, false, false, false, false, false, false] rfl rfl (take_ofW HT_.out HW_.out (by kernel_rfl)) (fun _ _ _ h => h) (Or.inl ⟨by rfl, ?_⟩) hHeld ?_ ?_
                                        rotate_left
                                        · rintro w' ⟨s0, s1, s2, s3, s4, s5, s6, s7, s8, s9, s10, s11⟩
                                          go_simp
                                          with_reducible rfl
                                        rotate_left
                                        · simp only [Act.put, List.setIfInBounds_toArray, List.set_cons_zero, List.set_cons_succ, i64_w, i32_w]
                                          rfl
                                        refine take_ (i := 7) (N := some 88) (v := ?_) (a' := ?_) #[true, true, true, true, true, true, true, true, false, false, false, false, false, false, false, false, false, false, false, false, false, false, false, false, false, false, false, false, false, false, false, false, false, false] rfl rfl (take_ofW HT_.out HW_.out (by kernel_rfl)) (fun _ _ _ h => h) (Or.inl ⟨by rfl, ?_⟩) hHeld ?_ ?_
                                        rotate_left
                                        · rintro w' ⟨s0, s1, s2, s3, s4, s5, s6, s7, s8, s9, s10, s11⟩
                                          go_simp
                                          with_reducible rfl
                                        rotate_left
                                        · simp only [Act.put, List.setIfInBounds_toArray, List.set_cons_zero, List.set_cons_succ, i64_w, i32_w]
                                          rfl
                                        refine pure_ (i := 8) (N := some 89) (v := ?_) (a' := ?_) #[true, true, true, true, true, true, true, true, true, false, false, false, false, false, false, false, false, false, false, false, false, false, false, false, false, false, false, false, false, false, false, false, false, false] rfl rfl (any_of HT_.out (by kernel_rfl)) (fun _ _ _ h => h) (Or.inl ⟨by rfl, ?_⟩) ?_ ?_
                                        rotate_left
                                        · intro w'
                                          go_simp
                                          with_reducible rfl
                                        rotate_left
                                        · simp only [Act.put, List.setIfInBounds_toArray, List.set_cons_zero, List.set_cons_succ, i64_w, i32_w]
                                          rfl
                                        refine pure_ (i := 9) (N := some 90) (v := ?_) (a' := ?_) #[true, true, true, true, true, true, true, true, true, true, false, false, false, false, false, false, false, false, false, false, false, false, false, false, false, false, false, false, false, false, false, false, false, false] rfl rfl (any_of HT_.out (by kernel_rfl)) (fun _ _ _ h => h) (Or.inl ⟨by rfl, ?_⟩) ?_ ?_
                                        rotate_left
                                        · intro w'
                                          go_simp
                                          with_reducible rfl
                                        rotate_left
                                        · simp only [Act.put, List.setIfInBounds_toArray, List.set_cons_zero, List.set_cons_succ, i64_w, i32_w]
                                          rfl
                                        refine pure_ (i := 10) (N := some 91) (v := ?_) (a' := ?_) #[true, true, true, true, true, true, true, true, true, true, true, false, false, false, false, false, false, false, false, false, false, false, false, false, false, false, false, false, false, false, false, false, false, false] rfl rfl (any_of HT_.out (by kernel_rfl)) (fun _ _ _ h => h) (Or.inl ⟨by rfl, ?_⟩) ?_ ?_
                                        rotate_left
                                        · intro w'
                                          go_simp
                                          with_reducible rfl
                                        rotate_left
                                        · simp only [Act.put, List.setIfInBounds_toArray, List.set_cons_zero, List.set_cons_succ, i64_w, i32_w]
                                          rfl
                                        refine pure_ (i := 11) (N := some 92) (v := ?_) (a' := ?_) #[true, true, true, true, true, true, true, true, true, true, true, true, false, false, false, false, false, false, false, false, false, false, false, false, false, false, false, false, false, false, false, false, false, false] rfl rfl (any_of HT_.out (by kernel_rfl)) (fun _ _ _ h => h) (Or.inl ⟨by rfl, ?_⟩) ?_ ?_
                                        rotate_left
                                        · intro w'
                                          go_simp
                                          with_reducible rfl
                                        rotate_left
                                        · simp only [Act.put, List.setIfInBounds_toArray, List.set_cons_zero, List.set_cons_succ, i64_w, i32_w]
                                          rfl
                                        refine take_ (i := 12) (N := some 93) (v := ?_) (a' := ?_) #[true, true, true, true, true, true, true, true, true, true, true, true, true, false, false, false, false, false, false, false, false, false, false, false, false, false, false, false, false, false, false, false, false, false] rfl rfl (take_ofW HT_.out HW_.out (by kernel_rfl)) (fun _ _ _ h => h) (Or.inl ⟨by rfl, ?_⟩) hHeld ?_ ?_
                                        rotate_left
                                        · rintro w' ⟨s0, s1, s2, s3, s4, s5, s6, s7, s8, s9, s10, s11⟩
                                          go_simp
                                          with_reducible rfl
                                        rotate_left
                                        · simp only [Act.put, List.setIfInBounds_toArray, List.set_cons_zero, List.set_cons_succ, i64_w, i32_w]
                                          rfl
                                        refine pure_ (i := 13) (N := some 94) (v := ?_) (a' := ?_) #[true, true, true, true, true, true, true, true, true, true, true, true, true, true, false, false, false, false, false, false, false, false, false, false, false, false, false, false, false, false, false, false, false, false] rfl rfl (any_of HT_.out (by kernel_rfl)) (fun _ _ _ h => h) (Or.inl ⟨by rfl, ?_⟩) ?_ ?_
                                        rotate_left
                                        · intro w'
                                          go_simp
                                          with_reducible rfl
                                        rotate_left
                                        · simp only [Act.put, List.setIfInBounds_toArray, List.set_cons_zero, List.set_cons_succ, i64_w, i32_w]
                                          rfl
                                        refine pure_ (i := 14) (N := some 95) (v := ?_) (a' := ?_) #[true, true, true, true, true, true, true, true, true, true, true, true, true, true, true, false, false, false, false, false, false, false, false, false, false, false, false, false, false, false, false, false, false, false] rfl rfl (any_of HT_.out (by kernel_rfl)) (fun _ _ _ h => h) (Or.inl ⟨by rfl, ?_⟩) ?_ ?_
                                        rotate_left
                                        · intro w'
                                          go_simp
                                          with_reducible rfl
                                        rotate_left
                                        · simp only [Act.put, List.setIfInBounds_toArray, List.set_cons_zero, List.set_cons_succ, i64_w, i32_w]
                                          rfl
                                        refine pure_ (i := 15) (N := some 96) (v := ?_) (a' := ?_) #[true, true, true, true, true, true, true, true, true, true, true, true, true, true, true, true, false, false, false, false, false, false, false, false, false, false, false, false, false, false, false, false, false, false] rfl rfl (any_of HT_.out (by kernel_rfl)) (fun _ _ _ h => h) (Or.inl ⟨by rfl, ?_⟩) ?_ ?_
                                        rotate_left
                                        · intro w'
                                          go_simp
                                          with_reducible rfl
                                        rotate_left
                                        · simp only [Act.put, List.setIfInBounds_toArray, List.set_cons_zero, List.set_cons_succ, i64_w, i32_w]
                                          rfl
                                        refine pure_ (i := 16) (N := some 97) (v := ?_) (a' := ?_) #[true, true, true, true, true, true, true, true, true, true, true, true, true, true, true, true, true, false, false, false, false, false, false, false, false, false, false, false, false, false, false, false, false, false] rfl rfl (any_of HT_.out (by kernel_rfl)) (fun _ _ _ h => h) (Or.inl ⟨by rfl, ?_⟩) ?_ ?_
                                        rotate_left
                                        · intro w'
                                          go_simp
                                          with_reducible rfl
                                        rotate_left
                                        · simp only [Act.put, List.setIfInBounds_toArray, List.set_cons_zero, List.set_cons_succ, i64_w, i32_w]
                                          rfl
                                        refine take_ (i := 17) (N := some 98) (v := ?_) (a' := ?_) #[true, true, true, true, true, true, true, true, true, true, true, true, true, true, true, true, true, true, false, false, false, false, false, false, false, false, false, false, false, false, false, false, false, false] rfl rfl (take_ofW HT_.out HW_.out (by kernel_rfl)) (fun _ _ _ h => h) (Or.inl ⟨by rfl, ?_⟩) hHeld ?_ ?_
                                        rotate_left
                                        · rintro w' ⟨s0, s1, s2, s3, s4, s5, s6, s7, s8, s9, s10, s11⟩
                                          go_simp
                                          with_reducible rfl
                                        rotate_left
                                        · simp only [Act.put, List.setIfInBounds_toArray, List.set_cons_zero, List.set_cons_succ, i64_w, i32_w]
                                          rfl
                                        refine pure_ (i := 18) (N := some 99) (v := ?_) (a' := ?_) #[true, true, true, true, true, true, true, true, true, true, true, true, true, true, true, true, true, true, true, false, false, false, false, false, false, false, false, false, false, false, false, false, false, false] rfl rfl (any_of HT_.out (by kernel_rfl)) (fun _ _ _ h => h) (Or.inl ⟨by rfl, ?_⟩) ?_ ?_
                                        rotate_left
                                        · intro w'
                                          go_simp
                                          with_reducible rfl
                                        rotate_left
                                        · simp only [Act.put, List.setIfInBounds_toArray, List.set_cons_zero, List.set_cons_succ, i64_w, i32_w]
                                          rfl
                                        refine pure_ (i := 19) (N := some 100) (v := ?_) (a' := ?_) #[true, true, true, true, true, true, true, true, true, true, true, true, true, true, true, true, true, true, true, true, false, false, false, false, false, false, false, false, false, false, false, false, false, false] rfl rfl (any_of HT_.out (by kernel_rfl)) (fun _ _ _ h => h) (Or.inl ⟨by rfl, ?_⟩) ?_ ?_
                                        rotate_left
                                        · intro w'
                                          go_simp
                                          with_reducible rfl
                                        rotate_left
                                        · simp only [Act.put, List.setIfInBounds_toArray, List.set_cons_zero, List.set_cons_succ, i64_w, i32_w]
                                          rfl
                                        refine pure_ (i := 20) (N := some 101) (v := ?_) (a' := ?_) #[true, true, true, true, true, true, true, true, true, true, true, true, true, true, true, true, true, true, true, true, true, false, false, false, false, false, false, false, false, false, false, false, false, false] rfl rfl (any_of HT_.out (by kernel_rfl)) (fun _ _ _ h => h) (Or.inl ⟨by rfl, ?_⟩) ?_ ?_
                                        rotate_left
                                        · intro w'
                                          go_simp
                                          with_reducible rfl
                                        rotate_left
                                        · simp only [Act.put, List.setIfInBounds_toArray, List.set_cons_zero, List.set_cons_succ, i64_w, i32_w]
                                          rfl
                                        refine pure_ (i := 21) (N := some 102) (v := ?_) (a' := ?_) #[true, true, true, true, true, true, true, true, true, true, true, true, true, true, true, true, true, true, true, true, true, true, false, false, false, false, false, false, false, false, false, false, false, false] rfl rfl (any_of HT_.out (by kernel_rfl)) (fun _ _ _ h => h) (Or.inl ⟨by rfl, ?_⟩) ?_ ?_
                                        rotate_left
                                        · intro w'
                                          go_simp
                                          with_reducible rfl
                                        rotate_left
                                        · simp only [Act.put, List.setIfInBounds_toArray, List.set_cons_zero, List.set_cons_succ, i64_w, i32_w]
                                          rfl
                                        refine take_ (i := 22) (N := some 103) (v := ?_) (a' := ?_) #[true, true, true, true, true, true, true, true, true, true, true, true, true, true, true, true, true, true, true, true, true, true, true, false, false, false, false, false, false, false, false, false, false, false] rfl rfl (take_ofW HT_.out HW_.out (by kernel_rfl)) (fun _ _ _ h => h) (Or.inl ⟨by rfl, ?_⟩) hHeld ?_ ?_
                                        rotate_left
                                        · rintro w' ⟨s0, s1, s2, s3, s4, s5, s6, s7, s8, s9, s10, s11⟩
                                          go_simp
                                          with_reducible rfl
                                        rotate_left
                                        · simp only [Act.put, List.setIfInBounds_toArray, List.set_cons_zero, List.set_cons_succ, i64_w, i32_w]
                                          rfl
                                        refine pure_ (i := 23) (N := some 104) (v := ?_) (a' := ?_) #[true, true, true, true, true, true, true, true, true, true, true, true, true, true, true, true, true, true, true, true, true, true, true, true, false, false, false, false, false, false, false, false, false, false] rfl rfl (any_of HT_.out (by kernel_rfl)) (fun _ _ _ h => h) (Or.inl ⟨by rfl, ?_⟩) ?_ ?_
                                        rotate_left
                                        · intro w'
                                          go_simp
                                          with_reducible rfl
                                        rotate_left
                                        · simp only [Act.put, List.setIfInBounds_toArray, List.set_cons_zero, List.set_cons_succ, i64_w, i32_w]
                                          rfl
                                        refine pure_ (i := 24) (N := some 105) (v := ?_) (a' := ?_) #[true, true, true, true, true, true, true, true, true, true, true, true, true, true, true, true, true, true, true, true, true, true, true, true, true, false, false, false, false, false, false, false, false, false] rfl rfl (any_of HT_.out (by kernel_rfl)) (fun _ _ _ h => h) (Or.inl ⟨by rfl, ?_⟩) ?_ ?_
                                        rotate_left
                                        · intro w'
                                          go_simp
                                          with_reducible rfl
                                        rotate_left
                                        · simp only [Act.put, List.setIfInBounds_toArray, List.set_cons_zero, List.set_cons_succ, i64_w, i32_w]
                                          rfl
                                        refine pure_ (i := 25) (N := some 106) (v := ?_) (a' := ?_) #[true, true, true, true, true, true, true, true, true, true, true, true, true, true, true, true, true, true, true, true, true, true, true, true, true, true, false, false, false, false, false, false, false, false] rfl rfl (any_of HT_.out (by kernel_rfl)) (fun _ _ _ h => h) (Or.inl ⟨by rfl, ?_⟩) ?_ ?_
                                        rotate_left
                                        · intro w'
                                          go_simp
                                          with_reducible rfl
                                        rotate_left
                                        · simp only [Act.put, List.setIfInBounds_toArray, List.set_cons_zero, List.set_cons_succ, i64_w, i32_w]
                                          rfl
                                        refine pure_ (i := 26) (N := some 107) (v := ?_) (a' := ?_) #[true, true, true, true, true, true, true, true, true, true, true, true, true, true, true, true, true, true, true, true, true, true, true, true, true, true, true, false, false, false, false, false, false, false] rfl rfl (any_of HT_.out (by kernel_rfl)) (fun _ _ _ h => h) (Or.inl ⟨by rfl, ?_⟩) ?_ ?_
                                        rotate_left
                                        · intro w'
                                          go_simp
                                          with_reducible rfl
                                        rotate_left
                                        · simp only [Act.put, List.setIfInBounds_toArray, List.set_cons_zero, List.set_cons_succ, i64_w, i32_w]
                                          rfl
                                        refine take_ (i := 27) (N := some 108) (v := ?_) (a' := ?_) #[true, true, true, true, true, true, true, true, true, true, true, true, true, true, true, true, true, true, true, true, true, true, true, true, true, true, true, true, false, false, false, false, false, false] rfl rfl (take_ofW HT_.out HW_.out (by kernel_rfl)) (fun _ _ _ h => h) (Or.inl ⟨by rfl, ?_⟩) hHeld ?_ ?_
                                        rotate_left
                                        · rintro w' ⟨s0, s1, s2, s3, s4, s5, s6, s7, s8, s9, s10, s11⟩
                                          go_simp
                                          with_reducible rfl
                                        rotate_left
                                        · simp only [Act.put, List.setIfInBounds_toArray, List.set_cons_zero, List.set_cons_succ, i64_w, i32_w]
                                          rfl
                                        refine pure_ (i := 28) (N := some 109) (v := ?_) (a' := ?_) #[true, true, true, true, true, true, true, true, true, true, true, true, true, true, true, true, true, true, true, true, true, true, true, true, true, true, true, true, true, false, false, false, false, false] rfl rfl (any_of HT_.out (by kernel_rfl)) (fun _ _ _ h => h) (Or.inl ⟨by rfl, ?_⟩) ?_ ?_
                                        rotate_left
                                        · intro w'
                                          go_simp
                                          with_reducible rfl
                                        rotate_left
                                        · simp only [Act.put, List.setIfInBounds_toArray, List.set_cons_zero, List.set_cons_succ, i64_w, i32_w]
                                          rfl
                                        refine pure_ (i := 29) (N := some 110) (v := ?_) (a' := ?_) #[true, true, true, true, true, true, true, true, true, true, true, true, true, true, true, true, true, true, true, true, true, true, true, true, true, true, true, true, true, true, false, false, false, false] rfl rfl (any_of HT_.out (by kernel_rfl)) (fun _ _ _ h => h) (Or.inl ⟨by rfl, ?_⟩) ?_ ?_
                                        rotate_left
                                        · intro w'
                                          go_simp
                                          with_reducible rfl
                                        rotate_left
                                        · simp only [Act.put, List.setIfInBounds_toArray, List.set_cons_zero, List.set_cons_succ, i64_w, i32_w]
                                          rfl
                                        refine pure_ (i := 30) (N := some 111) (v := ?_) (a' := ?_) #[true, true, true, true, true, true, true, true, true, true, true, true, true, true, true, true, true, true, true, true, true, true, true, true, true, true, true, true, true, true, true, false, false, false] rfl rfl (any_of HT_.out (by kernel_rfl)) (fun _ _ _ h => h) (Or.inl ⟨by rfl, ?_⟩) ?_ ?_
                                        rotate_left
                                        · intro w'
                                          go_simp
                                          with_reducible rfl
                                        rotate_left
                                        · simp only [Act.put, List.setIfInBounds_toArray, List.set_cons_zero, List.set_cons_succ, i64_w, i32_w]
                                          rfl
                                        refine one_ (i := 31) (N := some 112) #[true, true, true, true, true, true, true, true, true, true, true, true, true, true, true, true, true, true, true, true, true, true, true, true, true, true, true, true, true, true, true, true, false, false] rfl rfl (one_of HT_.out (by kernel_rfl)) (by decide) (fun K hK => ?_)
                                        refine goes_ Try.func17 (by kernel_rfl) rfl #[] (by rfl) rfl rfl (by (try simp only [List.map_toArray, List.map_cons, List.map_nil]); first | done | rfl | (simp only [List.length_drop, List.length_take]; rfl)) ?_
                                        with_reducible refine (ddilaw32_awake.calls kj27  t498 _ A47.out (by first | assumption | rfl | simp_all)).mono ?_
                                        rintro e w58 ⟨rfl, hb⟩
                                        have HS6_ := (hb.cell (World.block_lt_of_cell? _ _ (hHeld.2.2.2.2.2.2.1))).trans (hHeld.2.2.2.2.2.2.1)
                                        have HS7_ := (hb.cell (World.block_lt_of_cell? _ _ (hHeld.2.2.2.2.2.2.2.1))).trans (hHeld.2.2.2.2.2.2.2.1)
                                        have HS8_ := (hb.cell (World.block_lt_of_cell? _ _ (hHeld.2.2.2.2.2.2.2.2.1))).trans (hHeld.2.2.2.2.2.2.2.2.1)
                                        have HS9_ := (hb.cell (World.block_lt_of_cell? _ _ (hHeld.2.2.2.2.2.2.2.2.2.1))).trans (hHeld.2.2.2.2.2.2.2.2.2.1)
                                        have HS10_ := (hb.cell (World.block_lt_of_cell? _ _ (hHeld.2.2.2.2.2.2.2.2.2.2.1))).trans (hHeld.2.2.2.2.2.2.2.2.2.2.1)
                                        have HS11_ := (hb.cell (World.block_lt_of_cell? _ _ (hHeld.2.2.2.2.2.2.2.2.2.2.2))).trans (hHeld.2.2.2.2.2.2.2.2.2.2.2)
                                        refine ⟨_, rfl, ?_⟩
                                        have n0_ := Aside0.mk (Kd.R_below (by (with_reducible repeat (first | apply Kd.R_alloc | apply Kd.R_drewN | apply Kd.R_drew)); exact HO_5.out) hb)
                                        have n1_ := Aside0.mk (Kd.R_below (by (with_reducible repeat (first | apply Kd.R_alloc | apply Kd.R_drewN | apply Kd.R_drew)); exact HO_8.out) hb)
                                        have n2_ := Aside0.mk (Kd.R_below (by (with_reducible repeat (first | apply Kd.R_alloc | apply Kd.R_drewN | apply Kd.R_drew)); exact HO489.out) hb)
                                        have n3_ := Aside0.mk (blk_below (g := gb481) (o := .cells #[.bool ((rd_T27 l0 (ji22)).f0.f0), .int .u64 ((rd_T27 l0 (ji22)).f0.f1), .int .u64 ((rd_T27 l0 (ji22)).f0.f2)] 25 (0, 0)) (by (with_reducible repeat (first | refine blk_drewN ?_ _ | refine blk_drew ?_ | refine blk_alloc ?_ _)); exact BK481.out) hb)
                                        have n4_ := Aside0.mk (blk_below (g := gb496) (o := .cells #[.bool t490, .int .u64 t491, .int .u64 t492, .int .i64 t493, .int .i64 t494, .int .i64 t495] 35 (0, 0)) (by (with_reducible repeat (first | refine blk_drewN ?_ _ | refine blk_drew ?_ | refine blk_alloc ?_ _)); exact BK496.out) hb)
                                        have n5_ := Aside0.mk (below_step (by repeat (first | (with_reducible first | exact HB.out | apply below_alloc | apply pw_below_drewN | apply below_drew1 | refine below_set ?_ GE481.out | refine below_set ?_ GE496.out) | exact HB.out)) hb)
                                        clear HO_5
                                        clear HO_8
                                        clear HO489
                                        clear BK481
                                        clear BK496
                                        clear HB
                                        have HO_5 := n0_
                                        have HO_8 := n1_
                                        have HO489 := n2_
                                        have BK481 := n3_
                                        have BK496 := n4_
                                        have HB := n5_
                                        clear n0_ n1_ n2_ n3_ n4_ n5_
                                        (try clear hb)
                                        (try clear hb2)
                                        (try clear hk)
                                        (try clear hi)
                                        refine hK.out _ _ ⟨(blk_cell BK496.out 0).trans rfl, (blk_cell BK496.out 1).trans rfl, (blk_cell BK496.out 2).trans rfl, (blk_cell BK496.out 3).trans rfl, (blk_cell BK496.out 4).trans rfl, (blk_cell BK496.out 5).trans rfl, HS6_, HS7_, HS8_, HS9_, HS10_, HS11_⟩ (fun hHeld => ?_)
                                        clear hK K
                                        refine norm_ (a' := ?_) ?_ ?_
                                        rotate_left
                                        · show Act.put _ (some 112) _ = _
                                          simp only [Act.put, List.setIfInBounds_toArray, List.set_cons_zero, List.set_cons_succ, i64_w, i32_w]
                                          rfl
                                        refine pure_ (i := 32) (N := some 113) (v := ?_) (a' := ?_) #[true, true, true, true, true, true, true, true, true, true, true, true, true, true, true, true, true, true, true, true, true, true, true, true, true, true, true, true, true, true, true, true, true, false] rfl rfl (any_of HT_.out (by kernel_rfl)) (fun _ _ _ h => h) (Or.inl ⟨by rfl, ?_⟩) ?_ ?_
                                        rotate_left
                                        · intro w'
                                          go_simp
                                          with_reducible rfl
                                        rotate_left
                                        · simp only [Act.put, List.setIfInBounds_toArray, List.set_cons_zero, List.set_cons_succ, i64_w, i32_w]
                                          rfl
                                        refine pure_ (i := 33) (N := some 4) (v := ?_) (a' := ?_) #[true, true, true, true, true, true, true, true, true, true, true, true, true, true, true, true, true, true, true, true, true, true, true, true, true, true, true, true, true, true, true, true, true, true] rfl rfl (any_of HT_.out (by kernel_rfl)) (fun _ _ _ h => h) (Or.inl ⟨by rfl, ?_⟩) ?_ ?_
                                        rotate_left
                                        · intro w'
                                          go_simp
                                          with_reducible rfl
                                        rotate_left
                                        · simp only [Act.put, List.setIfInBounds_toArray, List.set_cons_zero, List.set_cons_succ, i64_w, i32_w]
                                          rfl
                                        refine done_ (done_of HT_.out (by kernel_rfl)) ?_
                                        try go_wp2
                                        go_ret
                                        exact ⟨by first | rfl | (simp [errW_none, errW_some] <;> rfl) | (simp only [← hji20, ← hji22]; first | rfl | (simp [errW_none, errW_some] <;> rfl)) | (simp [*, errW_none, errW_some] <;> rfl), by repeat (first | (with_reducible first | exact HB.out | apply below_alloc | apply pw_below_drewN | apply below_drew1 | refine below_set ?_ GE481.out | refine below_set ?_ GE496.out) | exact HB.out)⟩
                                      · rw [if_neg c46] at H
                                        have c46b0 : decide (t494 ≤ 6) = false := decide_eq_false c46
                                        clear c46
                                        exact absurd (Option.some.inj H) (by rw [hT_]; decide)
                                    · rw [if_neg c45] at H
                                      have c45b0 : decide (0 ≤ t494) = false := decide_eq_false c45
                                      clear c45
                                      exact absurd (Option.some.inj H) (by rw [hT_]; decide)
                                  · rw [if_neg c44] at H
                                    have c44b0 : decide (t493 ≤ 30) = false := decide_eq_false c44
                                    clear c44
                                    exact absurd (Option.some.inj H) (by rw [hT_]; decide)
                                · rw [if_neg c43] at H
                                  have c43b0 : decide (1 ≤ t493) = false := decide_eq_false c43
                                  clear c43
                                  exact absurd (Option.some.inj H) (by rw [hT_]; decide)
                              · rw [if_neg c42] at H
                                have c42b0 : ((((rd_T35 t487 0).f0.f0) == t490 && (((rd_T35 t487 0).f0.f1) == t491 && (((rd_T35 t487 0).f0.f2) == t492))) && (((rd_T35 t487 0).f1) == t493 && (((rd_T35 t487 0).f2) == t494 && (((rd_T35 t487 0).f3) == t495)))) = false := by simpa using c42
                                clear c42
                                exact absurd (Option.some.inj H) (by rw [hT_]; decide)
                            · rw [if_neg c41] at H
                              exact absurd H (by simp)
                          · rw [if_neg c40] at H
                            have c40b0 : ((t487.length : Int) == 1) = false := beq_eq_false_iff_ne.mpr c40
                            have c40b1 : ((t487.length : Int) != 1) = true := bne_iff_ne.mpr c40
                            exact absurd (Option.some.inj H) (by rw [hT_]; decide)
              · rw [if_neg c24] at H
                exact absurd H (by simp)
            · rw [if_neg c23] at H
              exact absurd H (by simp)

theorem ddilaw32_UpstreamKnows.walk (P : ddilaw32_UpstreamKnows.Pure) (A0 : Option Addr) (c0 : Nat) (l0 : List (S27)) (a1 : Int) (w : World) (hr0 : Kd.C k27 w A0 l0.length l0) (hc0 : l0.length ≤ c0) (w0 : (l0.length * 48 ≤ 140737488351232 ∧ l0.length ≤ maxLen ∧ ∀ y0_ ∈ l0, okS27 y0_)) (w1 : (Lit.int .u8 a1).wf = true) :
    Calls Try.prog 6 #[.slice A0 l0.length c0, .int .u8 a1] w fun e w' => e = .returned (.bool true) ∧ Below w.heap.size w w' := by
  obtain ⟨k, h⟩ := P l0 a1 w0 w1
  refine (ddilaw32_UpstreamKnows.calls k A0 c0 l0 a1 true w hr0 hc0 h rfl).mono ?_
  rintro e w' ⟨rfl, hd⟩
  exact ⟨rfl, hd⟩

end Go.Proofs.Ytgkpinecggoilaa.QA
