-- Written by this session's own program (wip/xprint) out of the translation; Lean checks it.
import Derived.Test.YtgkpinecggoilaaQAd
import Derived.Test.YtgkpinecggoilaaQAx0
import Derived.Test.YtgkpinecggoilaaQAx3
import Derived.Test.YtgkpinecggoilaaQAx23
import Derived.Test.YtgkpinecggoilaaQAx30
import Derived.Test.YtgkpinecggoilaaQAx31
import Derived.Test.YtgkpinecggoilaaQAx39
import Derived.Test.YtgkpinecggoilaaQAx49
namespace Go.Proofs.Ytgkpinecggoilaa.QA
open Go.RowKit Go.Proofs.YtgkpinecggoilaaW.PrintWords Go.Proofs.YtgkpinecggoilaaW.PrintLast Go.Proofs.YtgkpinecggoilaaW.PrintMore
attribute [local go_sem] max2_int min2_int max_two min_two max_three min_three max_four min_four   -- for this text's walks alone
attribute [local go_sem high] Go.Proofs.Ytgkpinecggoilaa.XW.cell_setCell_lit
set_option linter.unusedVariables false
set_option linter.unusedSimpArgs false

attribute [local go_sem high] eqA35
/-! ### ddilaw32_UpstreamFails: function 8 -/
def ddilaw32_UpstreamFails.T13 : Bool × List (List Nat × List Nat) := (true, [([], []), ([0], [0]), ([1], [1]), ([2], [2]), ([3], [3]), ([4, 3], [3, 4]), ([5, 3], [3, 5]), ([3], [3]), ([7, 3], [3, 7]), ([6, 8, 3], [3, 6, 8]), ([3, 9], [3, 9]), ([10, 3], [10]), ([11], [11]), ([12, 11, 11], [11, 12]), ([13, 11], [11, 13]), ([14, 11], [11, 14]), ([11, 15], [11, 15]), ([16, 13], [16]), ([17, 17], [17]), ([17, 18], [17, 18]), ([19, 18, 0, 1, 2, 3, 4, 5, 6, 7, 8, 9, 10, 11, 12, 13, 14, 15, 16, 17, 18, 19], [19])])
def ddilaw32_UpstreamFails.B13 : List Nat := [0, 1, 3, 7, 15, 31, 63, 15, 143, 511, 1023, 2047, 4095, 8191, 16383, 32767, 65535, 131071, 262143, 524287, 1048575]
theorem ddilaw32_UpstreamFails.tab13 : rtab .any (opsOf Try.f8 13) = ddilaw32_UpstreamFails.T13 := by kernel_rfl
theorem ddilaw32_UpstreamFails.bits13 : waitsOk ddilaw32_UpstreamFails.T13.2 ddilaw32_UpstreamFails.B13 = true := by kernel_rfl
set_option maxHeartbeats 8000000 in
set_option maxRecDepth 100000 in
theorem ddilaw32_UpstreamFails.calls (k : Nat) (a0_0 : Bool) (a0_1 : Int) (a0_2 : Int) (a1 : Int) (a2 : Int) (r : Bool) (w : World) (h : ddilaw32_UpstreamFails.f k a0_0 a0_1 a0_2 a1 a2 = some r) (hT_ : r = true) :
    Calls Try.prog 8 #[.agg #[.bool a0_0, .int .u64 a0_1, .int .u64 a0_2], .int .u8 a1, .int .u32 a2] w fun e w' => e = .returned (.bool r) ∧ Below w.heap.size w w' := by
  have hu25 := Try.underlying25
  have hu35 := Try.underlying35
  have HB := Aside0.mk (Below.refl w.heap.size w)
  have H : (ddilaw32_UpstreamFails.l0 k a1 ([] : List (S35)) 5 (wrap64 (Int.tdiv (wrap64 (a2)) 2)) 0 a0_0 a0_1 a0_2) = some r := h
  clear h
  have H' := Aside0.mk H
  clear H
  go_enter Try.func8, Try.ntmps8
  go_wp2_with (first | ((with_reducible refine gate_dst (N := 3) rfl ?_); (try (refine gate_guard (by rfl) ?_; dsimp only)); refine box_event ?hg (N := 3) ?hd (cs := #[.bool a0_0, .int .u64 a0_1, .int .u64 a0_2]) (t := 25) ?hr ?_; (case hd => rfl); (case hg => rfl); (case hr => first | (go_simp; done) | (go_simp; rfl)); intro gb550 hg w4 hbox hb; have n0_ := Aside0.mk (below_step (by repeat (first | (with_reducible first | exact HB.out | apply below_alloc | apply pw_below_drewN | apply below_drew1) | exact HB.out)) hb); have n1_ := Aside0.mk (hbox); have n2_ := Aside0.mk ((by rw [hg]; exact (below_size (by repeat (first | (with_reducible first | exact HB.out | apply below_alloc | apply pw_below_drewN | apply below_drew1) | exact HB.out))) : w.heap.size ≤ gb550)); have n3_ := Aside0.mk ((by rw [hg]; exact (below_size (by repeat (first | (with_reducible first | exact HB.out | apply below_alloc | apply pw_below_drewN | apply below_drew1) | exact HB.out))) : w.heap.size ≤ gb550)); clear HB; have HB := n0_; have BK550 := n1_; have GW550 := n2_; have GE550 := n3_; clear n0_ n1_ n2_ n3_; clear hb hbox hg))
  go_loopg [7, 8, 10] k (fun kq v7 v8 v10 w' => ∃ (x7_1 : List (S35)) (x8_1 : Int) (x10_1 : Int), v8 = .int .i64 x8_1 ∧ v10 = .int .i64 x10_1 ∧ Aside0 (ddilaw32_UpstreamFails.l0 kq a1 x7_1 x8_1 (wrap64 (Int.tdiv (wrap64 (a2)) 2)) x10_1 a0_0 a0_1 a0_2 = some r) ∧ Aside0 (kq ≤ k) ∧ Aside0 (Kd.R k35 35 w' w.heap.size (fun _ => True) v7 x7_1) ∧ Aside0 (w'.heap[gb550]? = some (.cells #[.bool a0_0, .int .u64 a0_1, .int .u64 a0_2] 25 (0, 0))) ∧ Aside0 (Below w.heap.size w w'))
  case atStart => exact ⟨(([] : List (S35))), (5), (0), (by first | rfl | (simp; done) | (simp [*]; done)), (by first | rfl | (simp; done) | (simp [*]; done)), H', ⟨Nat.le_refl _⟩, ⟨by first | exact Kd.R_nil _ _ _ _ _ | exact Kd.N_nil _ _ _ _ _ | exact Kd.V_nil _ _ _ _ _ | exact Kd.Q_nil _ _ _ _ _ | exact Kd.S_nil _ _ _ _ _⟩, ⟨by (with_reducible repeat (first | refine blk_drewN ?_ _ | refine blk_drew ?_ | refine blk_alloc ?_ _)); exact BK550.out⟩, ⟨by repeat (first | (with_reducible first | exact HB.out | apply below_alloc | apply pw_below_drewN | apply below_drew1 | refine below_set ?_ GE550.out) | exact HB.out)⟩⟩
  case round =>
    clear H'
    try clear p2
    obtain ⟨x7_1, x8_1, x10_1, rfl, rfl, HA, HK1, HO_7, BK550, HB⟩ := hrel
    cases gk with
    | zero => exact absurd HA.out (by simp [ddilaw32_UpstreamFails.l0])
    | succ k1 =>
      have H := HA.out
      clear HA
      simp only [ddilaw32_UpstreamFails.l0] at H
      by_cases c5 : x10_1 ≤ (wrap64 (Int.tmod a1 12))
      · rw [if_pos c5] at H
        have c5b0 : decide (x10_1 ≤ (wrap64 (Int.tmod a1 12))) = true := decide_eq_true c5
        clear c5
        replace H := Option.bind_eq_some_iff.mp H
        obtain ⟨t551, A60, H⟩ := H
        (try dsimp only at H)
        have A6 := Aside0.mk A60
        clear A60
        obtain ⟨ji7, hji7⟩ : ∃ j_ : Int, (mn (wrap64 (2 * x8_1)) 320) = j_ := ⟨_, rfl⟩
        replace H : ((upstream_Find.f k1 t551 a0_0 a0_1 a0_2).bind fun bt554 => (if (t551.length : Int) = 1 then (if bt554.2.2.2.2.2 = (wrap64 ((wrap64 (Int.tdiv (wrap64 (a2)) 2)) + (ji7))) then (if bt554.2.2.2.2.1 = (mn (wrap64 (x10_1 + 1)) 6) then (ddilaw32_UpstreamFails.j1 k1 a1 t551 ji7 (wrap64 (Int.tdiv (wrap64 (a2)) 2)) x10_1 (bt554.2.2.2.1 != 2) a0_0 a0_1 a0_2) else (ddilaw32_UpstreamFails.j1 k1 a1 t551 ji7 (wrap64 (Int.tdiv (wrap64 (a2)) 2)) x10_1 true a0_0 a0_1 a0_2)) else (ddilaw32_UpstreamFails.j1 k1 a1 t551 ji7 (wrap64 (Int.tdiv (wrap64 (a2)) 2)) x10_1 true a0_0 a0_1 a0_2)) else (ddilaw32_UpstreamFails.j1 k1 a1 t551 ji7 (wrap64 (Int.tdiv (wrap64 (a2)) 2)) x10_1 true a0_0 a0_1 a0_2))) = some r := by first | (rw [hji7] at H; exact H) | (simp only [hji7] at H ⊢; exact H)
        (try rw [hji7] at A6)
        have hji7_ : (if 320 < (wrap64 (2 * x8_1)) then 320 else (wrap64 (2 * x8_1))) = ji7 := hji7
        replace H := Option.bind_eq_some_iff.mp H
        obtain ⟨⟨t554, t555, t556, t557, t558, t559⟩, A80, H⟩ := H
        (try dsimp only at H)
        have A8 := Aside0.mk A80
        clear A80
        have HC9 := Aside0.mk H
        clear H
        have hcz10_0 : wr.cell? ⟨gb550, 0, none⟩ = some (.bool a0_0) := (blk_cell BK550.out 0).trans rfl
        have hcz10_1 : wr.cell? ⟨gb550, 1, none⟩ = some (.int .u64 a0_1) := (blk_cell BK550.out 1).trans rfl
        have hcz10_2 : wr.cell? ⟨gb550, 2, none⟩ = some (.int .u64 a0_2) := (blk_cell BK550.out 2).trans rfl
        have hfz10_0 := blk_frozen BK550.out 0
        have hfz10_1 := blk_frozen BK550.out 1
        have hfz10_2 := blk_frozen BK550.out 2
        obtain ⟨Ao11, co11, eo11⟩ := Kd.R_slice HO_7.out
        subst eo11
        go_upto_region 10 with (first | ((with_reducible refine gate_callee (f := 13) rfl ?_); refine goesL_ (some 25) rfl rfl Try.func13 (by kernel_rfl) rfl #[.slice Ao11 x7_1.length co11, .agg #[.bool a0_0, .int .u64 a0_1, .int .u64 a0_2], .int .i64 (wrap64 (Int.tdiv (wrap64 (a2)) 2))] rfl (by (try simp only [List.map_toArray, List.map_cons, List.map_nil]); first | done | rfl | (simp only [List.length_drop, List.length_take]; rfl)) ?_; (with_reducible refine (upstream_Bad.calls k1 _ _ x7_1 a0_0 a0_1 a0_2 (wrap64 (Int.tdiv (wrap64 (a2)) 2)) t551 _ ?side1 ?side2 A6.out).mono ?_); (case side1 => repeat (first | exact (Kd.R_reads' HO_7.out).2.2 | (with_reducible refine Kd.C_alloc ?_ _) | (with_reducible refine Kd.C_drewN ?_ _) | (with_reducible refine Kd.C_drew ?_))); (case side2 => exact (Kd.R_reads' HO_7.out).2.1); rintro e w12 ⟨v552, rfl, ho0, hb⟩; refine ⟨_, rfl, ?_⟩; have n0_ := Aside0.mk (Kd.R_elder' (by (with_reducible repeat (first | apply Kd.R_alloc | apply Kd.R_drewN | apply Kd.R_drew)); exact HO_7.out) (Kd.R_base ho0) hb); have n1_ := Aside0.mk (Kd.R_lower (Kd.R_new' ho0 (Kd.R_lt (by (with_reducible repeat (first | apply Kd.R_alloc | apply Kd.R_drewN | apply Kd.R_drew)); exact HO_7.out))) (below_size (by repeat (first | (with_reducible first | exact HB.out | apply below_alloc | apply pw_below_drewN | apply below_drew1 | refine below_set ?_ GE550.out) | exact HB.out)))); have n2_ := Aside0.mk (blk_below (g := gb550) (o := .cells #[.bool a0_0, .int .u64 a0_1, .int .u64 a0_2] 25 (0, 0)) (by (with_reducible repeat (first | refine blk_drewN ?_ _ | refine blk_drew ?_ | refine blk_alloc ?_ _)); exact BK550.out) hb); have n3_ := Aside0.mk (below_step (by repeat (first | (with_reducible first | exact HB.out | apply below_alloc | apply pw_below_drewN | apply below_drew1 | refine below_set ?_ GE550.out) | exact HB.out)) hb); clear HO_7; clear BK550; clear HB; have HO_7 := n0_; have HO553 := n1_; have BK550 := n2_; have HB := n3_; clear n0_ n1_ n2_ n3_; (try clear hb); (try clear hb2); (try clear hk); (try clear hi); (try clear ho0); have hcz13_0 : w12.cell? ⟨gb550, 0, none⟩ = some (.bool a0_0) := (blk_cell BK550.out 0).trans rfl; have hcz13_1 : w12.cell? ⟨gb550, 1, none⟩ = some (.int .u64 a0_1) := (blk_cell BK550.out 1).trans rfl; have hcz13_2 : w12.cell? ⟨gb550, 2, none⟩ = some (.int .u64 a0_2) := (blk_cell BK550.out 2).trans rfl; have hfz13_0 := blk_frozen BK550.out 0; have hfz13_1 := blk_frozen BK550.out 1; have hfz13_2 := blk_frozen BK550.out 2; obtain ⟨Ao14, co14, eo14⟩ := Kd.R_slice HO553.out; subst eo14) | ((with_reducible refine gate_callee (f := 15) rfl ?_); refine goesL_ (some 31) rfl rfl Try.func15 (by kernel_rfl) rfl #[.slice Ao14 t551.length co14, .agg #[.bool a0_0, .int .u64 a0_1, .int .u64 a0_2]] rfl (by (try simp only [List.map_toArray, List.map_cons, List.map_nil]); first | done | rfl | (simp only [List.length_drop, List.length_take]; rfl)) ?_; (with_reducible refine (upstream_Find.calls k1 _ _ t551 a0_0 a0_1 a0_2 t554 t555 t556 t557 t558 t559 _ ?side1 ?side2 A8.out).mono ?_); (case side1 => repeat (first | exact (Kd.R_reads' HO553.out).2.2 | (with_reducible refine Kd.C_alloc ?_ _) | (with_reducible refine Kd.C_drewN ?_ _) | (with_reducible refine Kd.C_drew ?_))); (case side2 => exact (Kd.R_reads' HO553.out).2.1); rintro e w15 ⟨rfl, hb⟩; refine ⟨_, rfl, ?_⟩; have n0_ := Aside0.mk (Kd.R_below (by (with_reducible repeat (first | apply Kd.R_alloc | apply Kd.R_drewN | apply Kd.R_drew)); exact HO_7.out) hb); have n1_ := Aside0.mk (Kd.R_below (by (with_reducible repeat (first | apply Kd.R_alloc | apply Kd.R_drewN | apply Kd.R_drew)); exact HO553.out) hb); have n2_ := Aside0.mk (blk_below (g := gb550) (o := .cells #[.bool a0_0, .int .u64 a0_1, .int .u64 a0_2] 25 (0, 0)) (by (with_reducible repeat (first | refine blk_drewN ?_ _ | refine blk_drew ?_ | refine blk_alloc ?_ _)); exact BK550.out) hb); have n3_ := Aside0.mk (below_step (by repeat (first | (with_reducible first | exact HB.out | apply below_alloc | apply pw_below_drewN | apply below_drew1 | refine below_set ?_ GE550.out) | exact HB.out)) hb); clear HO_7; clear HO553; clear BK550; clear HB; have HO_7 := n0_; have HO553 := n1_; have BK550 := n2_; have HB := n3_; clear n0_ n1_ n2_ n3_; (try clear hb); (try clear hb2); (try clear hk); (try clear hi)) | ((with_reducible refine gate_dst (N := 11) rfl ?_); (try (refine gate_guard (by rfl) ?_; dsimp only)); refine box_event ?hg (N := 11) ?hd (cs := #[.bool false, .int .u64 0, .int .u64 0, .int .i64 0, .int .i64 0, .int .i64 0]) (t := 35) ?hr ?_; (case hd => rfl); (case hg => rfl); (case hr => first | (go_simp; done) | (go_simp; rfl)); intro gb560 hg w16 hbox hb; have n0_ := Aside0.mk (Kd.R_below (Kd.R_elderB (by (with_reducible repeat (first | apply Kd.R_alloc | apply Kd.R_drewN | apply Kd.R_drew)); exact HO_7.out) gb560 (Nat.le_of_eq hg.symm)) hb); have n1_ := Aside0.mk (Kd.R_below (Kd.R_elderB (by (with_reducible repeat (first | apply Kd.R_alloc | apply Kd.R_drewN | apply Kd.R_drew)); exact HO553.out) gb560 (Nat.le_of_eq hg.symm)) hb); have n2_ := Aside0.mk (blk_below (g := gb550) (o := .cells #[.bool a0_0, .int .u64 a0_1, .int .u64 a0_2] 25 (0, 0)) (by (with_reducible repeat (first | refine blk_drewN ?_ _ | refine blk_drew ?_ | refine blk_alloc ?_ _)); exact BK550.out) hb); have n3_ := Aside0.mk (below_step (by repeat (first | (with_reducible first | exact HB.out | apply below_alloc | apply pw_below_drewN | apply below_drew1 | refine below_set ?_ GE550.out) | exact HB.out)) hb); have n4_ := Aside0.mk (hbox); have n5_ := Aside0.mk ((by rw [hg]; exact (below_size (by repeat (first | (with_reducible first | exact HB.out | apply below_alloc | apply pw_below_drewN | apply below_drew1 | refine below_set ?_ GE550.out) | exact HB.out))) : w.heap.size ≤ gb560)); have n6_ := Aside0.mk ((by rw [hg]; exact (below_size (by repeat (first | (with_reducible first | exact HB.out | apply below_alloc | apply pw_below_drewN | apply below_drew1 | refine below_set ?_ GE550.out) | exact HB.out))) : w.heap.size ≤ gb560)); have n7_ := Aside0.mk ((by rw [hg]; exact Nat.ne_of_lt (blk_lt (g := gb550) (o := .cells #[.bool a0_0, .int .u64 a0_1, .int .u64 a0_2] 25 (0, 0)) (by (with_reducible repeat (first | refine blk_drewN ?_ _ | refine blk_drew ?_ | refine blk_alloc ?_ _)); exact BK550.out)) : gb550 ≠ gb560)); have n8_ := Aside0.mk ((by rw [hg]; exact Nat.ne_of_gt (blk_lt (g := gb550) (o := .cells #[.bool a0_0, .int .u64 a0_1, .int .u64 a0_2] 25 (0, 0)) (by (with_reducible repeat (first | refine blk_drewN ?_ _ | refine blk_drew ?_ | refine blk_alloc ?_ _)); exact BK550.out)) : gb560 ≠ gb550)); clear HO_7; clear HO553; clear BK550; clear HB; have HO_7 := n0_; have HO553 := n1_; have BK550 := n2_; have HB := n3_; have BK560 := n4_; have GW560 := n5_; have GE560 := n6_; have NB550_560 := n7_; have NB560_550 := n8_; clear n0_ n1_ n2_ n3_ n4_ n5_ n6_ n7_ n8_; clear hb hbox hg; have hnb17 := NB560_550.out; have hnc17 := NB550_560.out; have hcz18_0 : w16.cell? ⟨gb560, 0, none⟩ = some (.bool false) := (blk_cell BK560.out 0).trans rfl; have hcz18_1 : w16.cell? ⟨gb560, 1, none⟩ = some (.int .u64 0) := (blk_cell BK560.out 1).trans rfl; have hcz18_2 : w16.cell? ⟨gb560, 2, none⟩ = some (.int .u64 0) := (blk_cell BK560.out 2).trans rfl; have hcz18_3 : w16.cell? ⟨gb560, 3, none⟩ = some (.int .i64 0) := (blk_cell BK560.out 3).trans rfl; have hcz18_4 : w16.cell? ⟨gb560, 4, none⟩ = some (.int .i64 0) := (blk_cell BK560.out 4).trans rfl; have hcz18_5 : w16.cell? ⟨gb560, 5, none⟩ = some (.int .i64 0) := (blk_cell BK560.out 5).trans rfl; have hfz18_0 := blk_frozen BK560.out 0; have hfz18_1 := blk_frozen BK560.out 1; have hfz18_2 := blk_frozen BK560.out 2; have hfz18_3 := blk_frozen BK560.out 3; have hfz18_4 := blk_frozen BK560.out 4; have hfz18_5 := blk_frozen BK560.out 5))
        (try simp only [Act.put, List.setIfInBounds_toArray, List.set_cons_zero, List.set_cons_succ])
        go_cut [55] (fun v55 wc => ∃ (kq : Nat) (x55_8 : Bool), v55 = .bool x55_8 ∧ Aside0 (ddilaw32_UpstreamFails.j1 kq a1 t551 ji7 (wrap64 (Int.tdiv (wrap64 (a2)) 2)) x10_1 x55_8 a0_0 a0_1 a0_2 = some r) ∧ Aside0 (kq ≤ k1) ∧ Aside0 (Kd.R k35 35 wc w.heap.size (fun k_ => k_ ≠ gb560) (.slice Ao14 t551.length co14) t551) ∧ Aside0 (wc.heap[gb550]? = some (.cells #[.bool a0_0, .int .u64 a0_1, .int .u64 a0_2] 25 (0, 0))) ∧ Aside0 (wc.heap[gb560]? = some (.cells #[.bool t554, .int .u64 t555, .int .u64 t556, .int .i64 t557, .int .i64 t558, .int .i64 t559] 35 (0, 0))) ∧ Aside0 (Below w.heap.size w wc))
        case first =>
          have H := HC9.out
          clear HC9
          by_cases c19 : (t551.length : Int) = 1
          · rw [if_pos c19] at H
            have c19b0 : ((t551.length : Int) == 1) = true := beq_iff_eq.mpr c19
            have c19b1 : ((t551.length : Int) != 1) = false := bne_eq_false_iff_eq.mpr c19
            clear c19
            (first | rw [c19b0] | (simp only [i64_w, i32_w]; rw [c19b0]) | skip)
            by_cases c20 : t559 = (wrap64 ((wrap64 (Int.tdiv (wrap64 (a2)) 2)) + (ji7)))
            · rw [if_pos c20] at H
              have c20b0 : (t559 == (wrap64 ((wrap64 (Int.tdiv (wrap64 (a2)) 2)) + (ji7)))) = true := beq_iff_eq.mpr c20
              have c20b1 : (t559 != (wrap64 ((wrap64 (Int.tdiv (wrap64 (a2)) 2)) + (ji7)))) = false := bne_eq_false_iff_eq.mpr c20
              clear c20
              obtain ⟨ji21, hji21⟩ : ∃ j_ : Int, (mn (wrap64 (x10_1 + 1)) 6) = j_ := ⟨_, rfl⟩
              replace H : (if t558 = (ji21) then (ddilaw32_UpstreamFails.j1 k1 a1 t551 ji7 (wrap64 (Int.tdiv (wrap64 (a2)) 2)) x10_1 (t557 != 2) a0_0 a0_1 a0_2) else (ddilaw32_UpstreamFails.j1 k1 a1 t551 ji7 (wrap64 (Int.tdiv (wrap64 (a2)) 2)) x10_1 true a0_0 a0_1 a0_2)) = some r := by first | (rw [hji21] at H; exact H) | (simp only [hji21] at H ⊢; exact H)
              have hji21_ : (if 6 < (wrap64 (x10_1 + 1)) then 6 else (wrap64 (x10_1 + 1))) = ji21 := hji21
              by_cases c22 : t558 = (ji21)
              · rw [if_pos c22] at H
                have c22b0 : (t558 == (ji21)) = true := beq_iff_eq.mpr c22
                have c22b1 : (t558 != (ji21)) = false := bne_eq_false_iff_eq.mpr c22
                clear c22
                have H' := Aside0.mk H
                clear H
                have hnb23 := NB560_550.out
                have hnc23 := NB550_560.out
                have hcz24_0 : w16.cell? ⟨gb560, 0, none⟩ = some (.bool false) := (blk_cell BK560.out 0).trans rfl
                have hcz24_1 : w16.cell? ⟨gb560, 1, none⟩ = some (.int .u64 0) := (blk_cell BK560.out 1).trans rfl
                have hcz24_2 : w16.cell? ⟨gb560, 2, none⟩ = some (.int .u64 0) := (blk_cell BK560.out 2).trans rfl
                have hcz24_3 : w16.cell? ⟨gb560, 3, none⟩ = some (.int .i64 0) := (blk_cell BK560.out 3).trans rfl
                have hcz24_4 : w16.cell? ⟨gb560, 4, none⟩ = some (.int .i64 0) := (blk_cell BK560.out 4).trans rfl
                have hcz24_5 : w16.cell? ⟨gb560, 5, none⟩ = some (.int .i64 0) := (blk_cell BK560.out 5).trans rfl
                have hfz24_0 := blk_frozen BK560.out 0
                have hfz24_1 := blk_frozen BK560.out 1
                have hfz24_2 := blk_frozen BK560.out 2
                have hfz24_3 := blk_frozen BK560.out 3
                have hfz24_4 := blk_frozen BK560.out 4
                have hfz24_5 := blk_frozen BK560.out 5
                go_wp2
                go_meet
                case rel => exact ⟨_, ((t557 != 2)), (by first | rfl | (simp; done) | (simp [*]; done)), H', ⟨by have := HK1.out; first | omega | exact Nat.le_refl _⟩, ⟨by (with_reducible repeat (first | apply Kd.R_alloc | apply Kd.R_drewN | apply Kd.R_drew)); exact Kd.R_mono (Kd.R_far (p := ⟨gb560, 5, none⟩) (Kd.R_far (p := ⟨gb560, 4, none⟩) (Kd.R_far (p := ⟨gb560, 3, none⟩) (Kd.R_far (p := ⟨gb560, 2, none⟩) (Kd.R_far (p := ⟨gb560, 1, none⟩) (Kd.R_far (p := ⟨gb560, 0, none⟩) (Kd.R_mono HO553.out (fun k_ hk => (⟨hk, hk.2⟩ : _ ∧ k_ ≠ gb560))) (fun _ hk => hk.2) (.bool t554)) (fun _ hk => hk.2) (.int .u64 t555)) (fun _ hk => hk.2) (.int .u64 t556)) (fun _ hk => hk.2) (.int .i64 t557)) (fun _ hk => hk.2) (.int .i64 t558)) (fun _ hk => hk.2) (.int .i64 t559)) (fun _ hk => hk.1.2)⟩, ⟨by (with_reducible repeat (first | refine blk_drewN ?_ _ | refine blk_drew ?_ | refine blk_alloc ?_ _)); refine blk_far ?_ NB550_560.out _; (with_reducible repeat (first | refine blk_drewN ?_ _ | refine blk_drew ?_ | refine blk_alloc ?_ _)); refine blk_far ?_ NB550_560.out _; (with_reducible repeat (first | refine blk_drewN ?_ _ | refine blk_drew ?_ | refine blk_alloc ?_ _)); refine blk_far ?_ NB550_560.out _; (with_reducible repeat (first | refine blk_drewN ?_ _ | refine blk_drew ?_ | refine blk_alloc ?_ _)); refine blk_far ?_ NB550_560.out _; (with_reducible repeat (first | refine blk_drewN ?_ _ | refine blk_drew ?_ | refine blk_alloc ?_ _)); refine blk_far ?_ NB550_560.out _; (with_reducible repeat (first | refine blk_drewN ?_ _ | refine blk_drew ?_ | refine blk_alloc ?_ _)); refine blk_far ?_ NB550_560.out _; (with_reducible repeat (first | refine blk_drewN ?_ _ | refine blk_drew ?_ | refine blk_alloc ?_ _)); exact BK550.out⟩, ⟨by (with_reducible repeat (first | refine blk_drewN ?_ _ | refine blk_drew ?_ | refine blk_alloc ?_ _)); refine blk_put (cs := #[.bool t554, .int .u64 t555, .int .u64 t556, .int .i64 t557, .int .i64 t558, .int .i64 0]) ?_ 5 _ rfl; (with_reducible repeat (first | refine blk_drewN ?_ _ | refine blk_drew ?_ | refine blk_alloc ?_ _)); refine blk_put (cs := #[.bool t554, .int .u64 t555, .int .u64 t556, .int .i64 t557, .int .i64 0, .int .i64 0]) ?_ 4 _ rfl; (with_reducible repeat (first | refine blk_drewN ?_ _ | refine blk_drew ?_ | refine blk_alloc ?_ _)); refine blk_put (cs := #[.bool t554, .int .u64 t555, .int .u64 t556, .int .i64 0, .int .i64 0, .int .i64 0]) ?_ 3 _ rfl; (with_reducible repeat (first | refine blk_drewN ?_ _ | refine blk_drew ?_ | refine blk_alloc ?_ _)); refine blk_put (cs := #[.bool t554, .int .u64 t555, .int .u64 0, .int .i64 0, .int .i64 0, .int .i64 0]) ?_ 2 _ rfl; (with_reducible repeat (first | refine blk_drewN ?_ _ | refine blk_drew ?_ | refine blk_alloc ?_ _)); refine blk_put (cs := #[.bool t554, .int .u64 0, .int .u64 0, .int .i64 0, .int .i64 0, .int .i64 0]) ?_ 1 _ rfl; (with_reducible repeat (first | refine blk_drewN ?_ _ | refine blk_drew ?_ | refine blk_alloc ?_ _)); refine blk_put (cs := #[.bool false, .int .u64 0, .int .u64 0, .int .i64 0, .int .i64 0, .int .i64 0]) ?_ 0 _ rfl; (with_reducible repeat (first | refine blk_drewN ?_ _ | refine blk_drew ?_ | refine blk_alloc ?_ _)); exact BK560.out⟩, ⟨by repeat (first | (with_reducible first | exact HB.out | apply below_alloc | apply pw_below_drewN | apply below_drew1 | refine below_set ?_ GE550.out | refine below_set ?_ GE560.out) | exact HB.out)⟩⟩
              · rw [if_neg c22] at H
                have c22b0 : (t558 == (ji21)) = false := beq_eq_false_iff_ne.mpr c22
                have c22b1 : (t558 != (ji21)) = true := bne_iff_ne.mpr c22
                have H' := Aside0.mk H
                clear H
                have hnb25 := NB560_550.out
                have hnc25 := NB550_560.out
                have hcz26_0 : w16.cell? ⟨gb560, 0, none⟩ = some (.bool false) := (blk_cell BK560.out 0).trans rfl
                have hcz26_1 : w16.cell? ⟨gb560, 1, none⟩ = some (.int .u64 0) := (blk_cell BK560.out 1).trans rfl
                have hcz26_2 : w16.cell? ⟨gb560, 2, none⟩ = some (.int .u64 0) := (blk_cell BK560.out 2).trans rfl
                have hcz26_3 : w16.cell? ⟨gb560, 3, none⟩ = some (.int .i64 0) := (blk_cell BK560.out 3).trans rfl
                have hcz26_4 : w16.cell? ⟨gb560, 4, none⟩ = some (.int .i64 0) := (blk_cell BK560.out 4).trans rfl
                have hcz26_5 : w16.cell? ⟨gb560, 5, none⟩ = some (.int .i64 0) := (blk_cell BK560.out 5).trans rfl
                have hfz26_0 := blk_frozen BK560.out 0
                have hfz26_1 := blk_frozen BK560.out 1
                have hfz26_2 := blk_frozen BK560.out 2
                have hfz26_3 := blk_frozen BK560.out 3
                have hfz26_4 := blk_frozen BK560.out 4
                have hfz26_5 := blk_frozen BK560.out 5
                go_wp2
                go_meet
                case rel => exact ⟨_, (true), (by first | rfl | (simp; done) | (simp [*]; done)), H', ⟨by have := HK1.out; first | omega | exact Nat.le_refl _⟩, ⟨by (with_reducible repeat (first | apply Kd.R_alloc | apply Kd.R_drewN | apply Kd.R_drew)); exact Kd.R_mono (Kd.R_far (p := ⟨gb560, 5, none⟩) (Kd.R_far (p := ⟨gb560, 4, none⟩) (Kd.R_far (p := ⟨gb560, 3, none⟩) (Kd.R_far (p := ⟨gb560, 2, none⟩) (Kd.R_far (p := ⟨gb560, 1, none⟩) (Kd.R_far (p := ⟨gb560, 0, none⟩) (Kd.R_mono HO553.out (fun k_ hk => (⟨hk, hk.2⟩ : _ ∧ k_ ≠ gb560))) (fun _ hk => hk.2) (.bool t554)) (fun _ hk => hk.2) (.int .u64 t555)) (fun _ hk => hk.2) (.int .u64 t556)) (fun _ hk => hk.2) (.int .i64 t557)) (fun _ hk => hk.2) (.int .i64 t558)) (fun _ hk => hk.2) (.int .i64 t559)) (fun _ hk => hk.1.2)⟩, ⟨by (with_reducible repeat (first | refine blk_drewN ?_ _ | refine blk_drew ?_ | refine blk_alloc ?_ _)); refine blk_far ?_ NB550_560.out _; (with_reducible repeat (first | refine blk_drewN ?_ _ | refine blk_drew ?_ | refine blk_alloc ?_ _)); refine blk_far ?_ NB550_560.out _; (with_reducible repeat (first | refine blk_drewN ?_ _ | refine blk_drew ?_ | refine blk_alloc ?_ _)); refine blk_far ?_ NB550_560.out _; (with_reducible repeat (first | refine blk_drewN ?_ _ | refine blk_drew ?_ | refine blk_alloc ?_ _)); refine blk_far ?_ NB550_560.out _; (with_reducible repeat (first | refine blk_drewN ?_ _ | refine blk_drew ?_ | refine blk_alloc ?_ _)); refine blk_far ?_ NB550_560.out _; (with_reducible repeat (first | refine blk_drewN ?_ _ | refine blk_drew ?_ | refine blk_alloc ?_ _)); refine blk_far ?_ NB550_560.out _; (with_reducible repeat (first | refine blk_drewN ?_ _ | refine blk_drew ?_ | refine blk_alloc ?_ _)); exact BK550.out⟩, ⟨by (with_reducible repeat (first | refine blk_drewN ?_ _ | refine blk_drew ?_ | refine blk_alloc ?_ _)); refine blk_put (cs := #[.bool t554, .int .u64 t555, .int .u64 t556, .int .i64 t557, .int .i64 t558, .int .i64 0]) ?_ 5 _ rfl; (with_reducible repeat (first | refine blk_drewN ?_ _ | refine blk_drew ?_ | refine blk_alloc ?_ _)); refine blk_put (cs := #[.bool t554, .int .u64 t555, .int .u64 t556, .int .i64 t557, .int .i64 0, .int .i64 0]) ?_ 4 _ rfl; (with_reducible repeat (first | refine blk_drewN ?_ _ | refine blk_drew ?_ | refine blk_alloc ?_ _)); refine blk_put (cs := #[.bool t554, .int .u64 t555, .int .u64 t556, .int .i64 0, .int .i64 0, .int .i64 0]) ?_ 3 _ rfl; (with_reducible repeat (first | refine blk_drewN ?_ _ | refine blk_drew ?_ | refine blk_alloc ?_ _)); refine blk_put (cs := #[.bool t554, .int .u64 t555, .int .u64 0, .int .i64 0, .int .i64 0, .int .i64 0]) ?_ 2 _ rfl; (with_reducible repeat (first | refine blk_drewN ?_ _ | refine blk_drew ?_ | refine blk_alloc ?_ _)); refine blk_put (cs := #[.bool t554, .int .u64 0, .int .u64 0, .int .i64 0, .int .i64 0, .int .i64 0]) ?_ 1 _ rfl; (with_reducible repeat (first | refine blk_drewN ?_ _ | refine blk_drew ?_ | refine blk_alloc ?_ _)); refine blk_put (cs := #[.bool false, .int .u64 0, .int .u64 0, .int .i64 0, .int .i64 0, .int .i64 0]) ?_ 0 _ rfl; (with_reducible repeat (first | refine blk_drewN ?_ _ | refine blk_drew ?_ | refine blk_alloc ?_ _)); exact BK560.out⟩, ⟨by repeat (first | (with_reducible first | exact HB.out | apply below_alloc | apply pw_below_drewN | apply below_drew1 | refine below_set ?_ GE550.out | refine below_set ?_ GE560.out) | exact HB.out)⟩⟩
            · rw [if_neg c20] at H
              have c20b0 : (t559 == (wrap64 ((wrap64 (Int.tdiv (wrap64 (a2)) 2)) + (ji7)))) = false := beq_eq_false_iff_ne.mpr c20
              have c20b1 : (t559 != (wrap64 ((wrap64 (Int.tdiv (wrap64 (a2)) 2)) + (ji7)))) = true := bne_iff_ne.mpr c20
              have H' := Aside0.mk H
              clear H
              have hnb27 := NB560_550.out
              have hnc27 := NB550_560.out
              have hcz28_0 : w16.cell? ⟨gb560, 0, none⟩ = some (.bool false) := (blk_cell BK560.out 0).trans rfl
              have hcz28_1 : w16.cell? ⟨gb560, 1, none⟩ = some (.int .u64 0) := (blk_cell BK560.out 1).trans rfl
              have hcz28_2 : w16.cell? ⟨gb560, 2, none⟩ = some (.int .u64 0) := (blk_cell BK560.out 2).trans rfl
              have hcz28_3 : w16.cell? ⟨gb560, 3, none⟩ = some (.int .i64 0) := (blk_cell BK560.out 3).trans rfl
              have hcz28_4 : w16.cell? ⟨gb560, 4, none⟩ = some (.int .i64 0) := (blk_cell BK560.out 4).trans rfl
              have hcz28_5 : w16.cell? ⟨gb560, 5, none⟩ = some (.int .i64 0) := (blk_cell BK560.out 5).trans rfl
              have hfz28_0 := blk_frozen BK560.out 0
              have hfz28_1 := blk_frozen BK560.out 1
              have hfz28_2 := blk_frozen BK560.out 2
              have hfz28_3 := blk_frozen BK560.out 3
              have hfz28_4 := blk_frozen BK560.out 4
              have hfz28_5 := blk_frozen BK560.out 5
              go_wp2
              go_meet
              case rel => exact ⟨_, (true), (by first | rfl | (simp; done) | (simp [*]; done)), H', ⟨by have := HK1.out; first | omega | exact Nat.le_refl _⟩, ⟨by (with_reducible repeat (first | apply Kd.R_alloc | apply Kd.R_drewN | apply Kd.R_drew)); exact Kd.R_mono (Kd.R_far (p := ⟨gb560, 5, none⟩) (Kd.R_far (p := ⟨gb560, 4, none⟩) (Kd.R_far (p := ⟨gb560, 3, none⟩) (Kd.R_far (p := ⟨gb560, 2, none⟩) (Kd.R_far (p := ⟨gb560, 1, none⟩) (Kd.R_far (p := ⟨gb560, 0, none⟩) (Kd.R_mono HO553.out (fun k_ hk => (⟨hk, hk.2⟩ : _ ∧ k_ ≠ gb560))) (fun _ hk => hk.2) (.bool t554)) (fun _ hk => hk.2) (.int .u64 t555)) (fun _ hk => hk.2) (.int .u64 t556)) (fun _ hk => hk.2) (.int .i64 t557)) (fun _ hk => hk.2) (.int .i64 t558)) (fun _ hk => hk.2) (.int .i64 t559)) (fun _ hk => hk.1.2)⟩, ⟨by (with_reducible repeat (first | refine blk_drewN ?_ _ | refine blk_drew ?_ | refine blk_alloc ?_ _)); refine blk_far ?_ NB550_560.out _; (with_reducible repeat (first | refine blk_drewN ?_ _ | refine blk_drew ?_ | refine blk_alloc ?_ _)); refine blk_far ?_ NB550_560.out _; (with_reducible repeat (first | refine blk_drewN ?_ _ | refine blk_drew ?_ | refine blk_alloc ?_ _)); refine blk_far ?_ NB550_560.out _; (with_reducible repeat (first | refine blk_drewN ?_ _ | refine blk_drew ?_ | refine blk_alloc ?_ _)); refine blk_far ?_ NB550_560.out _; (with_reducible repeat (first | refine blk_drewN ?_ _ | refine blk_drew ?_ | refine blk_alloc ?_ _)); refine blk_far ?_ NB550_560.out _; (with_reducible repeat (first | refine blk_drewN ?_ _ | refine blk_drew ?_ | refine blk_alloc ?_ _)); refine blk_far ?_ NB550_560.out _; (with_reducible repeat (first | refine blk_drewN ?_ _ | refine blk_drew ?_ | refine blk_alloc ?_ _)); exact BK550.out⟩, ⟨by (with_reducible repeat (first | refine blk_drewN ?_ _ | refine blk_drew ?_ | refine blk_alloc ?_ _)); refine blk_put (cs := #[.bool t554, .int .u64 t555, .int .u64 t556, .int .i64 t557, .int .i64 t558, .int .i64 0]) ?_ 5 _ rfl; (with_reducible repeat (first | refine blk_drewN ?_ _ | refine blk_drew ?_ | refine blk_alloc ?_ _)); refine blk_put (cs := #[.bool t554, .int .u64 t555, .int .u64 t556, .int .i64 t557, .int .i64 0, .int .i64 0]) ?_ 4 _ rfl; (with_reducible repeat (first | refine blk_drewN ?_ _ | refine blk_drew ?_ | refine blk_alloc ?_ _)); refine blk_put (cs := #[.bool t554, .int .u64 t555, .int .u64 t556, .int .i64 0, .int .i64 0, .int .i64 0]) ?_ 3 _ rfl; (with_reducible repeat (first | refine blk_drewN ?_ _ | refine blk_drew ?_ | refine blk_alloc ?_ _)); refine blk_put (cs := #[.bool t554, .int .u64 t555, .int .u64 0, .int .i64 0, .int .i64 0, .int .i64 0]) ?_ 2 _ rfl; (with_reducible repeat (first | refine blk_drewN ?_ _ | refine blk_drew ?_ | refine blk_alloc ?_ _)); refine blk_put (cs := #[.bool t554, .int .u64 0, .int .u64 0, .int .i64 0, .int .i64 0, .int .i64 0]) ?_ 1 _ rfl; (with_reducible repeat (first | refine blk_drewN ?_ _ | refine blk_drew ?_ | refine blk_alloc ?_ _)); refine blk_put (cs := #[.bool false, .int .u64 0, .int .u64 0, .int .i64 0, .int .i64 0, .int .i64 0]) ?_ 0 _ rfl; (with_reducible repeat (first | refine blk_drewN ?_ _ | refine blk_drew ?_ | refine blk_alloc ?_ _)); exact BK560.out⟩, ⟨by repeat (first | (with_reducible first | exact HB.out | apply below_alloc | apply pw_below_drewN | apply below_drew1 | refine below_set ?_ GE550.out | refine below_set ?_ GE560.out) | exact HB.out)⟩⟩
          · rw [if_neg c19] at H
            have c19b0 : ((t551.length : Int) == 1) = false := beq_eq_false_iff_ne.mpr c19
            have c19b1 : ((t551.length : Int) != 1) = true := bne_iff_ne.mpr c19
            (first | rw [c19b0] | (simp only [i64_w, i32_w]; rw [c19b0]) | skip)
            have H' := Aside0.mk H
            clear H
            go_wp2
            go_meet
            case rel => exact ⟨_, (true), (by first | rfl | (simp; done) | (simp [*]; done)), H', ⟨by have := HK1.out; first | omega | exact Nat.le_refl _⟩, ⟨by (with_reducible repeat (first | apply Kd.R_alloc | apply Kd.R_drewN | apply Kd.R_drew)); exact Kd.R_mono (Kd.R_far (p := ⟨gb560, 5, none⟩) (Kd.R_far (p := ⟨gb560, 4, none⟩) (Kd.R_far (p := ⟨gb560, 3, none⟩) (Kd.R_far (p := ⟨gb560, 2, none⟩) (Kd.R_far (p := ⟨gb560, 1, none⟩) (Kd.R_far (p := ⟨gb560, 0, none⟩) (Kd.R_mono HO553.out (fun k_ hk => (⟨hk, hk.2⟩ : _ ∧ k_ ≠ gb560))) (fun _ hk => hk.2) (.bool t554)) (fun _ hk => hk.2) (.int .u64 t555)) (fun _ hk => hk.2) (.int .u64 t556)) (fun _ hk => hk.2) (.int .i64 t557)) (fun _ hk => hk.2) (.int .i64 t558)) (fun _ hk => hk.2) (.int .i64 t559)) (fun _ hk => hk.1.2)⟩, ⟨by (with_reducible repeat (first | refine blk_drewN ?_ _ | refine blk_drew ?_ | refine blk_alloc ?_ _)); refine blk_far ?_ NB550_560.out _; (with_reducible repeat (first | refine blk_drewN ?_ _ | refine blk_drew ?_ | refine blk_alloc ?_ _)); refine blk_far ?_ NB550_560.out _; (with_reducible repeat (first | refine blk_drewN ?_ _ | refine blk_drew ?_ | refine blk_alloc ?_ _)); refine blk_far ?_ NB550_560.out _; (with_reducible repeat (first | refine blk_drewN ?_ _ | refine blk_drew ?_ | refine blk_alloc ?_ _)); refine blk_far ?_ NB550_560.out _; (with_reducible repeat (first | refine blk_drewN ?_ _ | refine blk_drew ?_ | refine blk_alloc ?_ _)); refine blk_far ?_ NB550_560.out _; (with_reducible repeat (first | refine blk_drewN ?_ _ | refine blk_drew ?_ | refine blk_alloc ?_ _)); refine blk_far ?_ NB550_560.out _; (with_reducible repeat (first | refine blk_drewN ?_ _ | refine blk_drew ?_ | refine blk_alloc ?_ _)); exact BK550.out⟩, ⟨by (with_reducible repeat (first | refine blk_drewN ?_ _ | refine blk_drew ?_ | refine blk_alloc ?_ _)); refine blk_put (cs := #[.bool t554, .int .u64 t555, .int .u64 t556, .int .i64 t557, .int .i64 t558, .int .i64 0]) ?_ 5 _ rfl; (with_reducible repeat (first | refine blk_drewN ?_ _ | refine blk_drew ?_ | refine blk_alloc ?_ _)); refine blk_put (cs := #[.bool t554, .int .u64 t555, .int .u64 t556, .int .i64 t557, .int .i64 0, .int .i64 0]) ?_ 4 _ rfl; (with_reducible repeat (first | refine blk_drewN ?_ _ | refine blk_drew ?_ | refine blk_alloc ?_ _)); refine blk_put (cs := #[.bool t554, .int .u64 t555, .int .u64 t556, .int .i64 0, .int .i64 0, .int .i64 0]) ?_ 3 _ rfl; (with_reducible repeat (first | refine blk_drewN ?_ _ | refine blk_drew ?_ | refine blk_alloc ?_ _)); refine blk_put (cs := #[.bool t554, .int .u64 t555, .int .u64 0, .int .i64 0, .int .i64 0, .int .i64 0]) ?_ 2 _ rfl; (with_reducible repeat (first | refine blk_drewN ?_ _ | refine blk_drew ?_ | refine blk_alloc ?_ _)); refine blk_put (cs := #[.bool t554, .int .u64 0, .int .u64 0, .int .i64 0, .int .i64 0, .int .i64 0]) ?_ 1 _ rfl; (with_reducible repeat (first | refine blk_drewN ?_ _ | refine blk_drew ?_ | refine blk_alloc ?_ _)); refine blk_put (cs := #[.bool false, .int .u64 0, .int .u64 0, .int .i64 0, .int .i64 0, .int .i64 0]) ?_ 0 _ rfl; (with_reducible repeat (first | refine blk_drewN ?_ _ | refine blk_drew ?_ | refine blk_alloc ?_ _)); exact BK560.out⟩, ⟨by repeat (first | (with_reducible first | exact HB.out | apply below_alloc | apply pw_below_drewN | apply below_drew1 | refine below_set ?_ GE550.out | refine below_set ?_ GE560.out) | exact HB.out)⟩⟩
        case rest =>
          clear HC9
          try clear c1
          try clear c2
          try clear p2
          try clear c5
          try clear c5b0
          try clear p6
          try clear c8
          try clear c13
          try clear c15
          try clear c17
          try clear c19
          try clear c19b0
          try clear c19b1
          try clear c20
          try clear c20b0
          try clear c20b1
          try clear c22
          try clear c22b0
          try clear c22b1
          try clear c23
          try clear c25
          try clear c27
          try clear hcz10_0
          try clear hcz10_1
          try clear hcz10_2
          try clear hcz13_0
          try clear hcz13_1
          try clear hcz13_2
          try clear hcz18_0
          try clear hcz18_1
          try clear hcz18_2
          try clear hcz18_3
          try clear hcz18_4
          try clear hcz18_5
          try clear hcz24_0
          try clear hcz24_1
          try clear hcz24_2
          try clear hcz24_3
          try clear hcz24_4
          try clear hcz24_5
          try clear hcz26_0
          try clear hcz26_1
          try clear hcz26_2
          try clear hcz26_3
          try clear hcz26_4
          try clear hcz26_5
          try clear hcz28_0
          try clear hcz28_1
          try clear hcz28_2
          try clear hcz28_3
          try clear hcz28_4
          try clear hcz28_5
          try clear hfz10_0
          try clear hfz10_1
          try clear hfz10_2
          try clear hfz13_0
          try clear hfz13_1
          try clear hfz13_2
          try clear hfz18_0
          try clear hfz18_1
          try clear hfz18_2
          try clear hfz18_3
          try clear hfz18_4
          try clear hfz18_5
          try clear hfz24_0
          try clear hfz24_1
          try clear hfz24_2
          try clear hfz24_3
          try clear hfz24_4
          try clear hfz24_5
          try clear hfz26_0
          try clear hfz26_1
          try clear hfz26_2
          try clear hfz26_3
          try clear hfz26_4
          try clear hfz26_5
          try clear hfz28_0
          try clear hfz28_1
          try clear hfz28_2
          try clear hfz28_3
          try clear hfz28_4
          try clear hfz28_5
          try clear p2
          obtain ⟨kq, x55_8, rfl, HA, HJ8, HO_7, BK550, BK560, HB⟩ := hcut
          cases kq with
          | zero => exact absurd HA.out (by simp [ddilaw32_UpstreamFails.j1])
          | succ kj8 =>
            have H := HA.out
            clear HA
            simp only [ddilaw32_UpstreamFails.j1] at H
            by_cases c29 : x55_8 = true
            · subst c29
              have H1 : (some false) = some r := by rw [if_pos rfl] at H; exact H
              clear H
              have H := H1
              clear H1
              exact absurd (Option.some.inj H) (by rw [hT_]; decide)
            · replace c29 := Bool.eq_false_iff.mpr c29
              subst c29
              have H1 : (ddilaw32_UpstreamFails.l0 kj8 a1 t551 ji7 (wrap64 (Int.tdiv (wrap64 (a2)) 2)) (wrap64 (x10_1 + 1)) a0_0 a0_1 a0_2) = some r := by rw [if_neg (show ¬ (false = true) by decide)] at H; exact H
              clear H
              have H := H1
              clear H1
              have H' := Aside0.mk H
              clear H
              go_wp2
              go_roundg kj8
              case measure => have := HK1.out; have := HJ8.out; omega
              case rel => exact ⟨(t551), (ji7), (wrap64 (x10_1 + 1)), (by first | rfl | (simp; done) | (simp only [← hji7] <;> (first | rfl | simp)) | (simp [*]; done)), (by first | rfl | (simp; done) | (simp [*]; done)), H', ⟨by have := HK1.out; have := HJ8.out; omega⟩, ⟨by (with_reducible repeat (first | apply Kd.R_alloc | apply Kd.R_drewN | apply Kd.R_drew)); exact Kd.R_mono HO_7.out (fun _ hk => trivial)⟩, ⟨by (with_reducible repeat (first | refine blk_drewN ?_ _ | refine blk_drew ?_ | refine blk_alloc ?_ _)); exact BK550.out⟩, ⟨by repeat (first | (with_reducible first | exact HB.out | apply below_alloc | apply pw_below_drewN | apply below_drew1 | refine below_set ?_ GE550.out | refine below_set ?_ GE560.out) | exact HB.out)⟩⟩
      · rw [if_neg c5] at H
        have c5b0 : decide (x10_1 ≤ (wrap64 (Int.tmod a1 12))) = false := decide_eq_false c5
        clear c5
        replace H := Option.bind_eq_some_iff.mp H
        obtain ⟨t561, A300, H⟩ := H
        (try dsimp only at H)
        have A30 := Aside0.mk A300
        clear A300
        by_cases c31 : (t561.length : Int) = 1
        · rw [if_pos c31] at H
          have c31b0 : ((t561.length : Int) == 1) = true := beq_iff_eq.mpr c31
          have c31b1 : ((t561.length : Int) != 1) = false := bne_eq_false_iff_eq.mpr c31
          clear c31
          by_cases c32 : 0 < (t561.length : Int)
          · rw [if_pos c32] at H
            have c32b0 : decide (0 < (t561.length : Int)) = true := decide_eq_true c32
            have c32b1 : decide (0 < t561.length) = true := decide_eq_true (by omega)
            clear c32
            by_cases c33 : ((((rd_T35 t561 0).f0.f0) == a0_0 && (((rd_T35 t561 0).f0.f1) == a0_1 && (((rd_T35 t561 0).f0.f2) == a0_2))) && (((rd_T35 t561 0).f1) == 2 && (((rd_T35 t561 0).f2) == 0 && (((rd_T35 t561 0).f3) == 0)))) = true
            · rw [if_pos c33] at H
              have c33b0 : ((((rd_T35 t561 0).f0.f0) == a0_0 && (((rd_T35 t561 0).f0.f1) == a0_1 && (((rd_T35 t561 0).f0.f2) == a0_2))) && (((rd_T35 t561 0).f1) == 2 && (((rd_T35 t561 0).f2) == 0 && (((rd_T35 t561 0).f3) == 0)))) = true := c33
              clear c33
              replace H := Option.bind_eq_some_iff.mp H
              obtain ⟨t565, A340, H⟩ := H
              (try dsimp only at H)
              have A34 := Aside0.mk A340
              clear A340
              by_cases c35 : (t565.length : Int) = 1
              · rw [if_pos c35] at H
                have c35b0 : ((t565.length : Int) == 1) = true := beq_iff_eq.mpr c35
                have c35b1 : ((t565.length : Int) != 1) = false := bne_eq_false_iff_eq.mpr c35
                clear c35
                replace H := Option.bind_eq_some_iff.mp H
                obtain ⟨t568, A360, H⟩ := H
                replace H : (some t568) = some r := H
                have A36 := Aside0.mk A360
                clear A360
                obtain rfl := Option.some.inj H
                have hcz37_0 : wr.cell? ⟨gb550, 0, none⟩ = some (.bool a0_0) := (blk_cell BK550.out 0).trans rfl
                have hcz37_1 : wr.cell? ⟨gb550, 1, none⟩ = some (.int .u64 a0_1) := (blk_cell BK550.out 1).trans rfl
                have hcz37_2 : wr.cell? ⟨gb550, 2, none⟩ = some (.int .u64 a0_2) := (blk_cell BK550.out 2).trans rfl
                have hfz37_0 := blk_frozen BK550.out 0
                have hfz37_1 := blk_frozen BK550.out 1
                have hfz37_2 := blk_frozen BK550.out 2
                obtain ⟨Ao38, co38, eo38⟩ := Kd.R_slice HO_7.out
                subst eo38
                try go_wp2_with (first | ((with_reducible refine gate_callee (f := 11) rfl ?_); refine goesL_ (some 58) rfl rfl Try.func11 (by kernel_rfl) rfl #[.slice Ao38 x7_1.length co38, .agg #[.bool a0_0, .int .u64 a0_1, .int .u64 a0_2], .int .i64 2] rfl (by (try simp only [List.map_toArray, List.map_cons, List.map_nil]); first | done | rfl | (simp only [List.length_drop, List.length_take]; rfl)) ?_; (with_reducible refine (upstream_Good.calls k1 _ _ x7_1 a0_0 a0_1 a0_2 2 t561 _ ?side1 ?side2 A30.out).mono ?_); (case side1 => repeat (first | exact (Kd.R_reads' HO_7.out).2.2 | (with_reducible refine Kd.C_alloc ?_ _) | (with_reducible refine Kd.C_drewN ?_ _) | (with_reducible refine Kd.C_drew ?_))); (case side2 => exact (Kd.R_reads' HO_7.out).2.1); rintro e w39 ⟨v562, rfl, ho0, hb⟩; refine ⟨_, rfl, ?_⟩; have n0_ := Aside0.mk (Kd.R_elder' (by (with_reducible repeat (first | apply Kd.R_alloc | apply Kd.R_drewN | apply Kd.R_drew)); exact HO_7.out) (Kd.R_base ho0) hb); have n1_ := Aside0.mk (Kd.R_lower (Kd.R_new' ho0 (Kd.R_lt (by (with_reducible repeat (first | apply Kd.R_alloc | apply Kd.R_drewN | apply Kd.R_drew)); exact HO_7.out))) (below_size (by repeat (first | (with_reducible first | exact HB.out | apply below_alloc | apply pw_below_drewN | apply below_drew1 | refine below_set ?_ GE550.out) | exact HB.out)))); have n2_ := Aside0.mk (blk_below (g := gb550) (o := .cells #[.bool a0_0, .int .u64 a0_1, .int .u64 a0_2] 25 (0, 0)) (by (with_reducible repeat (first | refine blk_drewN ?_ _ | refine blk_drew ?_ | refine blk_alloc ?_ _)); exact BK550.out) hb); have n3_ := Aside0.mk (below_step (by repeat (first | (with_reducible first | exact HB.out | apply below_alloc | apply pw_below_drewN | apply below_drew1 | refine below_set ?_ GE550.out) | exact HB.out)) hb); clear HO_7; clear BK550; clear HB; have HO_7 := n0_; have HO563 := n1_; have BK550 := n2_; have HB := n3_; clear n0_ n1_ n2_ n3_; (try clear hb); (try clear hb2); (try clear hk); (try clear hi); (try clear ho0)))
                have n0_ := Aside0.mk (Kd.R_drew HO_7.out)
                have n1_ := Aside0.mk (Kd.R_drew HO563.out)
                have n2_ := Aside0.mk (blk_drew BK550.out)
                have n3_ := Aside0.mk (below_drew1 HB.out)
                clear HO_7
                clear HO563
                clear BK550
                clear HB
                have HO_7 := n0_
                have HO563 := n1_
                have BK550 := n2_
                have HB := n3_
                clear n0_ n1_ n2_ n3_
                obtain ⟨Ao41, co41, eo41⟩ := Kd.R_slice HO563.out
                (first | subst eo41 | (injection eo41 with f1_ f2_ f3_; have f4_ := f1_.symm; have f5_ := f3_.symm; clear f1_ f2_ f3_; subst f4_; subst f5_))
                have p564 : 0 ≤ (0 : Int) := (by omega)
                have q564 : 0 < (t561.length : Int) := of_decide_eq_true (by first | (with_reducible assumption) | assumption)
                obtain ⟨ad564, e564, hx564_0, hx564_1, hx564_2, hx564_3, hx564_4, hx564_5⟩ := at_T35 (Kd.R_reads' HO563.out).2.2 0 p564 q564
                cases e564
                have qi564 : (0 < t561.length) = True := eq_true (by omega)
                (try rw [show ((0 : Int)).toNat = 0 from rfl] at hx564_0)
                (try rw [show 0 * 6 = 0 from rfl] at hx564_0)
                (try rw [Addr.add_zero'] at hx564_0)
                (try rw [show ((0 : Int)).toNat = 0 from rfl] at hx564_1)
                (try rw [show 0 * 6 = 0 from rfl] at hx564_1)
                (try rw [Addr.add_zero'] at hx564_1)
                (try rw [show ((0 : Int)).toNat = 0 from rfl] at hx564_2)
                (try rw [show 0 * 6 = 0 from rfl] at hx564_2)
                (try rw [Addr.add_zero'] at hx564_2)
                (try rw [show ((0 : Int)).toNat = 0 from rfl] at hx564_3)
                (try rw [show 0 * 6 = 0 from rfl] at hx564_3)
                (try rw [Addr.add_zero'] at hx564_3)
                (try rw [show ((0 : Int)).toNat = 0 from rfl] at hx564_4)
                (try rw [show 0 * 6 = 0 from rfl] at hx564_4)
                (try rw [Addr.add_zero'] at hx564_4)
                (try rw [show ((0 : Int)).toNat = 0 from rfl] at hx564_5)
                (try rw [show 0 * 6 = 0 from rfl] at hx564_5)
                (try rw [Addr.add_zero'] at hx564_5)
                replace p564 := eq_true p564
                replace q564 := eq_true q564
                refine start_ (n := 21) (S := fun w' => w'.cell? ⟨gb550, 0, none⟩ = some (.bool a0_0) ∧ w'.cell? ⟨gb550, 1, none⟩ = some (.int .u64 a0_1) ∧ w'.cell? ⟨gb550, 2, none⟩ = some (.int .u64 a0_2) ∧ w'.cell? ad564 = some (.bool ((rd_T35 t561 0).f0.f0)) ∧ w'.cell? ⟨ad564.block, ad564.off + 1, none⟩ = some (.int .u64 ((rd_T35 t561 0).f0.f1)) ∧ w'.cell? ⟨ad564.block, ad564.off + 2, none⟩ = some (.int .u64 ((rd_T35 t561 0).f0.f2)) ∧ w'.cell? ⟨ad564.block, ad564.off + 3, none⟩ = some (.int .i64 ((rd_T35 t561 0).f1)) ∧ w'.cell? ⟨ad564.block, ad564.off + 4, none⟩ = some (.int .i64 ((rd_T35 t561 0).f2)) ∧ w'.cell? ⟨ad564.block, ad564.off + 5, none⟩ = some (.int .i64 ((rd_T35 t561 0).f3))) (ds := []) #[false, false, false, false, false, false, false, false, false, false, false, false, false, false, false, false, false, false, false, false, false] (by kernel_rfl) rfl rfl ⟨(blk_cell BK550.out 0).trans rfl, (blk_cell BK550.out 1).trans rfl, (blk_cell BK550.out 2).trans rfl, hx564_0, hx564_1, hx564_2, hx564_3, hx564_4, hx564_5⟩ (fun hHeld => ?_); refine with_tabW ddilaw32_UpstreamFails.tab13 ddilaw32_UpstreamFails.bits13 (fun HT_ HW_ => ?_)
                generalize w39.drew = w40 at HO_7 HO563 BK550 HB hx564_0 hx564_1 hx564_2 hx564_3 hx564_4 hx564_5 hHeld ⊢
                refine pure_ (i := 0) (N := some 59) (v := ?_) (a' := ?_) #[true, false, false, false, false, false, false, false, false, false, false, false, false, false, false, false, false, false, false, false, false] rfl rfl (any_of HT_.out (by kernel_rfl)) (fun _ _ _ h => h) (Or.inl ⟨by rfl, ?_⟩) ?_ ?_
                rotate_left
                · intro w'
                  go_simp
                  with_reducible rfl
                rotate_left
                · simp only [Act.put, List.setIfInBounds_toArray, List.set_cons_zero, List.set_cons_succ, i64_w, i32_w]
                  rfl
                refine pure_ (i := 1) (N := some 60) (v := ?_) (a' := ?_) #[true, true, false, false, false, false, false, false, false, false, false, false, false, false, false, false, false, false, false, false, false] rfl rfl (any_of HT_.out (by kernel_rfl)) (fun _ _ _ h => h) (Or.inl ⟨by rfl, ?_⟩) ?_ ?_
                rotate_left
                · intro w'
                  go_simp
                  with_reducible rfl
                rotate_left
                · simp only [Act.put, List.setIfInBounds_toArray, List.set_cons_zero, List.set_cons_succ, i64_w, i32_w]
                  rfl
                refine pure_ (i := 2) (N := some 61) (v := ?_) (a' := ?_) #[true, true, true, false, false, false, false, false, false, false, false, false, false, false, false, false, false, false, false, false, false] rfl rfl (any_of HT_.out (by kernel_rfl)) (fun _ _ _ h => h) (Or.inl ⟨by rfl, ?_⟩) ?_ ?_
                rotate_left
                · intro w'
                  go_simp
                  with_reducible rfl
                rotate_left
                · simp only [Act.put, List.setIfInBounds_toArray, List.set_cons_zero, List.set_cons_succ, i64_w, i32_w]
                  rfl
                refine pure_ (i := 3) (N := some 62) (v := ?_) (a' := ?_) #[true, true, true, true, false, false, false, false, false, false, false, false, false, false, false, false, false, false, false, false, false] rfl rfl (any_of HT_.out (by kernel_rfl)) (fun _ _ _ h => h) (Or.inl ⟨by rfl, ?_⟩) ?_ ?_
                rotate_left
                · intro w'
                  go_simp
                  with_reducible rfl
                rotate_left
                · simp only [Act.put, List.setIfInBounds_toArray, List.set_cons_zero, List.set_cons_succ, i64_w, i32_w]
                  rfl
                refine pure_ (i := 4) (N := some 63) (v := ?_) (a' := ?_) #[true, true, true, true, true, false, false, false, false, false, false, false, false, false, false, false, false, false, false, false, false] rfl rfl (any_of HT_.out (by kernel_rfl)) (fun _ _ _ h => h) (Or.inl ⟨by rfl, ?_⟩) ?_ ?_
                rotate_left
                · intro w'
                  go_simp
                  with_reducible rfl
                rotate_left
                · simp only [Act.put, List.setIfInBounds_toArray, List.set_cons_zero, List.set_cons_succ, i64_w, i32_w]
                  rfl
                refine pure_ (i := 5) (N := some 64) (v := ?_) (a' := ?_) #[true, true, true, true, true, true, false, false, false, false, false, false, false, false, false, false, false, false, false, false, false] rfl rfl (any_of HT_.out (by kernel_rfl)) (fun _ _ _ h => h) (Or.inl ⟨by rfl, ?_⟩) ?_ ?_
                rotate_left
                · intro w'
                  go_simp
                  with_reducible rfl
                rotate_left
                · simp only [Act.put, List.setIfInBounds_toArray, List.set_cons_zero, List.set_cons_succ, i64_w, i32_w]
                  rfl
                refine take_ (i := 6) (N := some 65) (v := ?_) (a' := ?_) #[true, true, true, true, true, true, true, false, false, false, false, false, false, false, false, false, false, false, false, false, false] rfl rfl (take_ofW HT_.out HW_.out (by kernel_rfl)) (fun _ _ _ h => h) (Or.inl ⟨by rfl, ?_⟩) hHeld ?_ ?_
                rotate_left
                · rintro w' ⟨s0, s1, s2, s3, s4, s5, s6, s7, s8⟩
                  go_simp
                  with_reducible rfl
                rotate_left
                · simp only [Act.put, List.setIfInBounds_toArray, List.set_cons_zero, List.set_cons_succ, i64_w, i32_w]
                  rfl
                refine take_ (i := 7) (N := some 66) (v := ?_) (a' := ?_) #[true, true, true, true, true, true, true, true, false, false, false, false, false, false, false, false, false, false, false, false, false] rfl rfl (take_ofW HT_.out HW_.out (by kernel_rfl)) (fun _ _ _ h => h) (Or.inl ⟨by rfl, ?_⟩) hHeld ?_ ?_
                rotate_left
                · rintro w' ⟨s0, s1, s2, s3, s4, s5, s6, s7, s8⟩
                  go_simp
                  with_reducible rfl
                rotate_left
                · simp only [Act.put, List.setIfInBounds_toArray, List.set_cons_zero, List.set_cons_succ, i64_w, i32_w]
                  rfl
                refine pure_ (i := 8) (N := some 67) (v := ?_) (a' := ?_) #[true, true, true, true, true, true, true, true, true, false, false, false, false, false, false, false, false, false, false, false, false] rfl rfl (any_of HT_.out (by kernel_rfl)) (fun _ _ _ h => h) (Or.inl ⟨by rfl, ?_⟩) ?_ ?_
                rotate_left
                · intro w'
                  go_simp
                  with_reducible rfl
                rotate_left
                · simp only [Act.put, List.setIfInBounds_toArray, List.set_cons_zero, List.set_cons_succ, i64_w, i32_w]
                  rfl
                refine pure_ (i := 9) (N := some 68) (v := ?_) (a' := ?_) #[true, true, true, true, true, true, true, true, true, true, false, false, false, false, false, false, false, false, false, false, false] rfl rfl (any_of HT_.out (by kernel_rfl)) (fun _ _ _ h => h) (Or.inl ⟨by rfl, ?_⟩) ?_ ?_
                rotate_left
                · intro w'
                  go_simp
                  with_reducible rfl
                rotate_left
                · simp only [Act.put, List.setIfInBounds_toArray, List.set_cons_zero, List.set_cons_succ, i64_w, i32_w]
                  rfl
                refine pure_ (i := 10) (N := some 69) (v := ?_) (a' := ?_) #[true, true, true, true, true, true, true, true, true, true, true, false, false, false, false, false, false, false, false, false, false] rfl rfl (any_of HT_.out (by kernel_rfl)) (fun _ _ _ h => h) (Or.inl ⟨by rfl, ?_⟩) ?_ ?_
                rotate_left
                · intro w'
                  go_simp
                  with_reducible rfl
                rotate_left
                · simp only [Act.put, List.setIfInBounds_toArray, List.set_cons_zero, List.set_cons_succ, i64_w, i32_w]
                  rfl
                refine pure_ (i := 11) (N := some 70) (v := ?_) (a' := ?_) #[true, true, true, true, true, true, true, true, true, true, true, true, false, false, false, false, false, false, false, false, false] rfl rfl (any_of HT_.out (by kernel_rfl)) (fun _ _ _ h => h) (Or.inl ⟨by rfl, ?_⟩) ?_ ?_
                rotate_left
                · intro w'
                  go_simp
                  with_reducible rfl
                rotate_left
                · simp only [Act.put, List.setIfInBounds_toArray, List.set_cons_zero, List.set_cons_succ, i64_w, i32_w]
                  rfl
                refine pure_ (i := 12) (N := some 71) (v := ?_) (a' := ?_) #[true, true, true, true, true, true, true, true, true, true, true, true, true, false, false, false, false, false, false, false, false] rfl rfl (any_of HT_.out (by kernel_rfl)) (fun _ _ _ h => h) (Or.inl ⟨by rfl, ?_⟩) ?_ ?_
                rotate_left
                · intro w'
                  go_simp
                  with_reducible rfl
                rotate_left
                · simp only [Act.put, List.setIfInBounds_toArray, List.set_cons_zero, List.set_cons_succ, i64_w, i32_w]
                  rfl
                refine one_ (i := 13) (N := some 72) #[true, true, true, true, true, true, true, true, true, true, true, true, true, true, false, false, false, false, false, false, false] rfl rfl (one_of HT_.out (by kernel_rfl)) (by decide) (fun K hK => ?_)
                refine goes_ Try.func24 (by kernel_rfl) rfl #[.slice (some ad564) t561.length co41] (by rfl) rfl rfl (by (try simp only [List.map_toArray, List.map_cons, List.map_nil]); first | done | rfl | (simp only [List.length_drop, List.length_take]; rfl)) ?_
                with_reducible refine (ddilaw32_peers.calls k1 _ _ t561 t565 _ ?side1 ?side2 A34.out).mono ?_
                (case side1 => repeat (first | exact (Kd.R_reads' HO563.out).2.2 | (with_reducible refine Kd.C_alloc ?_ _) | (with_reducible refine Kd.C_drewN ?_ _) | (with_reducible refine Kd.C_drew ?_)))
                (case side2 => exact (Kd.R_reads' HO563.out).2.1)
                rintro e w42 ⟨v566, rfl, ho0, hb⟩
                have HS3_ := (hb.cell (World.block_lt_of_cell? _ _ (hHeld.2.2.2.1))).trans (hHeld.2.2.2.1)
                have HS4_ := (hb.cell (World.block_lt_of_cell? _ _ (hHeld.2.2.2.2.1))).trans (hHeld.2.2.2.2.1)
                have HS5_ := (hb.cell (World.block_lt_of_cell? _ _ (hHeld.2.2.2.2.2.1))).trans (hHeld.2.2.2.2.2.1)
                have HS6_ := (hb.cell (World.block_lt_of_cell? _ _ (hHeld.2.2.2.2.2.2.1))).trans (hHeld.2.2.2.2.2.2.1)
                have HS7_ := (hb.cell (World.block_lt_of_cell? _ _ (hHeld.2.2.2.2.2.2.2.1))).trans (hHeld.2.2.2.2.2.2.2.1)
                have HS8_ := (hb.cell (World.block_lt_of_cell? _ _ (hHeld.2.2.2.2.2.2.2.2))).trans (hHeld.2.2.2.2.2.2.2.2)
                refine ⟨_, rfl, ?_⟩
                have n0_ := Aside0.mk (Kd.R_below (by (with_reducible repeat (first | apply Kd.R_alloc | apply Kd.R_drewN | apply Kd.R_drew)); exact HO_7.out) hb)
                have n1_ := Aside0.mk (Kd.R_below (by (with_reducible repeat (first | apply Kd.R_alloc | apply Kd.R_drewN | apply Kd.R_drew)); exact HO563.out) hb)
                have n2_ := Aside0.mk (Kd.R_lower ho0 (below_size (by repeat (first | (with_reducible first | exact HB.out | apply below_alloc | apply pw_below_drewN | apply below_drew1 | refine below_set ?_ GE550.out) | exact HB.out))))
                have n3_ := Aside0.mk (blk_below (g := gb550) (o := .cells #[.bool a0_0, .int .u64 a0_1, .int .u64 a0_2] 25 (0, 0)) (by (with_reducible repeat (first | refine blk_drewN ?_ _ | refine blk_drew ?_ | refine blk_alloc ?_ _)); exact BK550.out) hb)
                have n4_ := Aside0.mk (below_step (by repeat (first | (with_reducible first | exact HB.out | apply below_alloc | apply pw_below_drewN | apply below_drew1 | refine below_set ?_ GE550.out) | exact HB.out)) hb)
                clear HO_7
                clear HO563
                clear BK550
                clear HB
                have HO_7 := n0_
                have HO563 := n1_
                have HO567 := n2_
                have BK550 := n3_
                have HB := n4_
                clear n0_ n1_ n2_ n3_ n4_
                (try clear hb)
                (try clear hb2)
                (try clear hk)
                (try clear hi)
                (try clear ho0)
                obtain ⟨Ao43, co43, eo43⟩ := Kd.R_slice HO567.out
                (first | subst eo43 | (injection eo43 with f1_ f2_ f3_; have f4_ := f1_.symm; have f5_ := f3_.symm; clear f1_ f2_ f3_; subst f4_; subst f5_))
                refine hK.out _ _ ⟨(blk_cell BK550.out 0).trans rfl, (blk_cell BK550.out 1).trans rfl, (blk_cell BK550.out 2).trans rfl, HS3_, HS4_, HS5_, HS6_, HS7_, HS8_⟩ (fun hHeld => ?_)
                clear hK K
                refine norm_ (a' := ?_) ?_ ?_
                rotate_left
                · show Act.put _ (some 72) _ = _
                  simp only [Act.put, List.setIfInBounds_toArray, List.set_cons_zero, List.set_cons_succ, i64_w, i32_w]
                  rfl
                refine pure_ (i := 14) (N := some 73) (v := ?_) (a' := ?_) #[true, true, true, true, true, true, true, true, true, true, true, true, true, true, true, false, false, false, false, false, false] rfl rfl (any_of HT_.out (by kernel_rfl)) (fun _ _ _ h => h) (Or.inl ⟨by rfl, ?_⟩) ?_ ?_
                rotate_left
                · intro w'
                  go_simp
                  with_reducible rfl
                rotate_left
                · simp only [Act.put, List.setIfInBounds_toArray, List.set_cons_zero, List.set_cons_succ, i64_w, i32_w]
                  rfl
                refine pure_ (i := 15) (N := some 74) (v := ?_) (a' := ?_) #[true, true, true, true, true, true, true, true, true, true, true, true, true, true, true, true, false, false, false, false, false] rfl rfl (any_of HT_.out (by kernel_rfl)) (fun _ _ _ h => h) (Or.inl ⟨by rfl, ?_⟩) ?_ ?_
                rotate_left
                · intro w'
                  go_simp
                  with_reducible rfl
                rotate_left
                · simp only [Act.put, List.setIfInBounds_toArray, List.set_cons_zero, List.set_cons_succ, i64_w, i32_w]
                  rfl
                refine pure_ (i := 16) (N := some 75) (v := ?_) (a' := ?_) #[true, true, true, true, true, true, true, true, true, true, true, true, true, true, true, true, true, false, false, false, false] rfl rfl (any_of HT_.out (by kernel_rfl)) (fun _ _ _ h => h) (Or.inl ⟨by rfl, ?_⟩) ?_ ?_
                rotate_left
                · intro w'
                  go_simp
                  with_reducible rfl
                rotate_left
                · simp only [Act.put, List.setIfInBounds_toArray, List.set_cons_zero, List.set_cons_succ, i64_w, i32_w]
                  rfl
                refine pure_ (i := 17) (N := some 76) (v := ?_) (a' := ?_) #[true, true, true, true, true, true, true, true, true, true, true, true, true, true, true, true, true, true, false, false, false] rfl rfl (any_of HT_.out (by kernel_rfl)) (fun _ _ _ h => h) (Or.inl ⟨by rfl, ?_⟩) ?_ ?_
                rotate_left
                · intro w'
                  go_simp
                  with_reducible rfl
                rotate_left
                · simp only [Act.put, List.setIfInBounds_toArray, List.set_cons_zero, List.set_cons_succ, i64_w, i32_w]
                  rfl
                refine one_ (i := 18) (N := some 77) #[true, true, true, true, true, true, true, true, true, true, true, true, true, true, true, true, true, true, true, false, false] rfl rfl (one_of HT_.out (by kernel_rfl)) (by decide) (fun K hK => ?_)
                refine goes_ Try.func17 (by kernel_rfl) rfl #[] (by rfl) rfl rfl (by (try simp only [List.map_toArray, List.map_cons, List.map_nil]); first | done | rfl | (simp only [List.length_drop, List.length_take]; rfl)) ?_
                with_reducible refine (ddilaw32_awake.calls k1  t568 _ A36.out (by first | assumption | rfl | simp_all)).mono ?_
                rintro e w44 ⟨rfl, hb⟩
                have HS3_ := (hb.cell (World.block_lt_of_cell? _ _ (hHeld.2.2.2.1))).trans (hHeld.2.2.2.1)
                have HS4_ := (hb.cell (World.block_lt_of_cell? _ _ (hHeld.2.2.2.2.1))).trans (hHeld.2.2.2.2.1)
                have HS5_ := (hb.cell (World.block_lt_of_cell? _ _ (hHeld.2.2.2.2.2.1))).trans (hHeld.2.2.2.2.2.1)
                have HS6_ := (hb.cell (World.block_lt_of_cell? _ _ (hHeld.2.2.2.2.2.2.1))).trans (hHeld.2.2.2.2.2.2.1)
                have HS7_ := (hb.cell (World.block_lt_of_cell? _ _ (hHeld.2.2.2.2.2.2.2.1))).trans (hHeld.2.2.2.2.2.2.2.1)
                have HS8_ := (hb.cell (World.block_lt_of_cell? _ _ (hHeld.2.2.2.2.2.2.2.2))).trans (hHeld.2.2.2.2.2.2.2.2)
                refine ⟨_, rfl, ?_⟩
                have n0_ := Aside0.mk (Kd.R_below (by (with_reducible repeat (first | apply Kd.R_alloc | apply Kd.R_drewN | apply Kd.R_drew)); exact HO_7.out) hb)
                have n1_ := Aside0.mk (Kd.R_below (by (with_reducible repeat (first | apply Kd.R_alloc | apply Kd.R_drewN | apply Kd.R_drew)); exact HO563.out) hb)
                have n2_ := Aside0.mk (Kd.R_below (by (with_reducible repeat (first | apply Kd.R_alloc | apply Kd.R_drewN | apply Kd.R_drew)); exact HO567.out) hb)
                have n3_ := Aside0.mk (blk_below (g := gb550) (o := .cells #[.bool a0_0, .int .u64 a0_1, .int .u64 a0_2] 25 (0, 0)) (by (with_reducible repeat (first | refine blk_drewN ?_ _ | refine blk_drew ?_ | refine blk_alloc ?_ _)); exact BK550.out) hb)
                have n4_ := Aside0.mk (below_step (by repeat (first | (with_reducible first | exact HB.out | apply below_alloc | apply pw_below_drewN | apply below_drew1 | refine below_set ?_ GE550.out) | exact HB.out)) hb)
                clear HO_7
                clear HO563
                clear HO567
                clear BK550
                clear HB
                have HO_7 := n0_
                have HO563 := n1_
                have HO567 := n2_
                have BK550 := n3_
                have HB := n4_
                clear n0_ n1_ n2_ n3_ n4_
                (try clear hb)
                (try clear hb2)
                (try clear hk)
                (try clear hi)
                refine hK.out _ _ ⟨(blk_cell BK550.out 0).trans rfl, (blk_cell BK550.out 1).trans rfl, (blk_cell BK550.out 2).trans rfl, HS3_, HS4_, HS5_, HS6_, HS7_, HS8_⟩ (fun hHeld => ?_)
                clear hK K
                refine norm_ (a' := ?_) ?_ ?_
                rotate_left
                · show Act.put _ (some 77) _ = _
                  simp only [Act.put, List.setIfInBounds_toArray, List.set_cons_zero, List.set_cons_succ, i64_w, i32_w]
                  rfl
                refine pure_ (i := 19) (N := some 78) (v := ?_) (a' := ?_) #[true, true, true, true, true, true, true, true, true, true, true, true, true, true, true, true, true, true, true, true, false] rfl rfl (any_of HT_.out (by kernel_rfl)) (fun _ _ _ h => h) (Or.inl ⟨by rfl, ?_⟩) ?_ ?_
                rotate_left
                · intro w'
                  go_simp
                  with_reducible rfl
                rotate_left
                · simp only [Act.put, List.setIfInBounds_toArray, List.set_cons_zero, List.set_cons_succ, i64_w, i32_w]
                  rfl
                refine pure_ (i := 20) (N := some 6) (v := ?_) (a' := ?_) #[true, true, true, true, true, true, true, true, true, true, true, true, true, true, true, true, true, true, true, true, true] rfl rfl (any_of HT_.out (by kernel_rfl)) (fun _ _ _ h => h) (Or.inl ⟨by rfl, ?_⟩) ?_ ?_
                rotate_left
                · intro w'
                  go_simp
                  with_reducible rfl
                rotate_left
                · simp only [Act.put, List.setIfInBounds_toArray, List.set_cons_zero, List.set_cons_succ, i64_w, i32_w]
                  rfl
                refine done_ (done_of HT_.out (by kernel_rfl)) ?_
                try go_wp2
                go_ret
                exact ⟨by first | rfl | (simp [errW_none, errW_some] <;> rfl) | (simp [*, errW_none, errW_some] <;> rfl), by repeat (first | (with_reducible first | exact HB.out | apply below_alloc | apply pw_below_drewN | apply below_drew1 | refine below_set ?_ GE550.out) | exact HB.out)⟩
              · rw [if_neg c35] at H
                have c35b0 : ((t565.length : Int) == 1) = false := beq_eq_false_iff_ne.mpr c35
                have c35b1 : ((t565.length : Int) != 1) = true := bne_iff_ne.mpr c35
                exact absurd (Option.some.inj H) (by rw [hT_]; decide)
            · rw [if_neg c33] at H
              have c33b0 : ((((rd_T35 t561 0).f0.f0) == a0_0 && (((rd_T35 t561 0).f0.f1) == a0_1 && (((rd_T35 t561 0).f0.f2) == a0_2))) && (((rd_T35 t561 0).f1) == 2 && (((rd_T35 t561 0).f2) == 0 && (((rd_T35 t561 0).f3) == 0)))) = false := by simpa using c33
              clear c33
              exact absurd (Option.some.inj H) (by rw [hT_]; decide)
          · rw [if_neg c32] at H
            exact absurd H (by simp)
        · rw [if_neg c31] at H
          have c31b0 : ((t561.length : Int) == 1) = false := beq_eq_false_iff_ne.mpr c31
          have c31b1 : ((t561.length : Int) != 1) = true := bne_iff_ne.mpr c31
          exact absurd (Option.some.inj H) (by rw [hT_]; decide)

theorem ddilaw32_UpstreamFails.walk (P : ddilaw32_UpstreamFails.Pure) (a0_0 : Bool) (a0_1 : Int) (a0_2 : Int) (a1 : Int) (a2 : Int) (w : World) (w0 : okS25 (⟨a0_0, a0_1, a0_2⟩ : S25)) (w1 : (Lit.int .u8 a1).wf = true) (w2 : (Lit.int .u32 a2).wf = true) :
    Calls Try.prog 8 #[.agg #[.bool a0_0, .int .u64 a0_1, .int .u64 a0_2], .int .u8 a1, .int .u32 a2] w fun e w' => e = .returned (.bool true) ∧ Below w.heap.size w w' := by
  obtain ⟨k, h⟩ := P a0_0 a0_1 a0_2 a1 a2 w0 w1 w2
  refine (ddilaw32_UpstreamFails.calls k a0_0 a0_1 a0_2 a1 a2 true w  h rfl).mono ?_
  rintro e w' ⟨rfl, hd⟩
  exact ⟨rfl, hd⟩

end Go.Proofs.Ytgkpinecggoilaa.QA
