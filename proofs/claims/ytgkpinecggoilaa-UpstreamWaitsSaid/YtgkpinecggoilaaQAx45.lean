-- Written by this session's own program (wip/xprint) out of the translation; Lean checks it.
import Derived.Test.YtgkpinecggoilaaQAd3
import Derived.Test.YtgkpinecggoilaaQAx0
import Derived.Test.YtgkpinecggoilaaQAx37
import Derived.Test.YtgkpinecggoilaaQAx39
import Derived.Test.YtgkpinecggoilaaQAx44
namespace Go.Proofs.Ytgkpinecggoilaa.QA
open Go.RowKit Go.Proofs.YtgkpinecggoilaaW.PrintWords Go.Proofs.YtgkpinecggoilaaW.PrintLast Go.Proofs.YtgkpinecggoilaaW.PrintMore
attribute [local go_sem] max2_int min2_int max_two min_two max_three min_three max_four min_four   -- for this text's walks alone
attribute [local go_sem high] Go.Proofs.Ytgkpinecggoilaa.XW.cell_setCell_lit
set_option linter.unusedVariables false
set_option linter.unusedSimpArgs false

/-! ### ddilaw32_UpstreamWaits: function 5 -/
set_option maxHeartbeats 8000000 in
set_option maxRecDepth 100000 in
theorem ddilaw32_UpstreamWaits.calls (k : Nat) (a0_0 : Bool) (a0_1 : Int) (a0_2 : Int) (a0_3 : Int) (a0_4 : Int) (a0_5 : Int) (r : Bool) (w : World) (h : ddilaw32_UpstreamWaits.f k a0_0 a0_1 a0_2 a0_3 a0_4 a0_5 = some r) (hT_ : r = true) :
    Calls Try.prog 5 #[.agg #[.bool a0_0, .int .u64 a0_1, .int .u64 a0_2, .int .i64 a0_3, .int .i64 a0_4, .int .i64 a0_5]] w fun e w' => e = .returned (.bool r) ∧ Below w.heap.size w w' := by
  have hu34 := Try.underlying34
  have HB := Aside0.mk (Below.refl w.heap.size w)
  have H : ((upstream_Timeout.f a0_0 a0_1 a0_2 a0_3 a0_4 a0_5).bind fun t459 => ((ddiref32_Timeout.f k a0_0 a0_1 a0_2 a0_3 a0_4 a0_5).bind fun t460 => (if t459 = t460 then (if t459 ≥ 2 then (if t459 ≤ 60 then ((ddilaw32_awake.f k).bind fun t461 => (some t461)) else (some false)) else (some false)) else (some false)))) = some r := h
  clear h
  replace H := Option.bind_eq_some_iff.mp H
  obtain ⟨t459, A20, H⟩ := H
  (try dsimp only at H)
  have A2 := Aside0.mk A20
  clear A20
  replace H := Option.bind_eq_some_iff.mp H
  obtain ⟨t460, A30, H⟩ := H
  (try dsimp only at H)
  have A3 := Aside0.mk A30
  clear A30
  by_cases c4 : t459 = t460
  · rw [if_pos c4] at H
    have c4b0 : (t459 == t460) = true := beq_iff_eq.mpr c4
    have c4b1 : (t459 != t460) = false := bne_eq_false_iff_eq.mpr c4
    clear c4
    by_cases c5 : t459 ≥ 2
    · rw [if_pos c5] at H
      have c5b0 : decide (2 ≤ t459) = true := decide_eq_true c5
      clear c5
      by_cases c6 : t459 ≤ 60
      · rw [if_pos c6] at H
        have c6b0 : decide (t459 ≤ 60) = true := decide_eq_true c6
        clear c6
        replace H := Option.bind_eq_some_iff.mp H
        obtain ⟨t461, A70, H⟩ := H
        replace H : (some t461) = some r := H
        have A7 := Aside0.mk A70
        clear A70
        obtain rfl := Option.some.inj H
        go_enter Try.func5, Try.ntmps5
        go_wp2_with (first | ((with_reducible refine gate_dst (N := 1) rfl ?_); refine box_event ?hg (N := 1) ?hd (cs := #[.bool a0_0, .int .u64 a0_1, .int .u64 a0_2, .int .i64 a0_3, .int .i64 a0_4, .int .i64 a0_5]) (t := 34) ?hr ?_; (case hd => rfl); (case hg => rfl); (case hr => first | (go_simp; done) | (go_simp; rfl)); intro gb458 hg w8 hbox hb; have n0_ := Aside0.mk (below_step (by repeat (first | (with_reducible first | exact HB.out | apply below_alloc | apply pw_below_drewN | apply below_drew1) | exact HB.out)) hb); have n1_ := Aside0.mk (hbox); have n2_ := Aside0.mk ((by rw [hg]; exact (below_size (by repeat (first | (with_reducible first | exact HB.out | apply below_alloc | apply pw_below_drewN | apply below_drew1) | exact HB.out))) : w.heap.size ≤ gb458)); have n3_ := Aside0.mk ((by rw [hg]; exact (below_size (by repeat (first | (with_reducible first | exact HB.out | apply below_alloc | apply pw_below_drewN | apply below_drew1) | exact HB.out))) : w.heap.size ≤ gb458)); clear HB; have HB := n0_; have BK458 := n1_; have GW458 := n2_; have GE458 := n3_; clear n0_ n1_ n2_ n3_; clear hb hbox hg; have hcz9_0 : w8.cell? ⟨gb458, 0, none⟩ = some (.bool a0_0) := (blk_cell BK458.out 0).trans rfl; have hcz9_1 : w8.cell? ⟨gb458, 1, none⟩ = some (.int .u64 a0_1) := (blk_cell BK458.out 1).trans rfl; have hcz9_2 : w8.cell? ⟨gb458, 2, none⟩ = some (.int .u64 a0_2) := (blk_cell BK458.out 2).trans rfl; have hcz9_3 : w8.cell? ⟨gb458, 3, none⟩ = some (.int .i64 a0_3) := (blk_cell BK458.out 3).trans rfl; have hcz9_4 : w8.cell? ⟨gb458, 4, none⟩ = some (.int .i64 a0_4) := (blk_cell BK458.out 4).trans rfl; have hcz9_5 : w8.cell? ⟨gb458, 5, none⟩ = some (.int .i64 a0_5) := (blk_cell BK458.out 5).trans rfl; have hfz9_0 := blk_frozen BK458.out 0; have hfz9_1 := blk_frozen BK458.out 1; have hfz9_2 := blk_frozen BK458.out 2; have hfz9_3 := blk_frozen BK458.out 3; have hfz9_4 := blk_frozen BK458.out 4; have hfz9_5 := blk_frozen BK458.out 5) | ((with_reducible refine gate_callee (f := 20) rfl ?_); refine goesL_ (some 5) rfl rfl Try.func20 (by kernel_rfl) rfl #[.agg #[.bool a0_0, .int .u64 a0_1, .int .u64 a0_2, .int .i64 a0_3, .int .i64 a0_4, .int .i64 a0_5]] rfl (by (try simp only [List.map_toArray, List.map_cons, List.map_nil]); first | done | rfl | (simp only [List.length_drop, List.length_take]; rfl)) ?_; (with_reducible refine (upstream_Timeout.calls a0_0 a0_1 a0_2 a0_3 a0_4 a0_5 t459 _ A2.out).mono ?_); rintro e w10 ⟨rfl, hb⟩; refine ⟨_, rfl, ?_⟩; have n0_ := Aside0.mk (blk_below (g := gb458) (o := .cells #[.bool a0_0, .int .u64 a0_1, .int .u64 a0_2, .int .i64 a0_3, .int .i64 a0_4, .int .i64 a0_5] 34 (0, 0)) (by (with_reducible repeat (first | refine blk_drewN ?_ _ | refine blk_drew ?_ | refine blk_alloc ?_ _)); exact BK458.out) hb); have n1_ := Aside0.mk (below_step (by repeat (first | (with_reducible first | exact HB.out | apply below_alloc | apply pw_below_drewN | apply below_drew1 | refine below_set ?_ GE458.out) | exact HB.out)) hb); clear BK458; clear HB; have BK458 := n0_; have HB := n1_; clear n0_ n1_; (try clear hb); (try clear hb2); (try clear hk); (try clear hi); have hcz11_0 : w10.cell? ⟨gb458, 0, none⟩ = some (.bool a0_0) := (blk_cell BK458.out 0).trans rfl; have hcz11_1 : w10.cell? ⟨gb458, 1, none⟩ = some (.int .u64 a0_1) := (blk_cell BK458.out 1).trans rfl; have hcz11_2 : w10.cell? ⟨gb458, 2, none⟩ = some (.int .u64 a0_2) := (blk_cell BK458.out 2).trans rfl; have hcz11_3 : w10.cell? ⟨gb458, 3, none⟩ = some (.int .i64 a0_3) := (blk_cell BK458.out 3).trans rfl; have hcz11_4 : w10.cell? ⟨gb458, 4, none⟩ = some (.int .i64 a0_4) := (blk_cell BK458.out 4).trans rfl; have hcz11_5 : w10.cell? ⟨gb458, 5, none⟩ = some (.int .i64 a0_5) := (blk_cell BK458.out 5).trans rfl; have hfz11_0 := blk_frozen BK458.out 0; have hfz11_1 := blk_frozen BK458.out 1; have hfz11_2 := blk_frozen BK458.out 2; have hfz11_3 := blk_frozen BK458.out 3; have hfz11_4 := blk_frozen BK458.out 4; have hfz11_5 := blk_frozen BK458.out 5) | ((with_reducible refine gate_callee (f := 21) rfl ?_); refine goesL_ (some 8) rfl rfl Try.func21 (by kernel_rfl) rfl #[.agg #[.bool a0_0, .int .u64 a0_1, .int .u64 a0_2, .int .i64 a0_3, .int .i64 a0_4, .int .i64 a0_5]] rfl (by (try simp only [List.map_toArray, List.map_cons, List.map_nil]); first | done | rfl | (simp only [List.length_drop, List.length_take]; rfl)) ?_; (with_reducible refine (ddiref32_Timeout.calls k a0_0 a0_1 a0_2 a0_3 a0_4 a0_5 t460 _ A3.out).mono ?_); rintro e w12 ⟨rfl, hb⟩; refine ⟨_, rfl, ?_⟩; have n0_ := Aside0.mk (blk_below (g := gb458) (o := .cells #[.bool a0_0, .int .u64 a0_1, .int .u64 a0_2, .int .i64 a0_3, .int .i64 a0_4, .int .i64 a0_5] 34 (0, 0)) (by (with_reducible repeat (first | refine blk_drewN ?_ _ | refine blk_drew ?_ | refine blk_alloc ?_ _)); exact BK458.out) hb); have n1_ := Aside0.mk (below_step (by repeat (first | (with_reducible first | exact HB.out | apply below_alloc | apply pw_below_drewN | apply below_drew1 | refine below_set ?_ GE458.out) | exact HB.out)) hb); clear BK458; clear HB; have BK458 := n0_; have HB := n1_; clear n0_ n1_; (try clear hb); (try clear hb2); (try clear hk); (try clear hi)) | (go_at_call 17; (with_reducible refine (ddilaw32_awake.calls k  t461 _ A7.out (by first | assumption | rfl | simp_all)).mono ?_); rintro e w13 ⟨rfl, hb⟩; have n0_ := Aside0.mk (blk_below (g := gb458) (o := .cells #[.bool a0_0, .int .u64 a0_1, .int .u64 a0_2, .int .i64 a0_3, .int .i64 a0_4, .int .i64 a0_5] 34 (0, 0)) (by (with_reducible repeat (first | refine blk_drewN ?_ _ | refine blk_drew ?_ | refine blk_alloc ?_ _)); exact BK458.out) hb); have n1_ := Aside0.mk (below_step (by repeat (first | (with_reducible first | exact HB.out | apply below_alloc | apply pw_below_drewN | apply below_drew1 | refine below_set ?_ GE458.out) | exact HB.out)) hb); clear BK458; clear HB; have BK458 := n0_; have HB := n1_; clear n0_ n1_; (try clear hb); (try clear hb2); (try clear hk); (try clear hi)))
        go_ret
        exact ⟨by first | rfl | (simp [errW_none, errW_some] <;> rfl) | (simp [*, errW_none, errW_some] <;> rfl), by repeat (first | (with_reducible first | exact HB.out | apply below_alloc | apply pw_below_drewN | apply below_drew1 | refine below_set ?_ GE458.out) | exact HB.out)⟩
      · rw [if_neg c6] at H
        have c6b0 : decide (t459 ≤ 60) = false := decide_eq_false c6
        clear c6
        exact absurd (Option.some.inj H) (by rw [hT_]; decide)
    · rw [if_neg c5] at H
      have c5b0 : decide (2 ≤ t459) = false := decide_eq_false c5
      clear c5
      exact absurd (Option.some.inj H) (by rw [hT_]; decide)
  · rw [if_neg c4] at H
    have c4b0 : (t459 == t460) = false := beq_eq_false_iff_ne.mpr c4
    have c4b1 : (t459 != t460) = true := bne_iff_ne.mpr c4
    exact absurd (Option.some.inj H) (by rw [hT_]; decide)

theorem ddilaw32_UpstreamWaits.walk (P : ddilaw32_UpstreamWaits.Pure) (a0_0 : Bool) (a0_1 : Int) (a0_2 : Int) (a0_3 : Int) (a0_4 : Int) (a0_5 : Int) (w : World) (w0 : okS34 (⟨(⟨a0_0, a0_1, a0_2⟩ : S25), a0_3, a0_4, a0_5⟩ : S34)) :
    Calls Try.prog 5 #[.agg #[.bool a0_0, .int .u64 a0_1, .int .u64 a0_2, .int .i64 a0_3, .int .i64 a0_4, .int .i64 a0_5]] w fun e w' => e = .returned (.bool true) ∧ Below w.heap.size w w' := by
  obtain ⟨k, h⟩ := P a0_0 a0_1 a0_2 a0_3 a0_4 a0_5 w0
  refine (ddilaw32_UpstreamWaits.calls k a0_0 a0_1 a0_2 a0_3 a0_4 a0_5 true w  h rfl).mono ?_
  rintro e w' ⟨rfl, hd⟩
  exact ⟨rfl, hd⟩

end Go.Proofs.Ytgkpinecggoilaa.QA
