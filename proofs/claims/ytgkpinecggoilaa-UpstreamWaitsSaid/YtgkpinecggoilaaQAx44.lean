-- Written by this session's own program (wip/xprint) out of the translation; Lean checks it.
import Derived.Test.YtgkpinecggoilaaQAd3
import Derived.Test.YtgkpinecggoilaaQAx0
import Derived.Test.YtgkpinecggoilaaQAx25
namespace Go.Proofs.Ytgkpinecggoilaa.QA
open Go.RowKit Go.Proofs.YtgkpinecggoilaaW.PrintWords Go.Proofs.YtgkpinecggoilaaW.PrintLast Go.Proofs.YtgkpinecggoilaaW.PrintMore
attribute [local go_sem] max2_int min2_int max_two min_two max_three min_three max_four min_four   -- for this text's walks alone
attribute [local go_sem high] Go.Proofs.Ytgkpinecggoilaa.XW.cell_setCell_lit
set_option linter.unusedVariables false
set_option linter.unusedSimpArgs false

/-! ### ddiref32_Timeout: function 21 -/
set_option maxHeartbeats 8000000 in
set_option maxRecDepth 100000 in
theorem ddiref32_Timeout.calls (k : Nat) (a0_0 : Bool) (a0_1 : Int) (a0_2 : Int) (a0_3 : Int) (a0_4 : Int) (a0_5 : Int) (r : Int) (w : World) (h : ddiref32_Timeout.f k a0_0 a0_1 a0_2 a0_3 a0_4 a0_5 = some r) :
    Calls Try.prog 21 #[.agg #[.bool a0_0, .int .u64 a0_1, .int .u64 a0_2, .int .i64 a0_3, .int .i64 a0_4, .int .i64 a0_5]] w fun e w' => e = .returned (.int .i64 r) ∧ Below w.heap.size w w' := by
  have hu34 := Try.underlying34
  have HB := Aside0.mk (Below.refl w.heap.size w)
  have H : ((ddiref32_cut.f a0_3 1 30).bind fun t456 => (ddiref32_Timeout.l0 k (wrap64 (2 * t456)) 0 a0_0 a0_1 a0_2 a0_3 a0_4 a0_5)) = some r := h
  clear h
  replace H := Option.bind_eq_some_iff.mp H
  obtain ⟨t456, A20, H⟩ := H
  replace H : (ddiref32_Timeout.l0 k (wrap64 (2 * t456)) 0 a0_0 a0_1 a0_2 a0_3 a0_4 a0_5) = some r := H
  have A2 := Aside0.mk A20
  clear A20
  have H' := Aside0.mk H
  clear H
  go_enter Try.func21, Try.ntmps21
  go_wp2_with (first | ((with_reducible refine gate_dst (N := 1) rfl ?_); refine box_event ?hg (N := 1) ?hd (cs := #[.bool a0_0, .int .u64 a0_1, .int .u64 a0_2, .int .i64 a0_3, .int .i64 a0_4, .int .i64 a0_5]) (t := 34) ?hr ?_; (case hd => rfl); (case hg => rfl); (case hr => first | (go_simp; done) | (go_simp; rfl)); intro gb455 hg w3 hbox hb; have n0_ := Aside0.mk (below_step (by repeat (first | (with_reducible first | exact HB.out | apply below_alloc | apply pw_below_drewN | apply below_drew1) | exact HB.out)) hb); have n1_ := Aside0.mk (hbox); have n2_ := Aside0.mk ((by rw [hg]; exact (below_size (by repeat (first | (with_reducible first | exact HB.out | apply below_alloc | apply pw_below_drewN | apply below_drew1) | exact HB.out))) : w.heap.size ≤ gb455)); have n3_ := Aside0.mk ((by rw [hg]; exact (below_size (by repeat (first | (with_reducible first | exact HB.out | apply below_alloc | apply pw_below_drewN | apply below_drew1) | exact HB.out))) : w.heap.size ≤ gb455)); clear HB; have HB := n0_; have BK455 := n1_; have GW455 := n2_; have GE455 := n3_; clear n0_ n1_ n2_ n3_; clear hb hbox hg; have hcz4_0 : w3.cell? ⟨gb455, 0, none⟩ = some (.bool a0_0) := (blk_cell BK455.out 0).trans rfl; have hcz4_1 : w3.cell? ⟨gb455, 1, none⟩ = some (.int .u64 a0_1) := (blk_cell BK455.out 1).trans rfl; have hcz4_2 : w3.cell? ⟨gb455, 2, none⟩ = some (.int .u64 a0_2) := (blk_cell BK455.out 2).trans rfl; have hcz4_3 : w3.cell? ⟨gb455, 3, none⟩ = some (.int .i64 a0_3) := (blk_cell BK455.out 3).trans rfl; have hcz4_4 : w3.cell? ⟨gb455, 4, none⟩ = some (.int .i64 a0_4) := (blk_cell BK455.out 4).trans rfl; have hcz4_5 : w3.cell? ⟨gb455, 5, none⟩ = some (.int .i64 a0_5) := (blk_cell BK455.out 5).trans rfl; have hfz4_0 := blk_frozen BK455.out 0; have hfz4_1 := blk_frozen BK455.out 1; have hfz4_2 := blk_frozen BK455.out 2; have hfz4_3 := blk_frozen BK455.out 3; have hfz4_4 := blk_frozen BK455.out 4; have hfz4_5 := blk_frozen BK455.out 5) | ((with_reducible refine gate_callee (f := 28) rfl ?_); refine goesL_ (some 7) rfl rfl Try.func28 (by kernel_rfl) rfl #[.int .i64 a0_3, .int .i64 1, .int .i64 30] rfl (by (try simp only [List.map_toArray, List.map_cons, List.map_nil]); first | done | rfl | (simp only [List.length_drop, List.length_take]; rfl)) ?_; (with_reducible refine (ddiref32_cut.calls a0_3 1 30 t456 _ A2.out).mono ?_); rintro e w5 ⟨rfl, hb⟩; refine ⟨_, rfl, ?_⟩; have n0_ := Aside0.mk (blk_below (g := gb455) (o := .cells #[.bool a0_0, .int .u64 a0_1, .int .u64 a0_2, .int .i64 a0_3, .int .i64 a0_4, .int .i64 a0_5] 34 (0, 0)) (by (with_reducible repeat (first | refine blk_drewN ?_ _ | refine blk_drew ?_ | refine blk_alloc ?_ _)); exact BK455.out) hb); have n1_ := Aside0.mk (below_step (by repeat (first | (with_reducible first | exact HB.out | apply below_alloc | apply pw_below_drewN | apply below_drew1 | refine below_set ?_ GE455.out) | exact HB.out)) hb); clear BK455; clear HB; have BK455 := n0_; have HB := n1_; clear n0_ n1_; (try clear hb); (try clear hb2); (try clear hk); (try clear hi)))
  go_loopg [3, 4] k (fun kq v3 v4 w' => ∃ (x3_1 : Int) (x4_1 : Int), v3 = .int .i64 x3_1 ∧ v4 = .int .i64 x4_1 ∧ Aside0 (ddiref32_Timeout.l0 kq x3_1 x4_1 a0_0 a0_1 a0_2 a0_3 a0_4 a0_5 = some r) ∧ Aside0 (kq ≤ k) ∧ Aside0 (w'.heap[gb455]? = some (.cells #[.bool a0_0, .int .u64 a0_1, .int .u64 a0_2, .int .i64 a0_3, .int .i64 a0_4, .int .i64 a0_5] 34 (0, 0))) ∧ Aside0 (Below w.heap.size w w'))
  case atStart => exact ⟨(wrap64 (2 * t456)), (0), (by first | rfl | (simp; done) | (simp [*]; done)), (by first | rfl | (simp; done) | (simp [*]; done)), H', ⟨Nat.le_refl _⟩, ⟨by (with_reducible repeat (first | refine blk_drewN ?_ _ | refine blk_drew ?_ | refine blk_alloc ?_ _)); exact BK455.out⟩, ⟨by repeat (first | (with_reducible first | exact HB.out | apply below_alloc | apply pw_below_drewN | apply below_drew1 | refine below_set ?_ GE455.out) | exact HB.out)⟩⟩
  case round =>
    clear H'
    try clear c2
    try clear p2
    try clear hcz4_0
    try clear hcz4_1
    try clear hcz4_2
    try clear hcz4_3
    try clear hcz4_4
    try clear hcz4_5
    try clear hfz4_0
    try clear hfz4_1
    try clear hfz4_2
    try clear hfz4_3
    try clear hfz4_4
    try clear hfz4_5
    obtain ⟨x3_1, x4_1, rfl, rfl, HA, HK1, BK455, HB⟩ := hrel
    cases gk with
    | zero => exact absurd HA.out (by simp [ddiref32_Timeout.l0])
    | succ k1 =>
      have H := HA.out
      clear HA
      simp only [ddiref32_Timeout.l0] at H
      replace H := Option.bind_eq_some_iff.mp H
      obtain ⟨t457, A60, H⟩ := H
      (try dsimp only at H)
      have A6 := Aside0.mk A60
      clear A60
      by_cases c7 : x4_1 < t457
      · rw [if_pos c7] at H
        have c7b0 : decide (x4_1 < t457) = true := decide_eq_true c7
        clear c7
        have H' := Aside0.mk H
        clear H
        have hcz8_0 : wr.cell? ⟨gb455, 0, none⟩ = some (.bool a0_0) := (blk_cell BK455.out 0).trans rfl
        have hcz8_1 : wr.cell? ⟨gb455, 1, none⟩ = some (.int .u64 a0_1) := (blk_cell BK455.out 1).trans rfl
        have hcz8_2 : wr.cell? ⟨gb455, 2, none⟩ = some (.int .u64 a0_2) := (blk_cell BK455.out 2).trans rfl
        have hcz8_3 : wr.cell? ⟨gb455, 3, none⟩ = some (.int .i64 a0_3) := (blk_cell BK455.out 3).trans rfl
        have hcz8_4 : wr.cell? ⟨gb455, 4, none⟩ = some (.int .i64 a0_4) := (blk_cell BK455.out 4).trans rfl
        have hcz8_5 : wr.cell? ⟨gb455, 5, none⟩ = some (.int .i64 a0_5) := (blk_cell BK455.out 5).trans rfl
        have hfz8_0 := blk_frozen BK455.out 0
        have hfz8_1 := blk_frozen BK455.out 1
        have hfz8_2 := blk_frozen BK455.out 2
        have hfz8_3 := blk_frozen BK455.out 3
        have hfz8_4 := blk_frozen BK455.out 4
        have hfz8_5 := blk_frozen BK455.out 5
        go_wp2_with (first | ((with_reducible refine gate_callee (f := 28) rfl ?_); refine goesL_ (some 12) rfl rfl Try.func28 (by kernel_rfl) rfl #[.int .i64 a0_4, .int .i64 0, .int .i64 6] rfl (by (try simp only [List.map_toArray, List.map_cons, List.map_nil]); first | done | rfl | (simp only [List.length_drop, List.length_take]; rfl)) ?_; (with_reducible refine (ddiref32_cut.calls a0_4 0 6 t457 _ A6.out).mono ?_); rintro e w9 ⟨rfl, hb⟩; refine ⟨_, rfl, ?_⟩; have n0_ := Aside0.mk (blk_below (g := gb455) (o := .cells #[.bool a0_0, .int .u64 a0_1, .int .u64 a0_2, .int .i64 a0_3, .int .i64 a0_4, .int .i64 a0_5] 34 (0, 0)) (by (with_reducible repeat (first | refine blk_drewN ?_ _ | refine blk_drew ?_ | refine blk_alloc ?_ _)); exact BK455.out) hb); have n1_ := Aside0.mk (below_step (by repeat (first | (with_reducible first | exact HB.out | apply below_alloc | apply pw_below_drewN | apply below_drew1 | refine below_set ?_ GE455.out) | exact HB.out)) hb); clear BK455; clear HB; have BK455 := n0_; have HB := n1_; clear n0_ n1_; (try clear hb); (try clear hb2); (try clear hk); (try clear hi)))
        go_roundg k1
        case measure => have := HK1.out; omega
        case rel => exact ⟨(wrap64 (2 * x3_1)), (wrap64 (x4_1 + 1)), (by first | rfl | (simp; done) | (simp [*]; done)), (by first | rfl | (simp; done) | (simp [*]; done)), H', ⟨by have := HK1.out; omega⟩, ⟨by (with_reducible repeat (first | refine blk_drewN ?_ _ | refine blk_drew ?_ | refine blk_alloc ?_ _)); exact BK455.out⟩, ⟨by repeat (first | (with_reducible first | exact HB.out | apply below_alloc | apply pw_below_drewN | apply below_drew1 | refine below_set ?_ GE455.out) | exact HB.out)⟩⟩
      · rw [if_neg c7] at H
        have c7b0 : decide (x4_1 < t457) = false := decide_eq_false c7
        clear c7
        obtain ⟨ji10, hji10⟩ : ∃ j_ : Int, (mn x3_1 60) = j_ := ⟨_, rfl⟩
        replace H : (some ji10) = some r := by first | (rw [hji10] at H; exact H) | (simp only [hji10] at H ⊢; exact H)
        (try rw [hji10] at A6)
        have hji10_ : (if 60 < x3_1 then 60 else x3_1) = ji10 := hji10
        obtain rfl := Option.some.inj H
        have hcz11_0 : wr.cell? ⟨gb455, 0, none⟩ = some (.bool a0_0) := (blk_cell BK455.out 0).trans rfl
        have hcz11_1 : wr.cell? ⟨gb455, 1, none⟩ = some (.int .u64 a0_1) := (blk_cell BK455.out 1).trans rfl
        have hcz11_2 : wr.cell? ⟨gb455, 2, none⟩ = some (.int .u64 a0_2) := (blk_cell BK455.out 2).trans rfl
        have hcz11_3 : wr.cell? ⟨gb455, 3, none⟩ = some (.int .i64 a0_3) := (blk_cell BK455.out 3).trans rfl
        have hcz11_4 : wr.cell? ⟨gb455, 4, none⟩ = some (.int .i64 a0_4) := (blk_cell BK455.out 4).trans rfl
        have hcz11_5 : wr.cell? ⟨gb455, 5, none⟩ = some (.int .i64 a0_5) := (blk_cell BK455.out 5).trans rfl
        have hfz11_0 := blk_frozen BK455.out 0
        have hfz11_1 := blk_frozen BK455.out 1
        have hfz11_2 := blk_frozen BK455.out 2
        have hfz11_3 := blk_frozen BK455.out 3
        have hfz11_4 := blk_frozen BK455.out 4
        have hfz11_5 := blk_frozen BK455.out 5
        go_wp2_with (first | ((with_reducible refine gate_callee (f := 28) rfl ?_); refine goesL_ (some 12) rfl rfl Try.func28 (by kernel_rfl) rfl #[.int .i64 a0_4, .int .i64 0, .int .i64 6] rfl (by (try simp only [List.map_toArray, List.map_cons, List.map_nil]); first | done | rfl | (simp only [List.length_drop, List.length_take]; rfl)) ?_; (with_reducible refine (ddiref32_cut.calls a0_4 0 6 t457 _ A6.out).mono ?_); rintro e w12 ⟨rfl, hb⟩; refine ⟨_, rfl, ?_⟩; have n0_ := Aside0.mk (blk_below (g := gb455) (o := .cells #[.bool a0_0, .int .u64 a0_1, .int .u64 a0_2, .int .i64 a0_3, .int .i64 a0_4, .int .i64 a0_5] 34 (0, 0)) (by (with_reducible repeat (first | refine blk_drewN ?_ _ | refine blk_drew ?_ | refine blk_alloc ?_ _)); exact BK455.out) hb); have n1_ := Aside0.mk (below_step (by repeat (first | (with_reducible first | exact HB.out | apply below_alloc | apply pw_below_drewN | apply below_drew1 | refine below_set ?_ GE455.out) | exact HB.out)) hb); clear BK455; clear HB; have BK455 := n0_; have HB := n1_; clear n0_ n1_; (try clear hb); (try clear hb2); (try clear hk); (try clear hi)))
        go_ret
        exact ⟨by first | rfl | (simp [errW_none, errW_some] <;> rfl) | (simp only [← hji10]; first | rfl | (simp [errW_none, errW_some] <;> rfl)) | (simp [*, errW_none, errW_some] <;> rfl), by repeat (first | (with_reducible first | exact HB.out | apply below_alloc | apply pw_below_drewN | apply below_drew1 | refine below_set ?_ GE455.out) | exact HB.out)⟩

end Go.Proofs.Ytgkpinecggoilaa.QA
