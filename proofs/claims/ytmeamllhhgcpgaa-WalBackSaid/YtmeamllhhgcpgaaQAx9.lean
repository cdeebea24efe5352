-- Written by this session's own program (wip/xprint) out of the translation; Lean checks it.
import Derived.Test.YtmeamllhhgcpgaaQAx0
import Derived.Test.YtmeamllhhgcpgaaQAx3
namespace Go.Proofs.Ytmeamllhhgcpgaa.QA
open Go.RowKit Go.Proofs.YtmeamllhhgcpgaaW.PrintWords Go.Proofs.YtmeamllhhgcpgaaW.PrintLast Go.Proofs.YtmeamllhhgcpgaaW.PrintMore
attribute [local go_sem] max2_int min2_int max_two min_two max_three min_three max_four min_four   -- for this text's walks alone
attribute [local go_sem high] Go.Proofs.Ytmeamllhhgcpgaa.XW.cell_setCell_lit
set_option linter.unusedVariables false
set_option linter.unusedSimpArgs false

/-! ### ddiref16_Scan: function 17 -/
mutual
def ddiref16_Scan.l0 : Nat → ByteArray → List ByteArray → Int → Option (List ByteArray × Int)
  | 0, _, _, _ => none
  | k + 1, x0, x4, x5 => if (wrap64 ((x0.size : Int) - x5)) ≥ 8 then (if 0 ≤ x5 then (if x5 < (x0.size : Int) then (if 0 ≤ (wrap64 (x5 + 1)) then (if (wrap64 (x5 + 1)) < (x0.size : Int) then (if 0 ≤ (wrap64 (x5 + 2)) then (if (wrap64 (x5 + 2)) < (x0.size : Int) then (if 0 ≤ (wrap64 (x5 + 3)) then (if (wrap64 (x5 + 3)) < (x0.size : Int) then (if (wrap64 ((wrap64 ((wrap64 ((wrap64 ((wrap64 (bt x0 x5)) * 16777216)) + (wrap64 ((wrap64 (bt x0 (wrap64 (x5 + 1)))) * 65536)))) + (wrap64 ((wrap64 (bt x0 (wrap64 (x5 + 2)))) * 256)))) + (wrap64 (bt x0 (wrap64 (x5 + 3)))))) > 32768 then (ddiref16_Scan.j1 k x0 x4 x5 (wrap64 ((wrap64 ((wrap64 ((wrap64 ((wrap64 (bt x0 x5)) * 16777216)) + (wrap64 ((wrap64 (bt x0 (wrap64 (x5 + 1)))) * 65536)))) + (wrap64 ((wrap64 (bt x0 (wrap64 (x5 + 2)))) * 256)))) + (wrap64 (bt x0 (wrap64 (x5 + 3)))))) true) else (ddiref16_Scan.j1 k x0 x4 x5 (wrap64 ((wrap64 ((wrap64 ((wrap64 ((wrap64 (bt x0 x5)) * 16777216)) + (wrap64 ((wrap64 (bt x0 (wrap64 (x5 + 1)))) * 65536)))) + (wrap64 ((wrap64 (bt x0 (wrap64 (x5 + 2)))) * 256)))) + (wrap64 (bt x0 (wrap64 (x5 + 3)))))) (decide ((wrap64 ((wrap64 ((x0.size : Int) - x5)) - 8)) < (wrap64 ((wrap64 ((wrap64 ((wrap64 ((wrap64 (bt x0 x5)) * 16777216)) + (wrap64 ((wrap64 (bt x0 (wrap64 (x5 + 1)))) * 65536)))) + (wrap64 ((wrap64 (bt x0 (wrap64 (x5 + 2)))) * 256)))) + (wrap64 (bt x0 (wrap64 (x5 + 3)))))))))) else (none)) else (none)) else (none)) else (none)) else (none)) else (none)) else (none)) else (none)) else (some (x4, x5))
def ddiref16_Scan.j1 : Nat → ByteArray → List ByteArray → Int → Int → Bool → Option (List ByteArray × Int)
  | 0, _, _, _, _, _ => none
  | k + 1, x0, x4, x5, x6, x50 => if x50 = true then (some (x4, x5)) else (if 0 ≤ (wrap64 (x5 + 8)) then (if (wrap64 (x5 + 8)) ≤ (wrap64 ((wrap64 (x5 + 8)) + x6)) then (if (wrap64 ((wrap64 (x5 + 8)) + x6)) ≤ (x0.size : Int) then ((ddiref16_Frame.f k (x0.extract ((wrap64 (x5 + 8)) : Int).toNat ((wrap64 ((wrap64 (x5 + 8)) + x6)) : Int).toNat)).bind fun bt196 => (if 0 ≤ x5 then (if x5 ≤ (wrap64 ((wrap64 (x5 + 8)) + x6)) then (if (x0.extract (x5 : Int).toNat ((wrap64 ((wrap64 (x5 + 8)) + x6)) : Int).toNat).toList = bt196.1.toList then (if x4.length < 8796093022208 then (ddiref16_Scan.l0 k x0 (x4 ++ [x0.extract ((wrap64 (x5 + 8)) : Int).toNat ((wrap64 ((wrap64 (x5 + 8)) + x6)) : Int).toNat]) (wrap64 ((wrap64 (x5 + 8)) + x6))) else (none)) else (some (x4, x5))) else (none)) else (none))) else (none)) else (none)) else (none))
end
def ddiref16_Scan.f (k : Nat) (a0 : ByteArray) : Option (List ByteArray × Int) := ddiref16_Scan.l0 k a0 ([] : List ByteArray) 0
theorem ddiref16_Scan.mono_l : ∀ k, (∀ y0 y1 y2, LeO (ddiref16_Scan.l0 k y0 y1 y2) (ddiref16_Scan.l0 (k + 1) y0 y1 y2)) ∧ (∀ y0 y1 y2 y3 y4, LeO (ddiref16_Scan.j1 k y0 y1 y2 y3 y4) (ddiref16_Scan.j1 (k + 1) y0 y1 y2 y3 y4))
  | 0 => ⟨fun _ _ _ r h => by simp [ddiref16_Scan.l0] at h, fun _ _ _ _ _ r h => by simp [ddiref16_Scan.j1] at h⟩
  | k + 1 => by
    obtain ⟨ih0, ih1⟩ := ddiref16_Scan.mono_l k
    refine ⟨?_, ?_⟩
    · intro y0 y1 y2
      unfold ddiref16_Scan.l0
      repeat' first
      | (with_reducible exact ih0 _ _ _)
      | (with_reducible exact ih1 _ _ _ _ _)
      | (with_reducible exact ddiref16_Frame.mono _ _)
      | (with_reducible exact LeO.refl _)
      | (with_reducible exact LeO.none _)
      | (with_reducible refine LeO.ite ?_ ?_)
      | (with_reducible refine LeO.bind ?_ (fun _ => ?_))
      | exact ih0 _ _ _
      | exact ih1 _ _ _ _ _
      | exact ddiref16_Frame.mono _ _
      | exact LeO.none _
      | refine LeO.ite ?_ ?_
      | refine LeO.bind ?_ (fun _ => ?_)
    · intro y0 y1 y2 y3 y4
      unfold ddiref16_Scan.j1
      repeat' first
      | (with_reducible exact ih0 _ _ _)
      | (with_reducible exact ih1 _ _ _ _ _)
      | (with_reducible exact ddiref16_Frame.mono _ _)
      | (with_reducible exact LeO.refl _)
      | (with_reducible exact LeO.none _)
      | (with_reducible refine LeO.ite ?_ ?_)
      | (with_reducible refine LeO.bind ?_ (fun _ => ?_))
      | exact ih0 _ _ _
      | exact ih1 _ _ _ _ _
      | exact ddiref16_Frame.mono _ _
      | exact LeO.none _
      | refine LeO.ite ?_ ?_
      | refine LeO.bind ?_ (fun _ => ?_)
theorem ddiref16_Scan.mono : ∀ a0 k, LeO (ddiref16_Scan.f k a0) (ddiref16_Scan.f (k + 1) a0) := by
  intro a0 k
  obtain ⟨ih0, ih1⟩ := ddiref16_Scan.mono_l k
  unfold ddiref16_Scan.f
  repeat' first
      | (with_reducible exact ih0 _ _ _)
      | (with_reducible exact ih1 _ _ _ _ _)
      | (with_reducible exact ddiref16_Frame.mono _ _)
      | (with_reducible exact LeO.refl _)
      | (with_reducible exact LeO.none _)
      | (with_reducible refine LeO.ite ?_ ?_)
      | (with_reducible refine LeO.bind ?_ (fun _ => ?_))
      | exact ih0 _ _ _
      | exact ih1 _ _ _ _ _
      | exact ddiref16_Frame.mono _ _
      | exact LeO.none _
      | refine LeO.ite ?_ ?_
      | refine LeO.bind ?_ (fun _ => ?_)
set_option maxHeartbeats 8000000 in
set_option maxRecDepth 100000 in
theorem ddiref16_Scan.calls (k : Nat) (a0 : ByteArray) (r1 : List ByteArray) (r2 : Int) (w : World) (h : ddiref16_Scan.f k a0 = some (r1, r2)) :
    Calls Try.prog 17 #[.string a0] w fun e w' => ∃ v0_ : Value, e = .returned (.tuple #[v0_, .int .i64 r2]) ∧ Kd.R Kd.string 9 w' w.heap.size (fun _ => True) v0_ r1 ∧ Below w.heap.size w w' := by
  have HB := Aside0.mk (Below.refl w.heap.size w)
  have H : (ddiref16_Scan.l0 k a0 ([] : List ByteArray) 0) = some (r1, r2) := h
  clear h
  have H' := Aside0.mk H
  clear H
  go_enter Try.func17, Try.ntmps17
  go_wp2
  repeat (go_quiet (fail); try go_wp2)
  go_loopg [4, 5] k (fun kq v4 v5 w' => ∃ (x4_1 : List ByteArray) (x5_1 : Int), v5 = .int .i64 x5_1 ∧ Aside0 (ddiref16_Scan.l0 kq a0 x4_1 x5_1 = some (r1, r2)) ∧ Aside0 (kq ≤ k) ∧ Aside0 (Kd.R Kd.string 9 w' w.heap.size (fun _ => True) v4 x4_1) ∧ Aside0 (Below w.heap.size w w'))
  case atStart => exact ⟨(([] : List ByteArray)), (0), (by first | rfl | (simp; done) | (simp [*]; done)), H', ⟨Nat.le_refl _⟩, ⟨by first | exact Kd.R_nil _ _ _ _ _ | exact Kd.N_nil _ _ _ _ _ | exact Kd.V_nil _ _ _ _ _ | exact Kd.Q_nil _ _ _ _ _ | exact Kd.S_nil _ _ _ _ _⟩, ⟨by repeat (first | (with_reducible first | exact HB.out | apply below_alloc | apply pw_below_drewN | apply below_drew1) | exact HB.out)⟩⟩
  case round =>
    clear H'
    try clear c1
    obtain ⟨x4_1, x5_1, rfl, HA, HK1, HO_4, HB⟩ := hrel
    cases gk with
    | zero => exact absurd HA.out (by simp [ddiref16_Scan.l0])
    | succ k1 =>
      have H := HA.out
      clear HA
      simp only [ddiref16_Scan.l0] at H
      by_cases c2 : (wrap64 ((a0.size : Int) - x5_1)) ≥ 8
      · rw [if_pos c2] at H
        have c2b0 : decide (8 ≤ (wrap64 ((a0.size : Int) - x5_1))) = true := decide_eq_true c2
        clear c2
        by_cases c3 : 0 ≤ x5_1
        · rw [if_pos c3] at H
          have c3b0 : decide (0 ≤ x5_1) = true := decide_eq_true c3
          clear c3
          by_cases c4 : x5_1 < (a0.size : Int)
          · rw [if_pos c4] at H
            have c4b0 : decide (x5_1 < (a0.size : Int)) = true := decide_eq_true c4
            clear c4
            obtain ⟨ji6, hji6⟩ : ∃ j_ : Int, (wrap64 (x5_1 + 1)) = j_ := ⟨_, rfl⟩
            replace H : (if 0 ≤ (ji6) then (if (ji6) < (a0.size : Int) then (if 0 ≤ (wrap64 (x5_1 + 2)) then (if (wrap64 (x5_1 + 2)) < (a0.size : Int) then (if 0 ≤ (wrap64 (x5_1 + 3)) then (if (wrap64 (x5_1 + 3)) < (a0.size : Int) then (if (wrap64 ((wrap64 ((wrap64 ((wrap64 ((wrap64 (bt a0 x5_1)) * 16777216)) + (wrap64 ((wrap64 (bt a0 (ji6))) * 65536)))) + (wrap64 ((wrap64 (bt a0 (wrap64 (x5_1 + 2)))) * 256)))) + (wrap64 (bt a0 (wrap64 (x5_1 + 3)))))) > 32768 then (ddiref16_Scan.j1 k1 a0 x4_1 x5_1 (wrap64 ((wrap64 ((wrap64 ((wrap64 ((wrap64 (bt a0 x5_1)) * 16777216)) + (wrap64 ((wrap64 (bt a0 (ji6))) * 65536)))) + (wrap64 ((wrap64 (bt a0 (wrap64 (x5_1 + 2)))) * 256)))) + (wrap64 (bt a0 (wrap64 (x5_1 + 3)))))) true) else (ddiref16_Scan.j1 k1 a0 x4_1 x5_1 (wrap64 ((wrap64 ((wrap64 ((wrap64 ((wrap64 (bt a0 x5_1)) * 16777216)) + (wrap64 ((wrap64 (bt a0 (ji6))) * 65536)))) + (wrap64 ((wrap64 (bt a0 (wrap64 (x5_1 + 2)))) * 256)))) + (wrap64 (bt a0 (wrap64 (x5_1 + 3)))))) (decide ((wrap64 ((wrap64 ((a0.size : Int) - x5_1)) - 8)) < (wrap64 ((wrap64 ((wrap64 ((wrap64 ((wrap64 (bt a0 x5_1)) * 16777216)) + (wrap64 ((wrap64 (bt a0 (ji6))) * 65536)))) + (wrap64 ((wrap64 (bt a0 (wrap64 (x5_1 + 2)))) * 256)))) + (wrap64 (bt a0 (wrap64 (x5_1 + 3)))))))))) else (none)) else (none)) else (none)) else (none)) else (none)) else (none)) = some (r1, r2) := by first | (rw [hji6] at H; exact H) | (simp only [hji6] at H ⊢; exact H)
            have hji6w : (IntKind.i64.wrap (x5_1 + 1)) = ji6 := (i64_w _).trans hji6
            by_cases c7 : 0 ≤ (ji6)
            · rw [if_pos c7] at H
              have c7b0 : decide (0 ≤ (ji6)) = true := decide_eq_true c7
              clear c7
              by_cases c8 : (ji6) < (a0.size : Int)
              · rw [if_pos c8] at H
                have c8b0 : decide ((ji6) < (a0.size : Int)) = true := decide_eq_true c8
                clear c8
                obtain ⟨ji10, hji10⟩ : ∃ j_ : Int, (wrap64 (x5_1 + 2)) = j_ := ⟨_, rfl⟩
                replace H : (if 0 ≤ (ji10) then (if (ji10) < (a0.size : Int) then (if 0 ≤ (wrap64 (x5_1 + 3)) then (if (wrap64 (x5_1 + 3)) < (a0.size : Int) then (if (wrap64 ((wrap64 ((wrap64 ((wrap64 ((wrap64 (bt a0 x5_1)) * 16777216)) + (wrap64 ((wrap64 (bt a0 (ji6))) * 65536)))) + (wrap64 ((wrap64 (bt a0 (ji10))) * 256)))) + (wrap64 (bt a0 (wrap64 (x5_1 + 3)))))) > 32768 then (ddiref16_Scan.j1 k1 a0 x4_1 x5_1 (wrap64 ((wrap64 ((wrap64 ((wrap64 ((wrap64 (bt a0 x5_1)) * 16777216)) + (wrap64 ((wrap64 (bt a0 (ji6))) * 65536)))) + (wrap64 ((wrap64 (bt a0 (ji10))) * 256)))) + (wrap64 (bt a0 (wrap64 (x5_1 + 3)))))) true) else (ddiref16_Scan.j1 k1 a0 x4_1 x5_1 (wrap64 ((wrap64 ((wrap64 ((wrap64 ((wrap64 (bt a0 x5_1)) * 16777216)) + (wrap64 ((wrap64 (bt a0 (ji6))) * 65536)))) + (wrap64 ((wrap64 (bt a0 (ji10))) * 256)))) + (wrap64 (bt a0 (wrap64 (x5_1 + 3)))))) (decide ((wrap64 ((wrap64 ((a0.size : Int) - x5_1)) - 8)) < (wrap64 ((wrap64 ((wrap64 ((wrap64 ((wrap64 (bt a0 x5_1)) * 16777216)) + (wrap64 ((wrap64 (bt a0 (ji6))) * 65536)))) + (wrap64 ((wrap64 (bt a0 (ji10))) * 256)))) + (wrap64 (bt a0 (wrap64 (x5_1 + 3)))))))))) else (none)) else (none)) else (none)) else (none)) = some (r1, r2) := by first | (rw [hji10] at H; exact H) | (simp only [hji10] at H ⊢; exact H)
                have hji10w : (IntKind.i64.wrap (x5_1 + 2)) = ji10 := (i64_w _).trans hji10
                by_cases c11 : 0 ≤ (ji10)
                · rw [if_pos c11] at H
                  have c11b0 : decide (0 ≤ (ji10)) = true := decide_eq_true c11
                  clear c11
                  by_cases c12 : (ji10) < (a0.size : Int)
                  · rw [if_pos c12] at H
                    have c12b0 : decide ((ji10) < (a0.size : Int)) = true := decide_eq_true c12
                    clear c12
                    obtain ⟨ji14, hji14⟩ : ∃ j_ : Int, (wrap64 (x5_1 + 3)) = j_ := ⟨_, rfl⟩
                    replace H : (if 0 ≤ (ji14) then (if (ji14) < (a0.size : Int) then (if (wrap64 ((wrap64 ((wrap64 ((wrap64 ((wrap64 (bt a0 x5_1)) * 16777216)) + (wrap64 ((wrap64 (bt a0 (ji6))) * 65536)))) + (wrap64 ((wrap64 (bt a0 (ji10))) * 256)))) + (wrap64 (bt a0 (ji14))))) > 32768 then (ddiref16_Scan.j1 k1 a0 x4_1 x5_1 (wrap64 ((wrap64 ((wrap64 ((wrap64 ((wrap64 (bt a0 x5_1)) * 16777216)) + (wrap64 ((wrap64 (bt a0 (ji6))) * 65536)))) + (wrap64 ((wrap64 (bt a0 (ji10))) * 256)))) + (wrap64 (bt a0 (ji14))))) true) else (ddiref16_Scan.j1 k1 a0 x4_1 x5_1 (wrap64 ((wrap64 ((wrap64 ((wrap64 ((wrap64 (bt a0 x5_1)) * 16777216)) + (wrap64 ((wrap64 (bt a0 (ji6))) * 65536)))) + (wrap64 ((wrap64 (bt a0 (ji10))) * 256)))) + (wrap64 (bt a0 (ji14))))) (decide ((wrap64 ((wrap64 ((a0.size : Int) - x5_1)) - 8)) < (wrap64 ((wrap64 ((wrap64 ((wrap64 ((wrap64 (bt a0 x5_1)) * 16777216)) + (wrap64 ((wrap64 (bt a0 (ji6))) * 65536)))) + (wrap64 ((wrap64 (bt a0 (ji10))) * 256)))) + (wrap64 (bt a0 (ji14))))))))) else (none)) else (none)) = some (r1, r2) := by first | (rw [hji14] at H; exact H) | (simp only [hji14] at H ⊢; exact H)
                    have hji14w : (IntKind.i64.wrap (x5_1 + 3)) = ji14 := (i64_w _).trans hji14
                    by_cases c15 : 0 ≤ (ji14)
                    · rw [if_pos c15] at H
                      have c15b0 : decide (0 ≤ (ji14)) = true := decide_eq_true c15
                      clear c15
                      by_cases c16 : (ji14) < (a0.size : Int)
                      · rw [if_pos c16] at H
                        have c16b0 : decide ((ji14) < (a0.size : Int)) = true := decide_eq_true c16
                        clear c16
                        have HC18 := Aside0.mk H
                        clear H
                        have p5 : 0 ≤ (x5_1 : Int) := of_decide_eq_true (by first | (with_reducible assumption) | assumption)
                        have q5 : x5_1 < (a0.size : Int) := of_decide_eq_true (by first | (with_reducible assumption) | assumption)
                        have hx5 := bt_at a0 x5_1
                        replace p5 := eq_true p5
                        replace q5 := eq_true q5
                        have p9 : 0 ≤ ((ji6) : Int) := of_decide_eq_true (by first | (with_reducible assumption) | assumption)
                        have q9 : (ji6) < (a0.size : Int) := of_decide_eq_true (by first | (with_reducible assumption) | assumption)
                        have hx9 := bt_at a0 (ji6)
                        replace p9 := eq_true p9
                        replace q9 := eq_true q9
                        have p13 : 0 ≤ ((ji10) : Int) := of_decide_eq_true (by first | (with_reducible assumption) | assumption)
                        have q13 : (ji10) < (a0.size : Int) := of_decide_eq_true (by first | (with_reducible assumption) | assumption)
                        have hx13 := bt_at a0 (ji10)
                        replace p13 := eq_true p13
                        replace q13 := eq_true q13
                        have p17 : 0 ≤ ((ji14) : Int) := of_decide_eq_true (by first | (with_reducible assumption) | assumption)
                        have q17 : (ji14) < (a0.size : Int) := of_decide_eq_true (by first | (with_reducible assumption) | assumption)
                        have hx17 := bt_at a0 (ji14)
                        replace p17 := eq_true p17
                        replace q17 := eq_true q17
                        go_upto_region 5 with (fail)
                        repeat (go_quiet (fail); go_upto_region 5 with (fail))
                        go_cut [50] (fun v50 wc => ∃ (kq : Nat) (x50_17 : Bool), v50 = .bool x50_17 ∧ Aside0 (ddiref16_Scan.j1 kq a0 x4_1 x5_1 (wrap64 ((wrap64 ((wrap64 ((wrap64 ((wrap64 (bt a0 x5_1)) * 16777216)) + (wrap64 ((wrap64 (bt a0 (ji6))) * 65536)))) + (wrap64 ((wrap64 (bt a0 (ji10))) * 256)))) + (wrap64 (bt a0 (ji14))))) x50_17 = some (r1, r2)) ∧ Aside0 (kq ≤ k1) ∧ Aside0 (Kd.R Kd.string 9 wc w.heap.size (fun _ => True) u4 x4_1) ∧ Aside0 (Below w.heap.size w wc))
                        case first =>
                          have H := HC18.out
                          clear HC18
                          by_cases c19 : (wrap64 ((wrap64 ((wrap64 ((wrap64 ((wrap64 (bt a0 x5_1)) * 16777216)) + (wrap64 ((wrap64 (bt a0 (ji6))) * 65536)))) + (wrap64 ((wrap64 (bt a0 (ji10))) * 256)))) + (wrap64 (bt a0 (ji14))))) > 32768
                          · rw [if_pos c19] at H
                            have c19b0 : decide (32768 < (wrap64 ((wrap64 ((wrap64 ((wrap64 ((wrap64 (bt a0 x5_1)) * 16777216)) + (wrap64 ((wrap64 (bt a0 (ji6))) * 65536)))) + (wrap64 ((wrap64 (bt a0 (ji10))) * 256)))) + (wrap64 (bt a0 (ji14)))))) = true := decide_eq_true c19
                            clear c19
                            (first | rw [c19b0] | (simp only [i64_w, i32_w]; rw [c19b0]) | skip)
                            have H' := Aside0.mk H
                            clear H
                            go_wp2
                            repeat (go_quiet (fail); try go_wp2)
                            go_meet
                            case rel => exact ⟨_, (true), (by first | rfl | (simp; done) | (simp [*]; done)), H', ⟨by have := HK1.out; first | omega | exact Nat.le_refl _⟩, ⟨by (with_reducible repeat (first | apply Kd.R_alloc | apply Kd.R_drewN | apply Kd.R_drew)); exact HO_4.out⟩, ⟨by repeat (first | (with_reducible first | exact HB.out | apply below_alloc | apply pw_below_drewN | apply below_drew1) | exact HB.out)⟩⟩
                          · rw [if_neg c19] at H
                            have c19b0 : decide (32768 < (wrap64 ((wrap64 ((wrap64 ((wrap64 ((wrap64 (bt a0 x5_1)) * 16777216)) + (wrap64 ((wrap64 (bt a0 (ji6))) * 65536)))) + (wrap64 ((wrap64 (bt a0 (ji10))) * 256)))) + (wrap64 (bt a0 (ji14)))))) = false := decide_eq_false c19
                            clear c19
                            (first | rw [c19b0] | (simp only [i64_w, i32_w]; rw [c19b0]) | skip)
                            have H' := Aside0.mk H
                            clear H
                            go_wp2
                            repeat (go_quiet (fail); try go_wp2)
                            go_meet
                            case rel => exact ⟨_, (decide ((wrap64 ((wrap64 ((a0.size : Int) - x5_1)) - 8)) < (wrap64 ((wrap64 ((wrap64 ((wrap64 ((wrap64 (bt a0 x5_1)) * 16777216)) + (wrap64 ((wrap64 (bt a0 (ji6))) * 65536)))) + (wrap64 ((wrap64 (bt a0 (ji10))) * 256)))) + (wrap64 (bt a0 (ji14))))))), (by first | rfl | (simp; done) | (simp only [← hji6, ← hji10, ← hji14] <;> (first | rfl | simp)) | (simp [*]; done)), H', ⟨by have := HK1.out; first | omega | exact Nat.le_refl _⟩, ⟨by (with_reducible repeat (first | apply Kd.R_alloc | apply Kd.R_drewN | apply Kd.R_drew)); exact HO_4.out⟩, ⟨by repeat (first | (with_reducible first | exact HB.out | apply below_alloc | apply pw_below_drewN | apply below_drew1) | exact HB.out)⟩⟩
                        case rest =>
                          clear HC18
                          try clear c1
                          try clear p1
                          try clear q1
                          try clear hx1
                          try clear c2
                          try clear c2b0
                          try clear p2
                          try clear c3
                          try clear c3b0
                          try clear c4
                          try clear c4b0
                          try clear p5
                          try clear q5
                          try clear hx5
                          try clear p6
                          try clear c7
                          try clear c7b0
                          try clear c8
                          try clear c8b0
                          try clear p9
                          try clear q9
                          try clear hx9
                          try clear c11
                          try clear c11b0
                          try clear c12
                          try clear c12b0
                          try clear p13
                          try clear q13
                          try clear hx13
                          try clear c15
                          try clear c15b0
                          try clear c16
                          try clear c16b0
                          try clear c17
                          try clear p17
                          try clear q17
                          try clear hx17
                          try clear c19
                          try clear c19b0
                          try clear p13
                          try clear p17
                          try clear p5
                          try clear p9
                          try clear q13
                          try clear q17
                          try clear q5
                          try clear q9
                          obtain ⟨kq, x50_17, rfl, HA, HJ17, HO_4, HB⟩ := hcut
                          cases kq with
                          | zero => exact absurd HA.out (by simp [ddiref16_Scan.j1])
                          | succ kj17 =>
                            have H := HA.out
                            clear HA
                            simp only [ddiref16_Scan.j1] at H
                            by_cases c20 : x50_17 = true
                            · subst c20
                              have H1 : (some (x4_1, x5_1)) = some (r1, r2) := by rw [if_pos rfl] at H; exact H
                              clear H
                              have H := H1
                              clear H1
                              simp only [Option.some.injEq, Prod.mk.injEq] at H
                              obtain ⟨rfl, rfl⟩ := H
                              go_wp2
                              repeat (go_quiet (fail); try go_wp2)
                              go_ret2
                              exact ⟨_, by first | rfl | (simp [errW_none, errW_some] <;> rfl) | (simp only [← hji6, ← hji10, ← hji14]; first | rfl | (simp [errW_none, errW_some] <;> rfl)) | (simp [*, errW_none, errW_some] <;> rfl), by (with_reducible repeat (first | apply Kd.R_alloc | apply Kd.R_drewN | apply Kd.R_drew)); exact HO_4.out, by repeat (first | (with_reducible first | exact HB.out | apply below_alloc | apply pw_below_drewN | apply below_drew1) | exact HB.out)⟩
                            · replace c20 := Bool.eq_false_iff.mpr c20
                              subst c20
                              have H1 : (if 0 ≤ (wrap64 (x5_1 + 8)) then (if (wrap64 (x5_1 + 8)) ≤ (wrap64 ((wrap64 (x5_1 + 8)) + (wrap64 ((wrap64 ((wrap64 ((wrap64 ((wrap64 (bt a0 x5_1)) * 16777216)) + (wrap64 ((wrap64 (bt a0 (ji6))) * 65536)))) + (wrap64 ((wrap64 (bt a0 (ji10))) * 256)))) + (wrap64 (bt a0 (ji14))))))) then (if (wrap64 ((wrap64 (x5_1 + 8)) + (wrap64 ((wrap64 ((wrap64 ((wrap64 ((wrap64 (bt a0 x5_1)) * 16777216)) + (wrap64 ((wrap64 (bt a0 (ji6))) * 65536)))) + (wrap64 ((wrap64 (bt a0 (ji10))) * 256)))) + (wrap64 (bt a0 (ji14))))))) ≤ (a0.size : Int) then ((ddiref16_Frame.f kj17 (a0.extract ((wrap64 (x5_1 + 8)) : Int).toNat ((wrap64 ((wrap64 (x5_1 + 8)) + (wrap64 ((wrap64 ((wrap64 ((wrap64 ((wrap64 (bt a0 x5_1)) * 16777216)) + (wrap64 ((wrap64 (bt a0 (ji6))) * 65536)))) + (wrap64 ((wrap64 (bt a0 (ji10))) * 256)))) + (wrap64 (bt a0 (ji14))))))) : Int).toNat)).bind fun bt196 => (if 0 ≤ x5_1 then (if x5_1 ≤ (wrap64 ((wrap64 (x5_1 + 8)) + (wrap64 ((wrap64 ((wrap64 ((wrap64 ((wrap64 (bt a0 x5_1)) * 16777216)) + (wrap64 ((wrap64 (bt a0 (ji6))) * 65536)))) + (wrap64 ((wrap64 (bt a0 (ji10))) * 256)))) + (wrap64 (bt a0 (ji14))))))) then (if (a0.extract (x5_1 : Int).toNat ((wrap64 ((wrap64 (x5_1 + 8)) + (wrap64 ((wrap64 ((wrap64 ((wrap64 ((wrap64 (bt a0 x5_1)) * 16777216)) + (wrap64 ((wrap64 (bt a0 (ji6))) * 65536)))) + (wrap64 ((wrap64 (bt a0 (ji10))) * 256)))) + (wrap64 (bt a0 (ji14))))))) : Int).toNat).toList = bt196.1.toList then (if x4_1.length < 8796093022208 then (ddiref16_Scan.l0 kj17 a0 (x4_1 ++ [a0.extract ((wrap64 (x5_1 + 8)) : Int).toNat ((wrap64 ((wrap64 (x5_1 + 8)) + (wrap64 ((wrap64 ((wrap64 ((wrap64 ((wrap64 (bt a0 x5_1)) * 16777216)) + (wrap64 ((wrap64 (bt a0 (ji6))) * 65536)))) + (wrap64 ((wrap64 (bt a0 (ji10))) * 256)))) + (wrap64 (bt a0 (ji14))))))) : Int).toNat]) (wrap64 ((wrap64 (x5_1 + 8)) + (wrap64 ((wrap64 ((wrap64 ((wrap64 ((wrap64 (bt a0 x5_1)) * 16777216)) + (wrap64 ((wrap64 (bt a0 (ji6))) * 65536)))) + (wrap64 ((wrap64 (bt a0 (ji10))) * 256)))) + (wrap64 (bt a0 (ji14)))))))) else (none)) else (some (x4_1, x5_1))) else (none)) else (none))) else (none)) else (none)) else (none)) = some (r1, r2) := by rw [if_neg (show ¬ (false = true) by decide)] at H; exact H
                              clear H
                              have H := H1
                              clear H1
                              obtain ⟨ji21, hji21⟩ : ∃ j_ : Int, (wrap64 (x5_1 + 8)) = j_ := ⟨_, rfl⟩
                              replace H : (if 0 ≤ (ji21) then (if (ji21) ≤ (wrap64 ((ji21) + (wrap64 ((wrap64 ((wrap64 ((wrap64 ((wrap64 (bt a0 x5_1)) * 16777216)) + (wrap64 ((wrap64 (bt a0 (ji6))) * 65536)))) + (wrap64 ((wrap64 (bt a0 (ji10))) * 256)))) + (wrap64 (bt a0 (ji14))))))) then (if (wrap64 ((ji21) + (wrap64 ((wrap64 ((wrap64 ((wrap64 ((wrap64 (bt a0 x5_1)) * 16777216)) + (wrap64 ((wrap64 (bt a0 (ji6))) * 65536)))) + (wrap64 ((wrap64 (bt a0 (ji10))) * 256)))) + (wrap64 (bt a0 (ji14))))))) ≤ (a0.size : Int) then ((ddiref16_Frame.f kj17 (a0.extract ((ji21) : Int).toNat ((wrap64 ((ji21) + (wrap64 ((wrap64 ((wrap64 ((wrap64 ((wrap64 (bt a0 x5_1)) * 16777216)) + (wrap64 ((wrap64 (bt a0 (ji6))) * 65536)))) + (wrap64 ((wrap64 (bt a0 (ji10))) * 256)))) + (wrap64 (bt a0 (ji14))))))) : Int).toNat)).bind fun bt196 => (if 0 ≤ x5_1 then (if x5_1 ≤ (wrap64 ((ji21) + (wrap64 ((wrap64 ((wrap64 ((wrap64 ((wrap64 (bt a0 x5_1)) * 16777216)) + (wrap64 ((wrap64 (bt a0 (ji6))) * 65536)))) + (wrap64 ((wrap64 (bt a0 (ji10))) * 256)))) + (wrap64 (bt a0 (ji14))))))) then (if (a0.extract (x5_1 : Int).toNat ((wrap64 ((ji21) + (wrap64 ((wrap64 ((wrap64 ((wrap64 ((wrap64 (bt a0 x5_1)) * 16777216)) + (wrap64 ((wrap64 (bt a0 (ji6))) * 65536)))) + (wrap64 ((wrap64 (bt a0 (ji10))) * 256)))) + (wrap64 (bt a0 (ji14))))))) : Int).toNat).toList = bt196.1.toList then (if x4_1.length < 8796093022208 then (ddiref16_Scan.l0 kj17 a0 (x4_1 ++ [a0.extract ((ji21) : Int).toNat ((wrap64 ((ji21) + (wrap64 ((wrap64 ((wrap64 ((wrap64 ((wrap64 (bt a0 x5_1)) * 16777216)) + (wrap64 ((wrap64 (bt a0 (ji6))) * 65536)))) + (wrap64 ((wrap64 (bt a0 (ji10))) * 256)))) + (wrap64 (bt a0 (ji14))))))) : Int).toNat]) (wrap64 ((ji21) + (wrap64 ((wrap64 ((wrap64 ((wrap64 ((wrap64 (bt a0 x5_1)) * 16777216)) + (wrap64 ((wrap64 (bt a0 (ji6))) * 65536)))) + (wrap64 ((wrap64 (bt a0 (ji10))) * 256)))) + (wrap64 (bt a0 (ji14)))))))) else (none)) else (some (x4_1, x5_1))) else (none)) else (none))) else (none)) else (none)) else (none)) = some (r1, r2) := by first | (rw [hji21] at H; exact H) | (simp only [hji21] at H ⊢; exact H)
                              have hji21w : (IntKind.i64.wrap (x5_1 + 8)) = ji21 := (i64_w _).trans hji21
                              by_cases c22 : 0 ≤ (ji21)
                              · rw [if_pos c22] at H
                                have c22b0 := eq_true c22
                                have c22b1 : decide (0 ≤ (ji21)) = true := decide_eq_true c22
                                clear c22
                                by_cases c23 : (ji21) ≤ (wrap64 ((ji21) + (wrap64 ((wrap64 ((wrap64 ((wrap64 ((wrap64 (bt a0 x5_1)) * 16777216)) + (wrap64 ((wrap64 (bt a0 (ji6))) * 65536)))) + (wrap64 ((wrap64 (bt a0 (ji10))) * 256)))) + (wrap64 (bt a0 (ji14)))))))
                                · rw [if_pos c23] at H
                                  have c23b0 := eq_true c23
                                  have c23b1 : decide ((ji21) ≤ (wrap64 ((ji21) + (wrap64 ((wrap64 ((wrap64 ((wrap64 ((wrap64 (bt a0 x5_1)) * 16777216)) + (wrap64 ((wrap64 (bt a0 (ji6))) * 65536)))) + (wrap64 ((wrap64 (bt a0 (ji10))) * 256)))) + (wrap64 (bt a0 (ji14)))))))) = true := decide_eq_true c23
                                  by_cases c24 : (wrap64 ((ji21) + (wrap64 ((wrap64 ((wrap64 ((wrap64 ((wrap64 (bt a0 x5_1)) * 16777216)) + (wrap64 ((wrap64 (bt a0 (ji6))) * 65536)))) + (wrap64 ((wrap64 (bt a0 (ji10))) * 256)))) + (wrap64 (bt a0 (ji14))))))) ≤ (a0.size : Int)
                                  · rw [if_pos c24] at H
                                    have c24b0 := eq_true c24
                                    have c24b1 : decide ((wrap64 ((ji21) + (wrap64 ((wrap64 ((wrap64 ((wrap64 ((wrap64 (bt a0 x5_1)) * 16777216)) + (wrap64 ((wrap64 (bt a0 (ji6))) * 65536)))) + (wrap64 ((wrap64 (bt a0 (ji10))) * 256)))) + (wrap64 (bt a0 (ji14))))))) ≤ (a0.size : Int)) = true := decide_eq_true c24
                                    replace H := Option.bind_eq_some_iff.mp H
                                    obtain ⟨⟨t196, t197⟩, A250, H⟩ := H
                                    replace H : (if 0 ≤ x5_1 then (if x5_1 ≤ (wrap64 ((ji21) + (wrap64 ((wrap64 ((wrap64 ((wrap64 ((wrap64 (bt a0 x5_1)) * 16777216)) + (wrap64 ((wrap64 (bt a0 (ji6))) * 65536)))) + (wrap64 ((wrap64 (bt a0 (ji10))) * 256)))) + (wrap64 (bt a0 (ji14))))))) then (if (a0.extract (x5_1 : Int).toNat ((wrap64 ((ji21) + (wrap64 ((wrap64 ((wrap64 ((wrap64 ((wrap64 (bt a0 x5_1)) * 16777216)) + (wrap64 ((wrap64 (bt a0 (ji6))) * 65536)))) + (wrap64 ((wrap64 (bt a0 (ji10))) * 256)))) + (wrap64 (bt a0 (ji14))))))) : Int).toNat).toList = t196.toList then (if x4_1.length < 8796093022208 then (ddiref16_Scan.l0 kj17 a0 (x4_1 ++ [a0.extract ((ji21) : Int).toNat ((wrap64 ((ji21) + (wrap64 ((wrap64 ((wrap64 ((wrap64 ((wrap64 (bt a0 x5_1)) * 16777216)) + (wrap64 ((wrap64 (bt a0 (ji6))) * 65536)))) + (wrap64 ((wrap64 (bt a0 (ji10))) * 256)))) + (wrap64 (bt a0 (ji14))))))) : Int).toNat]) (wrap64 ((ji21) + (wrap64 ((wrap64 ((wrap64 ((wrap64 ((wrap64 (bt a0 x5_1)) * 16777216)) + (wrap64 ((wrap64 (bt a0 (ji6))) * 65536)))) + (wrap64 ((wrap64 (bt a0 (ji10))) * 256)))) + (wrap64 (bt a0 (ji14)))))))) else (none)) else (some (x4_1, x5_1))) else (none)) else (none)) = some (r1, r2) := H
                                    have A25 := Aside0.mk A250
                                    clear A250
                                    by_cases c26 : 0 ≤ x5_1
                                    · rw [if_pos c26] at H
                                      have c26b0 := eq_true c26
                                      have c26b1 : decide (0 ≤ x5_1) = true := decide_eq_true c26
                                      clear c26
                                      by_cases c27 : x5_1 ≤ (wrap64 ((ji21) + (wrap64 ((wrap64 ((wrap64 ((wrap64 ((wrap64 (bt a0 x5_1)) * 16777216)) + (wrap64 ((wrap64 (bt a0 (ji6))) * 65536)))) + (wrap64 ((wrap64 (bt a0 (ji10))) * 256)))) + (wrap64 (bt a0 (ji14)))))))
                                      · rw [if_pos c27] at H
                                        have c27b0 := eq_true c27
                                        have c27b1 : decide (x5_1 ≤ (wrap64 ((ji21) + (wrap64 ((wrap64 ((wrap64 ((wrap64 ((wrap64 (bt a0 x5_1)) * 16777216)) + (wrap64 ((wrap64 (bt a0 (ji6))) * 65536)))) + (wrap64 ((wrap64 (bt a0 (ji10))) * 256)))) + (wrap64 (bt a0 (ji14)))))))) = true := decide_eq_true c27
                                        have c28b0 := eq_true (of_decide_eq_true (by first | (with_reducible assumption) | assumption) : (wrap64 ((ji21) + (wrap64 ((wrap64 ((wrap64 ((wrap64 ((wrap64 (bt a0 x5_1)) * 16777216)) + (wrap64 ((wrap64 (bt a0 (ji6))) * 65536)))) + (wrap64 ((wrap64 (bt a0 (ji10))) * 256)))) + (wrap64 (bt a0 (ji14))))))) ≤ (a0.size : Int))
                                        by_cases c29 : (a0.extract (x5_1 : Int).toNat ((wrap64 ((ji21) + (wrap64 ((wrap64 ((wrap64 ((wrap64 ((wrap64 (bt a0 x5_1)) * 16777216)) + (wrap64 ((wrap64 (bt a0 (ji6))) * 65536)))) + (wrap64 ((wrap64 (bt a0 (ji10))) * 256)))) + (wrap64 (bt a0 (ji14))))))) : Int).toNat).toList = t196.toList
                                        · rw [if_pos c29] at H
                                          have c29b0 : ((a0.extract (x5_1 : Int).toNat ((wrap64 ((ji21) + (wrap64 ((wrap64 ((wrap64 ((wrap64 ((wrap64 (bt a0 x5_1)) * 16777216)) + (wrap64 ((wrap64 (bt a0 (ji6))) * 65536)))) + (wrap64 ((wrap64 (bt a0 (ji10))) * 256)))) + (wrap64 (bt a0 (ji14))))))) : Int).toNat).toList == t196.toList) = true := beq_iff_eq.mpr c29
                                          have c29b1 : ((a0.extract (x5_1 : Int).toNat ((wrap64 ((ji21) + (wrap64 ((wrap64 ((wrap64 ((wrap64 ((wrap64 (bt a0 x5_1)) * 16777216)) + (wrap64 ((wrap64 (bt a0 (ji6))) * 65536)))) + (wrap64 ((wrap64 (bt a0 (ji10))) * 256)))) + (wrap64 (bt a0 (ji14))))))) : Int).toNat).toList != t196.toList) = false := bne_eq_false_iff_eq.mpr c29
                                          clear c29
                                          by_cases c30 : x4_1.length < 8796093022208
                                          · rw [if_pos c30] at H
                                            have LMc30 := Aside0.mk c30
                                            clear c30
                                            obtain ⟨y198, hy198⟩ : ∃ y_ : List ByteArray, y_ = (x4_1 ++ [a0.extract ((ji21) : Int).toNat ((wrap64 ((ji21) + (wrap64 ((wrap64 ((wrap64 ((wrap64 ((wrap64 (bt a0 x5_1)) * 16777216)) + (wrap64 ((wrap64 (bt a0 (ji6))) * 65536)))) + (wrap64 ((wrap64 (bt a0 (ji10))) * 256)))) + (wrap64 (bt a0 (ji14))))))) : Int).toNat]) := ⟨_, rfl⟩
                                            replace H : (ddiref16_Scan.l0 kj17 a0 y198 (wrap64 ((ji21) + (wrap64 ((wrap64 ((wrap64 ((wrap64 ((wrap64 (bt a0 x5_1)) * 16777216)) + (wrap64 ((wrap64 (bt a0 (ji6))) * 65536)))) + (wrap64 ((wrap64 (bt a0 (ji10))) * 256)))) + (wrap64 (bt a0 (ji14)))))))) = some (r1, r2) := by first | (rw [hy198]; with_reducible exact H) | (have H2_ := (Option.bind_some _ _).symm.trans H; rw [hy198]; with_reducible exact H2_) | (have H2_ := (Option.bind_some _ _).symm.trans H; with_reducible exact H2_) | with_reducible exact H | (rw [hy198]; exact H) | exact H
                                            have Ny198 := Aside0.mk hy198
                                            clear hy198
                                            have H' := Aside0.mk H
                                            clear H
                                            go_wp2_with (first | (go_at_call 12; (with_reducible refine (ddiref16_Frame.calls kj17 (a0.extract ((ji21) : Int).toNat ((wrap64 ((ji21) + (wrap64 ((wrap64 ((wrap64 ((wrap64 ((wrap64 (bt a0 x5_1)) * 16777216)) + (wrap64 ((wrap64 (bt a0 (ji6))) * 65536)))) + (wrap64 ((wrap64 (bt a0 (ji10))) * 256)))) + (wrap64 (bt a0 (ji14))))))) : Int).toNat) t196 t197 _ A25.out).mono ?_); rintro e w31 ⟨rfl, hb⟩; have n0_ := Aside0.mk (Kd.R_below (by (with_reducible repeat (first | apply Kd.R_alloc | apply Kd.R_drewN | apply Kd.R_drew)); exact HO_4.out) hb); have n1_ := Aside0.mk (below_step (by repeat (first | (with_reducible first | exact HB.out | apply below_alloc | apply pw_below_drewN | apply below_drew1) | exact HB.out)) hb); clear HO_4; clear HB; have HO_4 := n0_; have HB := n1_; clear n0_ n1_; (try clear hb); (try clear hb2); (try clear hk); (try clear hi)) | ((with_reducible refine gate_builtin (b := .append) (xs := #[.tmp 77, .tmp 79]) rfl ?_); (try (refine gate_guard (by rfl) ?_; dsimp only)); at_builtin; refine Kd.R_append Kd.string (w0 := w) w.heap.size rfl (.tmp 77) (.tmp 79) 30 9 (.string ⟨#[]⟩) 16 rfl Try.underlying30 info9 rfl (by decide) (by omega) u4 x4_1 (a0.extract ((ji21) : Int).toNat ((wrap64 ((ji21) + (wrap64 ((wrap64 ((wrap64 ((wrap64 ((wrap64 (bt a0 x5_1)) * 16777216)) + (wrap64 ((wrap64 (bt a0 (ji6))) * 65536)))) + (wrap64 ((wrap64 (bt a0 (ji10))) * 256)))) + (wrap64 (bt a0 (ji14))))))) : Int).toNat) [.string (a0.extract ((ji21) : Int).toNat ((wrap64 ((ji21) + (wrap64 ((wrap64 ((wrap64 ((wrap64 ((wrap64 (bt a0 x5_1)) * 16777216)) + (wrap64 ((wrap64 (bt a0 (ji6))) * 65536)))) + (wrap64 ((wrap64 (bt a0 (ji10))) * 256)))) + (wrap64 (bt a0 (ji14))))))) : Int).toNat)] (fun _ => True) (fun _ => False) rfl rfl ?aP (fun _ hk => hk.elim) ?aF ?aO ?aB ?aS ?aL ?_; (case aP => exact rfl); (case aB => exact (by repeat (first | (with_reducible first | exact HB.out | apply below_alloc | apply pw_below_drewN | apply below_drew1) | exact HB.out))); (case aF => exact (fun _ _ => trivial)); (case aO => exact (by (with_reducible repeat (first | apply Kd.R_alloc | apply Kd.R_drewN | apply Kd.R_drew)); exact HO_4.out)); (case aS => exact (below_size (by repeat (first | (with_reducible first | exact HB.out | apply below_alloc | apply pw_below_drewN | apply below_drew1) | exact HB.out)))); (case aL => have := LMc30.out; omega); intro v199 w32 ho hb hg hat; rw [← Ny198.out] at ho; have n0_ := Aside0.mk (hb); have n1_ := Aside0.mk (ho); clear HB; clear HO_4; have HB := n0_; have HO200 := n1_; clear n0_ n1_; clear ho hb hg hat))
                                            repeat (go_quiet (first | (go_at_call 12; (with_reducible refine (ddiref16_Frame.calls kj17 (a0.extract ((ji21) : Int).toNat ((wrap64 ((ji21) + (wrap64 ((wrap64 ((wrap64 ((wrap64 ((wrap64 (bt a0 x5_1)) * 16777216)) + (wrap64 ((wrap64 (bt a0 (ji6))) * 65536)))) + (wrap64 ((wrap64 (bt a0 (ji10))) * 256)))) + (wrap64 (bt a0 (ji14))))))) : Int).toNat) t196 t197 _ A25.out).mono ?_); rintro e w31 ⟨rfl, hb⟩; have n0_ := Aside0.mk (Kd.R_below (by (with_reducible repeat (first | apply Kd.R_alloc | apply Kd.R_drewN | apply Kd.R_drew)); exact HO_4.out) hb); have n1_ := Aside0.mk (below_step (by repeat (first | (with_reducible first | exact HB.out | apply below_alloc | apply pw_below_drewN | apply below_drew1) | exact HB.out)) hb); clear HO_4; clear HB; have HO_4 := n0_; have HB := n1_; clear n0_ n1_; (try clear hb); (try clear hb2); (try clear hk); (try clear hi)) | ((with_reducible refine gate_builtin (b := .append) (xs := #[.tmp 77, .tmp 79]) rfl ?_); (try (refine gate_guard (by rfl) ?_; dsimp only)); at_builtin; refine Kd.R_append Kd.string (w0 := w) w.heap.size rfl (.tmp 77) (.tmp 79) 30 9 (.string ⟨#[]⟩) 16 rfl Try.underlying30 info9 rfl (by decide) (by omega) u4 x4_1 (a0.extract ((ji21) : Int).toNat ((wrap64 ((ji21) + (wrap64 ((wrap64 ((wrap64 ((wrap64 ((wrap64 (bt a0 x5_1)) * 16777216)) + (wrap64 ((wrap64 (bt a0 (ji6))) * 65536)))) + (wrap64 ((wrap64 (bt a0 (ji10))) * 256)))) + (wrap64 (bt a0 (ji14))))))) : Int).toNat) [.string (a0.extract ((ji21) : Int).toNat ((wrap64 ((ji21) + (wrap64 ((wrap64 ((wrap64 ((wrap64 ((wrap64 (bt a0 x5_1)) * 16777216)) + (wrap64 ((wrap64 (bt a0 (ji6))) * 65536)))) + (wrap64 ((wrap64 (bt a0 (ji10))) * 256)))) + (wrap64 (bt a0 (ji14))))))) : Int).toNat)] (fun _ => True) (fun _ => False) rfl rfl ?aP (fun _ hk => hk.elim) ?aF ?aO ?aB ?aS ?aL ?_; (case aP => exact rfl); (case aB => exact (by repeat (first | (with_reducible first | exact HB.out | apply below_alloc | apply pw_below_drewN | apply below_drew1) | exact HB.out))); (case aF => exact (fun _ _ => trivial)); (case aO => exact (by (with_reducible repeat (first | apply Kd.R_alloc | apply Kd.R_drewN | apply Kd.R_drew)); exact HO_4.out)); (case aS => exact (below_size (by repeat (first | (with_reducible first | exact HB.out | apply below_alloc | apply pw_below_drewN | apply below_drew1) | exact HB.out)))); (case aL => have := LMc30.out; omega); intro v199 w32 ho hb hg hat; rw [← Ny198.out] at ho; have n0_ := Aside0.mk (hb); have n1_ := Aside0.mk (ho); clear HB; clear HO_4; have HB := n0_; have HO200 := n1_; clear n0_ n1_; clear ho hb hg hat)); try go_wp2_with (first | (go_at_call 12; (with_reducible refine (ddiref16_Frame.calls kj17 (a0.extract ((ji21) : Int).toNat ((wrap64 ((ji21) + (wrap64 ((wrap64 ((wrap64 ((wrap64 ((wrap64 (bt a0 x5_1)) * 16777216)) + (wrap64 ((wrap64 (bt a0 (ji6))) * 65536)))) + (wrap64 ((wrap64 (bt a0 (ji10))) * 256)))) + (wrap64 (bt a0 (ji14))))))) : Int).toNat) t196 t197 _ A25.out).mono ?_); rintro e w31 ⟨rfl, hb⟩; have n0_ := Aside0.mk (Kd.R_below (by (with_reducible repeat (first | apply Kd.R_alloc | apply Kd.R_drewN | apply Kd.R_drew)); exact HO_4.out) hb); have n1_ := Aside0.mk (below_step (by repeat (first | (with_reducible first | exact HB.out | apply below_alloc | apply pw_below_drewN | apply below_drew1) | exact HB.out)) hb); clear HO_4; clear HB; have HO_4 := n0_; have HB := n1_; clear n0_ n1_; (try clear hb); (try clear hb2); (try clear hk); (try clear hi)) | ((with_reducible refine gate_builtin (b := .append) (xs := #[.tmp 77, .tmp 79]) rfl ?_); (try (refine gate_guard (by rfl) ?_; dsimp only)); at_builtin; refine Kd.R_append Kd.string (w0 := w) w.heap.size rfl (.tmp 77) (.tmp 79) 30 9 (.string ⟨#[]⟩) 16 rfl Try.underlying30 info9 rfl (by decide) (by omega) u4 x4_1 (a0.extract ((ji21) : Int).toNat ((wrap64 ((ji21) + (wrap64 ((wrap64 ((wrap64 ((wrap64 ((wrap64 (bt a0 x5_1)) * 16777216)) + (wrap64 ((wrap64 (bt a0 (ji6))) * 65536)))) + (wrap64 ((wrap64 (bt a0 (ji10))) * 256)))) + (wrap64 (bt a0 (ji14))))))) : Int).toNat) [.string (a0.extract ((ji21) : Int).toNat ((wrap64 ((ji21) + (wrap64 ((wrap64 ((wrap64 ((wrap64 ((wrap64 (bt a0 x5_1)) * 16777216)) + (wrap64 ((wrap64 (bt a0 (ji6))) * 65536)))) + (wrap64 ((wrap64 (bt a0 (ji10))) * 256)))) + (wrap64 (bt a0 (ji14))))))) : Int).toNat)] (fun _ => True) (fun _ => False) rfl rfl ?aP (fun _ hk => hk.elim) ?aF ?aO ?aB ?aS ?aL ?_; (case aP => exact rfl); (case aB => exact (by repeat (first | (with_reducible first | exact HB.out | apply below_alloc | apply pw_below_drewN | apply below_drew1) | exact HB.out))); (case aF => exact (fun _ _ => trivial)); (case aO => exact (by (with_reducible repeat (first | apply Kd.R_alloc | apply Kd.R_drewN | apply Kd.R_drew)); exact HO_4.out)); (case aS => exact (below_size (by repeat (first | (with_reducible first | exact HB.out | apply below_alloc | apply pw_below_drewN | apply below_drew1) | exact HB.out)))); (case aL => have := LMc30.out; omega); intro v199 w32 ho hb hg hat; rw [← Ny198.out] at ho; have n0_ := Aside0.mk (hb); have n1_ := Aside0.mk (ho); clear HB; clear HO_4; have HB := n0_; have HO200 := n1_; clear n0_ n1_; clear ho hb hg hat)))
                                            go_roundg kj17
                                            case measure => have := HK1.out; have := HJ17.out; omega
                                            case rel => exact ⟨(y198), (wrap64 ((ji21) + (wrap64 ((wrap64 ((wrap64 ((wrap64 ((wrap64 (bt a0 x5_1)) * 16777216)) + (wrap64 ((wrap64 (bt a0 (ji6))) * 65536)))) + (wrap64 ((wrap64 (bt a0 (ji10))) * 256)))) + (wrap64 (bt a0 (ji14))))))), (by first | rfl | (simp; done) | (simp only [← hji6, ← hji10, ← hji14, ← hji21] <;> (first | rfl | simp)) | (simp [*]; done)), H', ⟨by have := HK1.out; have := HJ17.out; omega⟩, ⟨by (with_reducible repeat (first | apply Kd.R_alloc | apply Kd.R_drewN | apply Kd.R_drew)); exact HO200.out⟩, ⟨by repeat (first | (with_reducible first | exact HB.out | apply below_alloc | apply pw_below_drewN | apply below_drew1) | exact HB.out)⟩⟩
                                          · rw [if_neg c30] at H
                                            exact absurd H (by simp)
                                        · rw [if_neg c29] at H
                                          have c29b0 : ((a0.extract (x5_1 : Int).toNat ((wrap64 ((ji21) + (wrap64 ((wrap64 ((wrap64 ((wrap64 ((wrap64 (bt a0 x5_1)) * 16777216)) + (wrap64 ((wrap64 (bt a0 (ji6))) * 65536)))) + (wrap64 ((wrap64 (bt a0 (ji10))) * 256)))) + (wrap64 (bt a0 (ji14))))))) : Int).toNat).toList == t196.toList) = false := beq_eq_false_iff_ne.mpr c29
                                          have c29b1 : ((a0.extract (x5_1 : Int).toNat ((wrap64 ((ji21) + (wrap64 ((wrap64 ((wrap64 ((wrap64 ((wrap64 (bt a0 x5_1)) * 16777216)) + (wrap64 ((wrap64 (bt a0 (ji6))) * 65536)))) + (wrap64 ((wrap64 (bt a0 (ji10))) * 256)))) + (wrap64 (bt a0 (ji14))))))) : Int).toNat).toList != t196.toList) = true := bne_iff_ne.mpr c29
                                          simp only [Option.some.injEq, Prod.mk.injEq] at H
                                          obtain ⟨rfl, rfl⟩ := H
                                          go_wp2_with (first | (go_at_call 12; (with_reducible refine (ddiref16_Frame.calls kj17 (a0.extract ((ji21) : Int).toNat ((wrap64 ((ji21) + (wrap64 ((wrap64 ((wrap64 ((wrap64 ((wrap64 (bt a0 x5_1)) * 16777216)) + (wrap64 ((wrap64 (bt a0 (ji6))) * 65536)))) + (wrap64 ((wrap64 (bt a0 (ji10))) * 256)))) + (wrap64 (bt a0 (ji14))))))) : Int).toNat) t196 t197 _ A25.out).mono ?_); rintro e w33 ⟨rfl, hb⟩; have n0_ := Aside0.mk (Kd.R_below (by (with_reducible repeat (first | apply Kd.R_alloc | apply Kd.R_drewN | apply Kd.R_drew)); exact HO_4.out) hb); have n1_ := Aside0.mk (below_step (by repeat (first | (with_reducible first | exact HB.out | apply below_alloc | apply pw_below_drewN | apply below_drew1) | exact HB.out)) hb); clear HO_4; clear HB; have HO_4 := n0_; have HB := n1_; clear n0_ n1_; (try clear hb); (try clear hb2); (try clear hk); (try clear hi)))
                                          repeat (go_quiet (first | (go_at_call 12; (with_reducible refine (ddiref16_Frame.calls kj17 (a0.extract ((ji21) : Int).toNat ((wrap64 ((ji21) + (wrap64 ((wrap64 ((wrap64 ((wrap64 ((wrap64 (bt a0 x5_1)) * 16777216)) + (wrap64 ((wrap64 (bt a0 (ji6))) * 65536)))) + (wrap64 ((wrap64 (bt a0 (ji10))) * 256)))) + (wrap64 (bt a0 (ji14))))))) : Int).toNat) t196 t197 _ A25.out).mono ?_); rintro e w33 ⟨rfl, hb⟩; have n0_ := Aside0.mk (Kd.R_below (by (with_reducible repeat (first | apply Kd.R_alloc | apply Kd.R_drewN | apply Kd.R_drew)); exact HO_4.out) hb); have n1_ := Aside0.mk (below_step (by repeat (first | (with_reducible first | exact HB.out | apply below_alloc | apply pw_below_drewN | apply below_drew1) | exact HB.out)) hb); clear HO_4; clear HB; have HO_4 := n0_; have HB := n1_; clear n0_ n1_; (try clear hb); (try clear hb2); (try clear hk); (try clear hi))); try go_wp2_with (first | (go_at_call 12; (with_reducible refine (ddiref16_Frame.calls kj17 (a0.extract ((ji21) : Int).toNat ((wrap64 ((ji21) + (wrap64 ((wrap64 ((wrap64 ((wrap64 ((wrap64 (bt a0 x5_1)) * 16777216)) + (wrap64 ((wrap64 (bt a0 (ji6))) * 65536)))) + (wrap64 ((wrap64 (bt a0 (ji10))) * 256)))) + (wrap64 (bt a0 (ji14))))))) : Int).toNat) t196 t197 _ A25.out).mono ?_); rintro e w33 ⟨rfl, hb⟩; have n0_ := Aside0.mk (Kd.R_below (by (with_reducible repeat (first | apply Kd.R_alloc | apply Kd.R_drewN | apply Kd.R_drew)); exact HO_4.out) hb); have n1_ := Aside0.mk (below_step (by repeat (first | (with_reducible first | exact HB.out | apply below_alloc | apply pw_below_drewN | apply below_drew1) | exact HB.out)) hb); clear HO_4; clear HB; have HO_4 := n0_; have HB := n1_; clear n0_ n1_; (try clear hb); (try clear hb2); (try clear hk); (try clear hi))))
                                          go_ret2
                                          exact ⟨_, by first | rfl | (simp [errW_none, errW_some] <;> rfl) | (simp only [← hji6, ← hji10, ← hji14, ← hji21]; first | rfl | (simp [errW_none, errW_some] <;> rfl)) | (simp [*, errW_none, errW_some] <;> rfl), by (with_reducible repeat (first | apply Kd.R_alloc | apply Kd.R_drewN | apply Kd.R_drew)); exact HO_4.out, by repeat (first | (with_reducible first | exact HB.out | apply below_alloc | apply pw_below_drewN | apply below_drew1) | exact HB.out)⟩
                                      · rw [if_neg c27] at H
                                        exact absurd H (by simp)
                                    · rw [if_neg c26] at H
                                      exact absurd H (by simp)
                                  · rw [if_neg c24] at H
                                    exact absurd H (by simp)
                                · rw [if_neg c23] at H
                                  exact absurd H (by simp)
                              · rw [if_neg c22] at H
                                exact absurd H (by simp)
                      · rw [if_neg c16] at H
                        exact absurd H (by simp)
                    · rw [if_neg c15] at H
                      exact absurd H (by simp)
                  · rw [if_neg c12] at H
                    exact absurd H (by simp)
                · rw [if_neg c11] at H
                  exact absurd H (by simp)
              · rw [if_neg c8] at H
                exact absurd H (by simp)
            · rw [if_neg c7] at H
              exact absurd H (by simp)
          · rw [if_neg c4] at H
            exact absurd H (by simp)
        · rw [if_neg c3] at H
          exact absurd H (by simp)
      · rw [if_neg c2] at H
        have c2b0 : decide (8 ≤ (wrap64 ((a0.size : Int) - x5_1))) = false := decide_eq_false c2
        clear c2
        simp only [Option.some.injEq, Prod.mk.injEq] at H
        obtain ⟨rfl, rfl⟩ := H
        go_wp2
        repeat (go_quiet (fail); try go_wp2)
        go_ret2
        exact ⟨_, by first | rfl | (simp [errW_none, errW_some] <;> rfl) | (simp [*, errW_none, errW_some] <;> rfl), by (with_reducible repeat (first | apply Kd.R_alloc | apply Kd.R_drewN | apply Kd.R_drew)); exact HO_4.out, by repeat (first | (with_reducible first | exact HB.out | apply below_alloc | apply pw_below_drewN | apply below_drew1) | exact HB.out)⟩

end Go.Proofs.Ytmeamllhhgcpgaa.QA
