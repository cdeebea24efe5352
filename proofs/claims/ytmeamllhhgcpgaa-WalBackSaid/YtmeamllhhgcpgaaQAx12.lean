-- Written by this session's own program (wip/xprint) out of the translation; Lean checks it.
import Derived.Test.YtmeamllhhgcpgaaQAx0
import Derived.Test.YtmeamllhhgcpgaaQAx2
import Derived.Test.YtmeamllhhgcpgaaQAx5
import Derived.Test.YtmeamllhhgcpgaaQAx7
import Derived.Test.YtmeamllhhgcpgaaQAx10
namespace Go.Proofs.Ytmeamllhhgcpgaa.QA
open Go.RowKit Go.Proofs.YtmeamllhhgcpgaaW.PrintWords Go.Proofs.YtmeamllhhgcpgaaW.PrintLast Go.Proofs.YtmeamllhhgcpgaaW.PrintMore
attribute [local go_sem] max2_int min2_int max_two min_two max_three min_three max_four min_four   -- for this text's walks alone
attribute [local go_sem high] Go.Proofs.Ytmeamllhhgcpgaa.XW.cell_setCell_lit
set_option linter.unusedVariables false
set_option linter.unusedSimpArgs false

/-! ### ddilaw16_WalBack: function 6 -/
mutual
def ddilaw16_WalBack.l0 : Nat → List ByteArray → ByteArray → Int → List ByteArray → List Int → ByteArray → Int → Option (Bool)
  | 0, _, _, _, _, _, _, _ => none
  | k + 1, x0, x1, x2, x7, x8, x9, x10 => if x10 < (x0.length : Int) then (ddilaw16_WalBack.j1 k x0 x1 x2 x7 x8 x9 x10 (decide (x10 < 20))) else (ddilaw16_WalBack.j1 k x0 x1 x2 x7 x8 x9 x10 false)
def ddilaw16_WalBack.j1 : Nat → List ByteArray → ByteArray → Int → List ByteArray → List Int → ByteArray → Int → Bool → Option (Bool)
  | 0, _, _, _, _, _, _, _, _ => none
  | k + 1, x0, x1, x2, x7, x8, x9, x10, x26 => if x26 = true then (if 0 ≤ x10 then (if x10 < (x0.length : Int) then ((ddilaw16_cut.f (rdOf ByteArray.empty x0 x10) 200).bind fun t230 => (if x7.length < 8796093022208 then ((some (x7 ++ [t230] : List ByteArray)).bind fun y231 => (if x10 < (y231.length : Int) then ((wal_Frame.f k (rdOf ByteArray.empty y231 x10)).bind fun bt235 => (if bt235.2 = 0 then (ddilaw16_WalBack.j2 k x0 x1 x2 y231 x8 x9 x10 bt235.1 ((bt235.1.size : Int) != (wrap64 (((rdOf ByteArray.empty y231 x10).size : Int) + 8)))) else (ddilaw16_WalBack.j2 k x0 x1 x2 y231 x8 x9 x10 bt235.1 true))) else (none))) else (none))) else (none)) else (none)) else ((ddilaw16_cut.f x1 7).bind fun t241 => (if x9.size + t241.size ≤ 9223372036854775807 then ((wal_Scan.f k (x9 ++ t241)).bind fun bt242 => ((ddilaw16_texts.f k bt242.1 x7).bind fun t246 => (if t246 = true then (ddilaw16_WalBack.j3 k x2 x7 x8 x9 (bt242.2 != (x9.size : Int))) else (ddilaw16_WalBack.j3 k x2 x7 x8 x9 true)))) else (none)))
def ddilaw16_WalBack.j2 : Nat → List ByteArray → ByteArray → Int → List ByteArray → List Int → ByteArray → Int → ByteArray → Bool → Option (Bool)
  | 0, _, _, _, _, _, _, _, _, _ => none
  | k + 1, x0, x1, x2, x7, x8, x9, x10, x11, x57 => if x57 = true then (some false) else (if x9.size + x11.size ≤ 9223372036854775807 then (if x8.length < 17592186044416 then (ddilaw16_WalBack.l0 k x0 x1 x2 x7 (x8 ++ [(x9.size : Int) + (x11.size : Int)]) (x9 ++ x11) (wrap64 (x10 + 1))) else (none)) else (none))
def ddilaw16_WalBack.j3 : Nat → Int → List ByteArray → List Int → ByteArray → Bool → Option (Bool)
  | 0, _, _, _, _, _ => none
  | k + 1, x2, x7, x8, x9, x83 => if x83 = true then (some false) else (if (IntKind.u64.wrap (wrap64 ((x9.size : Int) + 1))) = 0 then (none) else (if 0 ≤ (wrap64 (Int.tmod (IntKind.u64.wrap (x2)) (IntKind.u64.wrap (wrap64 ((x9.size : Int) + 1))))) then (if (wrap64 (Int.tmod (IntKind.u64.wrap (x2)) (IntKind.u64.wrap (wrap64 ((x9.size : Int) + 1))))) ≤ (x9.size : Int) then ((wal_Scan.f k (x9.extract 0 ((wrap64 (Int.tmod (IntKind.u64.wrap (x2)) (IntKind.u64.wrap (wrap64 ((x9.size : Int) + 1))))) : Int).toNat)).bind fun bt247 => (ddilaw16_WalBack.l1 k x7 x8 bt247.2 (wrap64 (Int.tmod (IntKind.u64.wrap (x2)) (IntKind.u64.wrap (wrap64 ((x9.size : Int) + 1))))) bt247.1 0 (x8.length : Int) 0)) else (none)) else (none)))
def ddilaw16_WalBack.l1 : Nat → List ByteArray → List Int → Int → Int → List ByteArray → Int → Int → Int → Option (Bool)
  | 0, _, _, _, _, _, _, _, _ => none
  | k + 1, x7, x8, x14, x15, x16, x17, x100, x101 => if x101 < x100 then (if 0 ≤ x101 then (if x101 < (x8.length : Int) then (if (rd x8 x101) ≤ x15 then (ddilaw16_WalBack.l1 k x7 x8 x14 x15 x16 (wrap64 (x101 + 1)) x100 (wrap64 (x101 + 1))) else (ddilaw16_WalBack.l1 k x7 x8 x14 x15 x16 x17 x100 (wrap64 (x101 + 1)))) else (none)) else (none)) else (if 0 ≤ x17 then (if x17 ≤ (x7.length : Int) then ((ddilaw16_texts.f k x16 (x7.take (x17 : Int).toNat)).bind fun t256 => (if t256 = true then (if x14 ≤ x15 then ((ddilaw16_awake.f k).bind fun t257 => (some t257)) else (some false)) else (some false))) else (none)) else (none))
end
def ddilaw16_WalBack.f (k : Nat) (l0 : List ByteArray) (a1 : ByteArray) (a2 : Int) : Option (Bool) := ddilaw16_WalBack.l0 k l0 a1 a2 ([] : List ByteArray) ([] : List Int) (⟨#[]⟩ : ByteArray) 0
theorem ddilaw16_WalBack.mono_l : ∀ k, (∀ y0 y1 y2 y3 y4 y5 y6, LeO (ddilaw16_WalBack.l0 k y0 y1 y2 y3 y4 y5 y6) (ddilaw16_WalBack.l0 (k + 1) y0 y1 y2 y3 y4 y5 y6)) ∧ (∀ y0 y1 y2 y3 y4 y5 y6 y7, LeO (ddilaw16_WalBack.j1 k y0 y1 y2 y3 y4 y5 y6 y7) (ddilaw16_WalBack.j1 (k + 1) y0 y1 y2 y3 y4 y5 y6 y7)) ∧ (∀ y0 y1 y2 y3 y4 y5 y6 y7 y8, LeO (ddilaw16_WalBack.j2 k y0 y1 y2 y3 y4 y5 y6 y7 y8) (ddilaw16_WalBack.j2 (k + 1) y0 y1 y2 y3 y4 y5 y6 y7 y8)) ∧ (∀ y0 y1 y2 y3 y4, LeO (ddilaw16_WalBack.j3 k y0 y1 y2 y3 y4) (ddilaw16_WalBack.j3 (k + 1) y0 y1 y2 y3 y4)) ∧ (∀ y0 y1 y2 y3 y4 y5 y6 y7, LeO (ddilaw16_WalBack.l1 k y0 y1 y2 y3 y4 y5 y6 y7) (ddilaw16_WalBack.l1 (k + 1) y0 y1 y2 y3 y4 y5 y6 y7))
  | 0 => ⟨fun _ _ _ _ _ _ _ r h => by simp [ddilaw16_WalBack.l0] at h, fun _ _ _ _ _ _ _ _ r h => by simp [ddilaw16_WalBack.j1] at h, fun _ _ _ _ _ _ _ _ _ r h => by simp [ddilaw16_WalBack.j2] at h, fun _ _ _ _ _ r h => by simp [ddilaw16_WalBack.j3] at h, fun _ _ _ _ _ _ _ _ r h => by simp [ddilaw16_WalBack.l1] at h⟩
  | k + 1 => by
    obtain ⟨ih0, ih1, ih2, ih3, ih4⟩ := ddilaw16_WalBack.mono_l k
    refine ⟨?_, ?_, ?_, ?_, ?_⟩
    · intro y0 y1 y2 y3 y4 y5 y6
      unfold ddilaw16_WalBack.l0
      repeat' first
      | (with_reducible exact ih0 _ _ _ _ _ _ _)
      | (with_reducible exact ih1 _ _ _ _ _ _ _ _)
      | (with_reducible exact ih2 _ _ _ _ _ _ _ _ _)
      | (with_reducible exact ih3 _ _ _ _ _)
      | (with_reducible exact ih4 _ _ _ _ _ _ _ _)
      | (with_reducible exact ddilaw16_awake.mono _)
      | (with_reducible exact ddilaw16_texts.mono _ _ _)
      | (with_reducible exact wal_Frame.mono _ _)
      | (with_reducible exact wal_Scan.mono _ _)
      | (with_reducible exact LeO.refl _)
      | (with_reducible exact LeO.none _)
      | (with_reducible refine LeO.ite ?_ ?_)
      | (with_reducible refine LeO.bind ?_ (fun _ => ?_))
      | exact ih0 _ _ _ _ _ _ _
      | exact ih1 _ _ _ _ _ _ _ _
      | exact ih2 _ _ _ _ _ _ _ _ _
      | exact ih3 _ _ _ _ _
      | exact ih4 _ _ _ _ _ _ _ _
      | exact ddilaw16_awake.mono _
      | exact ddilaw16_texts.mono _ _ _
      | exact wal_Frame.mono _ _
      | exact wal_Scan.mono _ _
      | exact LeO.none _
      | refine LeO.ite ?_ ?_
      | refine LeO.bind ?_ (fun _ => ?_)
    · intro y0 y1 y2 y3 y4 y5 y6 y7
      unfold ddilaw16_WalBack.j1
      repeat' first
      | (with_reducible exact ih0 _ _ _ _ _ _ _)
      | (with_reducible exact ih1 _ _ _ _ _ _ _ _)
      | (with_reducible exact ih2 _ _ _ _ _ _ _ _ _)
      | (with_reducible exact ih3 _ _ _ _ _)
      | (with_reducible exact ih4 _ _ _ _ _ _ _ _)
      | (with_reducible exact ddilaw16_awake.mono _)
      | (with_reducible exact ddilaw16_texts.mono _ _ _)
      | (with_reducible exact wal_Frame.mono _ _)
      | (with_reducible exact wal_Scan.mono _ _)
      | (with_reducible exact LeO.refl _)
      | (with_reducible exact LeO.none _)
      | (with_reducible refine LeO.ite ?_ ?_)
      | (with_reducible refine LeO.bind ?_ (fun _ => ?_))
      | exact ih0 _ _ _ _ _ _ _
      | exact ih1 _ _ _ _ _ _ _ _
      | exact ih2 _ _ _ _ _ _ _ _ _
      | exact ih3 _ _ _ _ _
      | exact ih4 _ _ _ _ _ _ _ _
      | exact ddilaw16_awake.mono _
      | exact ddilaw16_texts.mono _ _ _
      | exact wal_Frame.mono _ _
      | exact wal_Scan.mono _ _
      | exact LeO.none _
      | refine LeO.ite ?_ ?_
      | refine LeO.bind ?_ (fun _ => ?_)
    · intro y0 y1 y2 y3 y4 y5 y6 y7 y8
      unfold ddilaw16_WalBack.j2
      repeat' first
      | (with_reducible exact ih0 _ _ _ _ _ _ _)
      | (with_reducible exact ih1 _ _ _ _ _ _ _ _)
      | (with_reducible exact ih2 _ _ _ _ _ _ _ _ _)
      | (with_reducible exact ih3 _ _ _ _ _)
      | (with_reducible exact ih4 _ _ _ _ _ _ _ _)
      | (with_reducible exact ddilaw16_awake.mono _)
      | (with_reducible exact ddilaw16_texts.mono _ _ _)
      | (with_reducible exact wal_Frame.mono _ _)
      | (with_reducible exact wal_Scan.mono _ _)
      | (with_reducible exact LeO.refl _)
      | (with_reducible exact LeO.none _)
      | (with_reducible refine LeO.ite ?_ ?_)
      | (with_reducible refine LeO.bind ?_ (fun _ => ?_))
      | exact ih0 _ _ _ _ _ _ _
      | exact ih1 _ _ _ _ _ _ _ _
      | exact ih2 _ _ _ _ _ _ _ _ _
      | exact ih3 _ _ _ _ _
      | exact ih4 _ _ _ _ _ _ _ _
      | exact ddilaw16_awake.mono _
      | exact ddilaw16_texts.mono _ _ _
      | exact wal_Frame.mono _ _
      | exact wal_Scan.mono _ _
      | exact LeO.none _
      | refine LeO.ite ?_ ?_
      | refine LeO.bind ?_ (fun _ => ?_)
    · intro y0 y1 y2 y3 y4
      unfold ddilaw16_WalBack.j3
      repeat' first
      | (with_reducible exact ih0 _ _ _ _ _ _ _)
      | (with_reducible exact ih1 _ _ _ _ _ _ _ _)
      | (with_reducible exact ih2 _ _ _ _ _ _ _ _ _)
      | (with_reducible exact ih3 _ _ _ _ _)
      | (with_reducible exact ih4 _ _ _ _ _ _ _ _)
      | (with_reducible exact ddilaw16_awake.mono _)
      | (with_reducible exact ddilaw16_texts.mono _ _ _)
      | (with_reducible exact wal_Frame.mono _ _)
      | (with_reducible exact wal_Scan.mono _ _)
      | (with_reducible exact LeO.refl _)
      | (with_reducible exact LeO.none _)
      | (with_reducible refine LeO.ite ?_ ?_)
      | (with_reducible refine LeO.bind ?_ (fun _ => ?_))
      | exact ih0 _ _ _ _ _ _ _
      | exact ih1 _ _ _ _ _ _ _ _
      | exact ih2 _ _ _ _ _ _ _ _ _
      | exact ih3 _ _ _ _ _
      | exact ih4 _ _ _ _ _ _ _ _
      | exact ddilaw16_awake.mono _
      | exact ddilaw16_texts.mono _ _ _
      | exact wal_Frame.mono _ _
      | exact wal_Scan.mono _ _
      | exact LeO.none _
      | refine LeO.ite ?_ ?_
      | refine LeO.bind ?_ (fun _ => ?_)
    · intro y0 y1 y2 y3 y4 y5 y6 y7
      unfold ddilaw16_WalBack.l1
      repeat' first
      | (with_reducible exact ih0 _ _ _ _ _ _ _)
      | (with_reducible exact ih1 _ _ _ _ _ _ _ _)
      | (with_reducible exact ih2 _ _ _ _ _ _ _ _ _)
      | (with_reducible exact ih3 _ _ _ _ _)
      | (with_reducible exact ih4 _ _ _ _ _ _ _ _)
      | (with_reducible exact ddilaw16_awake.mono _)
      | (with_reducible exact ddilaw16_texts.mono _ _ _)
      | (with_reducible exact wal_Frame.mono _ _)
      | (with_reducible exact wal_Scan.mono _ _)
      | (with_reducible exact LeO.refl _)
      | (with_reducible exact LeO.none _)
      | (with_reducible refine LeO.ite ?_ ?_)
      | (with_reducible refine LeO.bind ?_ (fun _ => ?_))
      | exact ih0 _ _ _ _ _ _ _
      | exact ih1 _ _ _ _ _ _ _ _
      | exact ih2 _ _ _ _ _ _ _ _ _
      | exact ih3 _ _ _ _ _
      | exact ih4 _ _ _ _ _ _ _ _
      | exact ddilaw16_awake.mono _
      | exact ddilaw16_texts.mono _ _ _
      | exact wal_Frame.mono _ _
      | exact wal_Scan.mono _ _
      | exact LeO.none _
      | refine LeO.ite ?_ ?_
      | refine LeO.bind ?_ (fun _ => ?_)
theorem ddilaw16_WalBack.mono : ∀ a0 a1 a2 k, LeO (ddilaw16_WalBack.f k a0 a1 a2) (ddilaw16_WalBack.f (k + 1) a0 a1 a2) := by
  intro a0 a1 a2 k
  obtain ⟨ih0, ih1, ih2, ih3, ih4⟩ := ddilaw16_WalBack.mono_l k
  unfold ddilaw16_WalBack.f
  repeat' first
      | (with_reducible exact ih0 _ _ _ _ _ _ _)
      | (with_reducible exact ih1 _ _ _ _ _ _ _ _)
      | (with_reducible exact ih2 _ _ _ _ _ _ _ _ _)
      | (with_reducible exact ih3 _ _ _ _ _)
      | (with_reducible exact ih4 _ _ _ _ _ _ _ _)
      | (with_reducible exact ddilaw16_awake.mono _)
      | (with_reducible exact ddilaw16_texts.mono _ _ _)
      | (with_reducible exact wal_Frame.mono _ _)
      | (with_reducible exact wal_Scan.mono _ _)
      | (with_reducible exact LeO.refl _)
      | (with_reducible exact LeO.none _)
      | (with_reducible refine LeO.ite ?_ ?_)
      | (with_reducible refine LeO.bind ?_ (fun _ => ?_))
      | exact ih0 _ _ _ _ _ _ _
      | exact ih1 _ _ _ _ _ _ _ _
      | exact ih2 _ _ _ _ _ _ _ _ _
      | exact ih3 _ _ _ _ _
      | exact ih4 _ _ _ _ _ _ _ _
      | exact ddilaw16_awake.mono _
      | exact ddilaw16_texts.mono _ _ _
      | exact wal_Frame.mono _ _
      | exact wal_Scan.mono _ _
      | exact LeO.none _
      | refine LeO.ite ?_ ?_
      | refine LeO.bind ?_ (fun _ => ?_)
set_option maxHeartbeats 8000000 in
set_option maxRecDepth 100000 in
theorem ddilaw16_WalBack.calls (k : Nat) (A0 : Option Addr) (c0 : Nat) (l0 : List ByteArray) (a1 : ByteArray) (a2 : Int) (r : Bool) (w : World) (hr0 : Kd.C Kd.string w A0 l0.length l0) (hc0 : l0.length ≤ c0) (h : ddilaw16_WalBack.f k l0 a1 a2 = some r) :
    Calls Try.prog 6 #[.slice A0 l0.length c0, .string a1, .int .i64 a2] w fun e w' => e = .returned (.bool r) ∧ Below w.heap.size w w' := by
  have HR0 := Aside0.mk hr0
  have HC0 := Aside0.mk hc0
  clear hr0 hc0
  have HB := Aside0.mk (Below.refl w.heap.size w)
  have H : (ddilaw16_WalBack.l0 k l0 a1 a2 ([] : List ByteArray) ([] : List Int) (⟨#[]⟩ : ByteArray) 0) = some r := h
  clear h
  have H' := Aside0.mk H
  clear H
  go_enter Try.func6, Try.ntmps6
  go_wp2
  go_loopg [7, 8, 9, 10] k (fun kq v7 v8 v9 v10 w' => ∃ (x7_1 : List ByteArray) (x8_1 : List Int) (x9_1 : ByteArray) (x10_1 : Int), v9 = .string x9_1 ∧ v10 = .int .i64 x10_1 ∧ Aside0 (ddilaw16_WalBack.l0 kq l0 a1 a2 x7_1 x8_1 x9_1 x10_1 = some r) ∧ Aside0 (kq ≤ k) ∧ Aside0 (Kd.R Kd.string 9 w' w.heap.size (fun _ => True) v7 x7_1) ∧ Aside0 (Kd.R (Kd.int .i64) 3 w' w.heap.size (fun _ => True) v8 x8_1) ∧ Aside0 (Below w.heap.size w w'))
  case atStart => exact ⟨(([] : List ByteArray)), (([] : List Int)), ((⟨#[]⟩ : ByteArray)), (0), (by first | rfl | (simp; done) | (simp [*]; done)), (by first | rfl | (simp; done) | (simp [*]; done)), H', ⟨Nat.le_refl _⟩, ⟨by first | exact Kd.R_nil _ _ _ _ _ | exact Kd.N_nil _ _ _ _ _ | exact Kd.V_nil _ _ _ _ _ | exact Kd.Q_nil _ _ _ _ _ | exact Kd.S_nil _ _ _ _ _⟩, ⟨by first | exact Kd.R_nil _ _ _ _ _ | exact Kd.N_nil _ _ _ _ _ | exact Kd.V_nil _ _ _ _ _ | exact Kd.Q_nil _ _ _ _ _ | exact Kd.S_nil _ _ _ _ _⟩, ⟨by repeat (first | (with_reducible first | exact HB.out | apply below_alloc | apply pw_below_drewN | apply below_drew1) | exact HB.out)⟩⟩
  case round =>
    clear H'
    try clear p2
    obtain ⟨x7_1, x8_1, x9_1, x10_1, rfl, rfl, HA, HK1, HO_7, HO_8, HB⟩ := hrel
    cases gk with
    | zero => exact absurd HA.out (by simp [ddilaw16_WalBack.l0])
    | succ k1 =>
      have H := HA.out
      clear HA
      simp only [ddilaw16_WalBack.l0] at H
      have HC4 := Aside0.mk H
      clear H
      go_upto_region 5 with (fail)
      go_cut [26] (fun v26 wc => ∃ (kq : Nat) (x26_3 : Bool), v26 = .bool x26_3 ∧ Aside0 (ddilaw16_WalBack.j1 kq l0 a1 a2 x7_1 x8_1 x9_1 x10_1 x26_3 = some r) ∧ Aside0 (kq ≤ k1) ∧ Aside0 (Kd.R Kd.string 9 wc w.heap.size (fun _ => True) u7 x7_1) ∧ Aside0 (Kd.R (Kd.int .i64) 3 wc w.heap.size (fun _ => True) u8 x8_1) ∧ Aside0 (Below w.heap.size w wc))
      case first =>
        have H := HC4.out
        clear HC4
        by_cases c5 : x10_1 < (l0.length : Int)
        · rw [if_pos c5] at H
          have c5b0 : decide (x10_1 < (l0.length : Int)) = true := decide_eq_true c5
          clear c5
          (first | rw [c5b0] | (simp only [i64_w, i32_w]; rw [c5b0]) | skip)
          have H' := Aside0.mk H
          clear H
          go_wp2
          go_meet
          case rel => exact ⟨_, (decide (x10_1 < 20)), (by first | rfl | (simp; done) | (simp [*]; done)), H', ⟨by have := HK1.out; first | omega | exact Nat.le_refl _⟩, ⟨by (with_reducible repeat (first | apply Kd.R_alloc | apply Kd.R_drewN | apply Kd.R_drew)); exact HO_7.out⟩, ⟨by (with_reducible repeat (first | apply Kd.R_alloc | apply Kd.R_drewN | apply Kd.R_drew)); exact HO_8.out⟩, ⟨by repeat (first | (with_reducible first | exact HB.out | apply below_alloc | apply pw_below_drewN | apply below_drew1) | exact HB.out)⟩⟩
        · rw [if_neg c5] at H
          have c5b0 : decide (x10_1 < (l0.length : Int)) = false := decide_eq_false c5
          clear c5
          (first | rw [c5b0] | (simp only [i64_w, i32_w]; rw [c5b0]) | skip)
          have H' := Aside0.mk H
          clear H
          go_wp2
          go_meet
          case rel => exact ⟨_, (false), (by first | rfl | (simp; done) | (simp [*]; done)), H', ⟨by have := HK1.out; first | omega | exact Nat.le_refl _⟩, ⟨by (with_reducible repeat (first | apply Kd.R_alloc | apply Kd.R_drewN | apply Kd.R_drew)); exact HO_7.out⟩, ⟨by (with_reducible repeat (first | apply Kd.R_alloc | apply Kd.R_drewN | apply Kd.R_drew)); exact HO_8.out⟩, ⟨by repeat (first | (with_reducible first | exact HB.out | apply below_alloc | apply pw_below_drewN | apply below_drew1) | exact HB.out)⟩⟩
      case rest =>
        clear HC4
        try clear p2
        try clear c5
        try clear c5b0
        try clear p2
        obtain ⟨kq, x26_3, rfl, HA, HJ3, HO_7, HO_8, HB⟩ := hcut
        cases kq with
        | zero => exact absurd HA.out (by simp [ddilaw16_WalBack.j1])
        | succ kj3 =>
          have H := HA.out
          clear HA
          simp only [ddilaw16_WalBack.j1] at H
          by_cases c6 : x26_3 = true
          · subst c6
            have H1 : (if 0 ≤ x10_1 then (if x10_1 < (l0.length : Int) then ((ddilaw16_cut.f (rdOf ByteArray.empty l0 x10_1) 200).bind fun t230 => (if x7_1.length < 8796093022208 then ((some (x7_1 ++ [t230] : List ByteArray)).bind fun y231 => (if x10_1 < (y231.length : Int) then ((wal_Frame.f kj3 (rdOf ByteArray.empty y231 x10_1)).bind fun bt235 => (if bt235.2 = 0 then (ddilaw16_WalBack.j2 kj3 l0 a1 a2 y231 x8_1 x9_1 x10_1 bt235.1 ((bt235.1.size : Int) != (wrap64 (((rdOf ByteArray.empty y231 x10_1).size : Int) + 8)))) else (ddilaw16_WalBack.j2 kj3 l0 a1 a2 y231 x8_1 x9_1 x10_1 bt235.1 true))) else (none))) else (none))) else (none)) else (none)) = some r := by rw [if_pos rfl] at H; exact H
            clear H
            have H := H1
            clear H1
            by_cases c7 : 0 ≤ x10_1
            · rw [if_pos c7] at H
              have c7b0 : decide (0 ≤ x10_1) = true := decide_eq_true c7
              clear c7
              by_cases c8 : x10_1 < (l0.length : Int)
              · rw [if_pos c8] at H
                have c8b0 : decide (x10_1 < (l0.length : Int)) = true := decide_eq_true c8
                clear c8
                replace H := Option.bind_eq_some_iff.mp H
                obtain ⟨t230, A90, H⟩ := H
                replace H : (if x7_1.length < 8796093022208 then ((some (x7_1 ++ [t230] : List ByteArray)).bind fun y231 => (if x10_1 < (y231.length : Int) then ((wal_Frame.f kj3 (rdOf ByteArray.empty y231 x10_1)).bind fun bt235 => (if bt235.2 = 0 then (ddilaw16_WalBack.j2 kj3 l0 a1 a2 y231 x8_1 x9_1 x10_1 bt235.1 ((bt235.1.size : Int) != (wrap64 (((rdOf ByteArray.empty y231 x10_1).size : Int) + 8)))) else (ddilaw16_WalBack.j2 kj3 l0 a1 a2 y231 x8_1 x9_1 x10_1 bt235.1 true))) else (none))) else (none)) = some r := H
                have A9 := Aside0.mk A90
                clear A90
                by_cases c10 : x7_1.length < 8796093022208
                · rw [if_pos c10] at H
                  have LMc10 := Aside0.mk c10
                  clear c10
                  obtain ⟨y231, hy231⟩ : ∃ y_ : List ByteArray, y_ = (x7_1 ++ [t230]) := ⟨_, rfl⟩
                  replace H : (if x10_1 < (y231.length : Int) then ((wal_Frame.f kj3 (rdOf ByteArray.empty y231 x10_1)).bind fun bt235 => (if bt235.2 = 0 then (ddilaw16_WalBack.j2 kj3 l0 a1 a2 y231 x8_1 x9_1 x10_1 bt235.1 ((bt235.1.size : Int) != (wrap64 (((rdOf ByteArray.empty y231 x10_1).size : Int) + 8)))) else (ddilaw16_WalBack.j2 kj3 l0 a1 a2 y231 x8_1 x9_1 x10_1 bt235.1 true))) else (none)) = some r := by first | (rw [hy231]; with_reducible exact H) | (have H2_ := (Option.bind_some _ _).symm.trans H; rw [hy231]; with_reducible exact H2_) | (have H2_ := (Option.bind_some _ _).symm.trans H; with_reducible exact H2_) | with_reducible exact H | (rw [hy231]; exact H) | exact H
                  have Ny231 := Aside0.mk hy231
                  clear hy231
                  by_cases c11 : x10_1 < (y231.length : Int)
                  · rw [if_pos c11] at H
                    have c11b0 : decide (x10_1 < (y231.length : Int)) = true := decide_eq_true c11
                    clear c11
                    replace H := Option.bind_eq_some_iff.mp H
                    obtain ⟨⟨t235, t236⟩, A120, H⟩ := H
                    replace H : (if t236 = 0 then (ddilaw16_WalBack.j2 kj3 l0 a1 a2 y231 x8_1 x9_1 x10_1 t235 ((t235.size : Int) != (wrap64 (((rdOf ByteArray.empty y231 x10_1).size : Int) + 8)))) else (ddilaw16_WalBack.j2 kj3 l0 a1 a2 y231 x8_1 x9_1 x10_1 t235 true)) = some r := H
                    have A12 := Aside0.mk A120
                    clear A120
                    have HC13 := Aside0.mk H
                    clear H
                    have p229 : 0 ≤ (x10_1 : Int) := of_decide_eq_true (by first | (with_reducible assumption) | assumption)
                    have q229 : x10_1 < (l0.length : Int) := of_decide_eq_true (by first | (with_reducible assumption) | assumption)
                    obtain ⟨ad229, e229, hx229_0⟩ := Kd.at_string HR0.out x10_1 p229 q229
                    cases e229
                    replace hx229_0 := (HB.out.cell (World.block_lt_of_cell? w _ hx229_0)).trans hx229_0
                    replace p229 := eq_true p229
                    replace q229 := eq_true q229
                    go_upto_region 9 with (first | ((with_reducible refine gate_callee (f := 10) rfl ?_); refine goesL_ (some 34) rfl rfl Try.func10 (by kernel_rfl) rfl #[.string (rdOf ByteArray.empty l0 x10_1), .int .i64 200] rfl (by (try simp only [List.map_toArray, List.map_cons, List.map_nil]); first | done | rfl | (simp only [List.length_drop, List.length_take]; rfl)) ?_; (with_reducible refine (ddilaw16_cut.calls (rdOf ByteArray.empty l0 x10_1) 200 t230 _ A9.out).mono ?_); rintro e w14 ⟨rfl, hb⟩; refine ⟨_, rfl, ?_⟩; have n0_ := Aside0.mk (Kd.R_below (by (with_reducible repeat (first | apply Kd.R_alloc | apply Kd.R_drewN | apply Kd.R_drew)); exact HO_7.out) hb); have n1_ := Aside0.mk (Kd.R_below (by (with_reducible repeat (first | apply Kd.R_alloc | apply Kd.R_drewN | apply Kd.R_drew)); exact HO_8.out) hb); have n2_ := Aside0.mk (below_step (by repeat (first | (with_reducible first | exact HB.out | apply below_alloc | apply pw_below_drewN | apply below_drew1) | exact HB.out)) hb); clear HO_7; clear HO_8; clear HB; have HO_7 := n0_; have HO_8 := n1_; have HB := n2_; clear n0_ n1_ n2_; (try clear hb); (try clear hb2); (try clear hk); (try clear hi)) | ((with_reducible refine gate_builtin (b := .append) (xs := #[.tmp 29, .tmp 35]) rfl ?_); (try (refine gate_guard (by rfl) ?_; dsimp only)); at_builtin; refine Kd.R_append Kd.string (w0 := w) w.heap.size rfl (.tmp 29) (.tmp 35) 30 9 (.string ⟨#[]⟩) 16 rfl Try.underlying30 info9 rfl (by decide) (by omega) u7 x7_1 t230 [.string t230] (fun _ => True) (fun _ => False) rfl rfl ?aP (fun _ hk => hk.elim) ?aF ?aO ?aB ?aS ?aL ?_; (case aP => exact rfl); (case aB => exact (by repeat (first | (with_reducible first | exact HB.out | apply below_alloc | apply pw_below_drewN | apply below_drew1) | exact HB.out))); (case aF => exact (fun _ _ => trivial)); (case aO => exact (by (with_reducible repeat (first | apply Kd.R_alloc | apply Kd.R_drewN | apply Kd.R_drew)); exact HO_7.out)); (case aS => exact (below_size (by repeat (first | (with_reducible first | exact HB.out | apply below_alloc | apply pw_below_drewN | apply below_drew1) | exact HB.out)))); (case aL => have := LMc10.out; omega); intro v232 w15 ho hb hg hat; rw [← Ny231.out] at ho; have n0_ := Aside0.mk (Kd.R_over' (by (with_reducible repeat (first | apply Kd.R_alloc | apply Kd.R_drewN | apply Kd.R_drew)); exact HO_8.out) (Kd.R_typed (by (with_reducible repeat (first | apply Kd.R_alloc | apply Kd.R_drewN | apply Kd.R_drew)); exact HO_7.out)) (by decide) hg); have n1_ := Aside0.mk (hb); have n2_ := Aside0.mk (ho); clear HO_8; clear HB; clear HO_7; have HO_8 := n0_; have HB := n1_; have HO233 := n2_; clear n0_ n1_ n2_; clear ho hb hg hat; obtain ⟨Ao16, co16, eo16⟩ := Kd.R_slice HO233.out; subst eo16; have p234 : 0 ≤ (x10_1 : Int) := of_decide_eq_true (by first | (with_reducible assumption) | assumption); have q234 : x10_1 < (y231.length : Int) := of_decide_eq_true (by first | (with_reducible assumption) | assumption); obtain ⟨ad234, e234, hx234_0⟩ := Kd.at_string (Kd.R_reads' HO233.out).2.2 x10_1 p234 q234; cases e234; replace p234 := eq_true p234; replace q234 := eq_true q234) | ((with_reducible refine gate_callee (f := 11) rfl ?_); refine goesL_ (some 42) rfl rfl Try.func11 (by kernel_rfl) rfl #[.string (rdOf ByteArray.empty y231 x10_1)] rfl (by (try simp only [List.map_toArray, List.map_cons, List.map_nil]); first | done | rfl | (simp only [List.length_drop, List.length_take]; rfl)) ?_; (with_reducible refine (wal_Frame.calls kj3 (rdOf ByteArray.empty y231 x10_1) t235 t236 _ A12.out).mono ?_); rintro e w17 ⟨rfl, hb⟩; refine ⟨_, rfl, ?_⟩; have n0_ := Aside0.mk (Kd.R_below (by (with_reducible repeat (first | apply Kd.R_alloc | apply Kd.R_drewN | apply Kd.R_drew)); exact HO_8.out) hb); have n1_ := Aside0.mk (Kd.R_below (by (with_reducible repeat (first | apply Kd.R_alloc | apply Kd.R_drewN | apply Kd.R_drew)); exact HO233.out) hb); have n2_ := Aside0.mk (below_step (by repeat (first | (with_reducible first | exact HB.out | apply below_alloc | apply pw_below_drewN | apply below_drew1) | exact HB.out)) hb); clear HO_8; clear HO233; clear HB; have HO_8 := n0_; have HO233 := n1_; have HB := n2_; clear n0_ n1_ n2_; (try clear hb); (try clear hb2); (try clear hk); (try clear hi)))
                    (try simp only [Act.put, List.setIfInBounds_toArray, List.set_cons_zero, List.set_cons_succ])
                    go_cut [57] (fun v57 wc => ∃ (kq : Nat) (x57_12 : Bool), v57 = .bool x57_12 ∧ Aside0 (ddilaw16_WalBack.j2 kq l0 a1 a2 y231 x8_1 x9_1 x10_1 t235 x57_12 = some r) ∧ Aside0 (kq ≤ kj3) ∧ Aside0 (Kd.R Kd.string 9 wc w.heap.size (fun _ => True) (.slice (some ad234) y231.length co16) y231) ∧ Aside0 (Kd.R (Kd.int .i64) 3 wc w.heap.size (fun _ => True) u8 x8_1) ∧ Aside0 (Below w.heap.size w wc))
                    case first =>
                      have H := HC13.out
                      clear HC13
                      by_cases c18 : t236 = 0
                      · rw [if_pos c18] at H
                        have c18b0 : (t236 == 0) = true := beq_iff_eq.mpr c18
                        have c18b1 : (t236 != 0) = false := bne_eq_false_iff_eq.mpr c18
                        clear c18
                        (first | rw [c18b0] | (simp only [i64_w, i32_w]; rw [c18b0]) | skip)
                        have H' := Aside0.mk H
                        clear H
                        have p237 : 0 ≤ (x10_1 : Int) := of_decide_eq_true (by first | (with_reducible assumption) | assumption)
                        have q237 : x10_1 < (y231.length : Int) := of_decide_eq_true (by first | (with_reducible assumption) | assumption)
                        obtain ⟨ad237, e237, hx237_0⟩ := Kd.at_string (Kd.R_reads' HO233.out).2.2 x10_1 p237 q237
                        obtain rfl : ad234 = ad237 := (by injection e237)
                        replace p237 := eq_true p237
                        replace q237 := eq_true q237
                        go_wp2
                        go_meet
                        case rel => exact ⟨_, (((t235.size : Int) != (wrap64 (((rdOf ByteArray.empty y231 x10_1).size : Int) + 8)))), (by first | rfl | (simp; done) | (simp [*]; done)), H', ⟨by have := HK1.out; have := HJ3.out; first | omega | exact Nat.le_refl _⟩, ⟨by (with_reducible repeat (first | apply Kd.R_alloc | apply Kd.R_drewN | apply Kd.R_drew)); exact HO233.out⟩, ⟨by (with_reducible repeat (first | apply Kd.R_alloc | apply Kd.R_drewN | apply Kd.R_drew)); exact HO_8.out⟩, ⟨by repeat (first | (with_reducible first | exact HB.out | apply below_alloc | apply pw_below_drewN | apply below_drew1) | exact HB.out)⟩⟩
                      · rw [if_neg c18] at H
                        have c18b0 : (t236 == 0) = false := beq_eq_false_iff_ne.mpr c18
                        have c18b1 : (t236 != 0) = true := bne_iff_ne.mpr c18
                        (first | rw [c18b0] | (simp only [i64_w, i32_w]; rw [c18b0]) | skip)
                        have H' := Aside0.mk H
                        clear H
                        go_wp2
                        go_meet
                        case rel => exact ⟨_, (true), (by first | rfl | (simp; done) | (simp [*]; done)), H', ⟨by have := HK1.out; have := HJ3.out; first | omega | exact Nat.le_refl _⟩, ⟨by (with_reducible repeat (first | apply Kd.R_alloc | apply Kd.R_drewN | apply Kd.R_drew)); exact HO233.out⟩, ⟨by (with_reducible repeat (first | apply Kd.R_alloc | apply Kd.R_drewN | apply Kd.R_drew)); exact HO_8.out⟩, ⟨by repeat (first | (with_reducible first | exact HB.out | apply below_alloc | apply pw_below_drewN | apply below_drew1) | exact HB.out)⟩⟩
                    case rest =>
                      clear HC13
                      try clear c1
                      try clear p2
                      try clear q2
                      try clear hx2
                      try clear c5
                      try clear c5b0
                      try clear c6
                      try clear p6
                      try clear c7
                      try clear c7b0
                      try clear c8
                      try clear c8b0
                      try clear c10
                      try clear c11
                      try clear c11b0
                      try clear c18
                      try clear c18b0
                      try clear c18b1
                      try clear hx229_0
                      try clear hx234_0
                      try clear hx237_0
                      try clear p2
                      try clear p229
                      try clear p234
                      try clear p237
                      try clear q229
                      try clear q234
                      try clear q237
                      obtain ⟨kq, x57_12, rfl, HA, HJ12, HO_7, HO_8, HB⟩ := hcut
                      cases kq with
                      | zero => exact absurd HA.out (by simp [ddilaw16_WalBack.j2])
                      | succ kj12 =>
                        have H := HA.out
                        clear HA
                        simp only [ddilaw16_WalBack.j2] at H
                        by_cases c19 : x57_12 = true
                        · subst c19
                          have H1 : (some false) = some r := by rw [if_pos rfl] at H; exact H
                          clear H
                          have H := H1
                          clear H1
                          obtain rfl := Option.some.inj H
                          go_wp2
                          go_ret
                          exact ⟨by first | rfl | (simp [errW_none, errW_some] <;> rfl) | (simp [*, errW_none, errW_some] <;> rfl), by repeat (first | (with_reducible first | exact HB.out | apply below_alloc | apply pw_below_drewN | apply below_drew1) | exact HB.out)⟩
                        · replace c19 := Bool.eq_false_iff.mpr c19
                          subst c19
                          have H1 : (if x9_1.size + t235.size ≤ 9223372036854775807 then (if x8_1.length < 17592186044416 then (ddilaw16_WalBack.l0 kj12 l0 a1 a2 y231 (x8_1 ++ [(x9_1.size : Int) + (t235.size : Int)]) (x9_1 ++ t235) (wrap64 (x10_1 + 1))) else (none)) else (none)) = some r := by rw [if_neg (show ¬ (false = true) by decide)] at H; exact H
                          clear H
                          have H := H1
                          clear H1
                          by_cases c20 : x9_1.size + t235.size ≤ 9223372036854775807
                          · rw [if_pos c20] at H
                            have c20b0 := eq_true c20
                            have c20b1 : decide (x9_1.size + t235.size ≤ 9223372036854775807) = true := decide_eq_true c20
                            try have c20b2 : (9223372036854775807 < x9_1.size + t235.size) = False := eq_false (Nat.not_lt.2 c20)
                            by_cases c21 : x8_1.length < 17592186044416
                            · rw [if_pos c21] at H
                              have LMc21 := Aside0.mk c21
                              clear c21
                              obtain ⟨y238, hy238⟩ : ∃ y_ : List Int, y_ = (x8_1 ++ [(x9_1.size : Int) + (t235.size : Int)]) := ⟨_, rfl⟩
                              replace H : (ddilaw16_WalBack.l0 kj12 l0 a1 a2 y231 y238 (x9_1 ++ t235) (wrap64 (x10_1 + 1))) = some r := by first | (rw [hy238]; with_reducible exact H) | (have H2_ := (Option.bind_some _ _).symm.trans H; rw [hy238]; with_reducible exact H2_) | (have H2_ := (Option.bind_some _ _).symm.trans H; with_reducible exact H2_) | with_reducible exact H | (rw [hy238]; exact H) | exact H
                              have Ny238 := Aside0.mk hy238
                              clear hy238
                              have H' := Aside0.mk H
                              clear H
                              go_wp2_with (first | ((with_reducible refine gate_builtin (b := .append) (xs := #[.tmp 61, .tmp 64]) rfl ?_); (try (refine gate_guard (by rfl) ?_; dsimp only)); at_builtin; refine Kd.R_append (Kd.int .i64) (w0 := w) w.heap.size rfl (.tmp 61) (.tmp 64) 40 3 (.int .i64 0) 8 rfl Try.underlying40 info3 rfl (by decide) (by omega) u8 x8_1 ((x9_1.size : Int) + (t235.size : Int)) [.int .i64 ((x9_1.size : Int) + (t235.size : Int))] (fun _ => True) (fun _ => False) rfl rfl ?aP (fun _ hk => hk.elim) ?aF ?aO ?aB ?aS ?aL ?_; (case aP => exact rfl); (case aB => exact (by repeat (first | (with_reducible first | exact HB.out | apply below_alloc | apply pw_below_drewN | apply below_drew1) | exact HB.out))); (case aF => exact (fun _ _ => trivial)); (case aO => exact (by (with_reducible repeat (first | apply Kd.R_alloc | apply Kd.R_drewN | apply Kd.R_drew)); exact HO_8.out)); (case aS => exact (below_size (by repeat (first | (with_reducible first | exact HB.out | apply below_alloc | apply pw_below_drewN | apply below_drew1) | exact HB.out)))); (case aL => have := LMc21.out; omega); intro v239 w22 ho hb hg hat; rw [← Ny238.out] at ho; have n0_ := Aside0.mk (Kd.R_over' (by (with_reducible repeat (first | apply Kd.R_alloc | apply Kd.R_drewN | apply Kd.R_drew)); exact HO_7.out) (Kd.R_typed (by (with_reducible repeat (first | apply Kd.R_alloc | apply Kd.R_drewN | apply Kd.R_drew)); exact HO_8.out)) (by decide) hg); have n1_ := Aside0.mk (hb); have n2_ := Aside0.mk (ho); clear HO_7; clear HB; clear HO_8; have HO_7 := n0_; have HB := n1_; have HO240 := n2_; clear n0_ n1_ n2_; clear ho hb hg hat))
                              go_roundg kj12
                              case measure => have := HK1.out; have := HJ3.out; have := HJ12.out; omega
                              case rel => exact ⟨(y231), (y238), (x9_1 ++ t235), (wrap64 (x10_1 + 1)), (by first | rfl | (simp; done) | (simp [*]; done)), (by first | rfl | (simp; done) | (simp [*]; done)), H', ⟨by have := HK1.out; have := HJ3.out; have := HJ12.out; omega⟩, ⟨by (with_reducible repeat (first | apply Kd.R_alloc | apply Kd.R_drewN | apply Kd.R_drew)); exact HO_7.out⟩, ⟨by (with_reducible repeat (first | apply Kd.R_alloc | apply Kd.R_drewN | apply Kd.R_drew)); exact HO240.out⟩, ⟨by repeat (first | (with_reducible first | exact HB.out | apply below_alloc | apply pw_below_drewN | apply below_drew1) | exact HB.out)⟩⟩
                            · rw [if_neg c21] at H
                              exact absurd H (by simp)
                          · rw [if_neg c20] at H
                            exact absurd H (by simp)
                  · rw [if_neg c11] at H
                    exact absurd H (by simp)
                · rw [if_neg c10] at H
                  exact absurd H (by simp)
              · rw [if_neg c8] at H
                exact absurd H (by simp)
            · rw [if_neg c7] at H
              exact absurd H (by simp)
          · replace c6 := Bool.eq_false_iff.mpr c6
            subst c6
            have H1 : ((ddilaw16_cut.f a1 7).bind fun t241 => (if x9_1.size + t241.size ≤ 9223372036854775807 then ((wal_Scan.f kj3 (x9_1 ++ t241)).bind fun bt242 => ((ddilaw16_texts.f kj3 bt242.1 x7_1).bind fun t246 => (if t246 = true then (ddilaw16_WalBack.j3 kj3 a2 x7_1 x8_1 x9_1 (bt242.2 != (x9_1.size : Int))) else (ddilaw16_WalBack.j3 kj3 a2 x7_1 x8_1 x9_1 true)))) else (none))) = some r := by rw [if_neg (show ¬ (false = true) by decide)] at H; exact H
            clear H
            have H := H1
            clear H1
            replace H := Option.bind_eq_some_iff.mp H
            obtain ⟨t241, A230, H⟩ := H
            replace H : (if x9_1.size + t241.size ≤ 9223372036854775807 then ((wal_Scan.f kj3 (x9_1 ++ t241)).bind fun bt242 => ((ddilaw16_texts.f kj3 bt242.1 x7_1).bind fun t246 => (if t246 = true then (ddilaw16_WalBack.j3 kj3 a2 x7_1 x8_1 x9_1 (bt242.2 != (x9_1.size : Int))) else (ddilaw16_WalBack.j3 kj3 a2 x7_1 x8_1 x9_1 true)))) else (none)) = some r := H
            have A23 := Aside0.mk A230
            clear A230
            by_cases c24 : x9_1.size + t241.size ≤ 9223372036854775807
            · rw [if_pos c24] at H
              have c24b0 := eq_true c24
              have c24b1 : decide (x9_1.size + t241.size ≤ 9223372036854775807) = true := decide_eq_true c24
              try have c24b2 : (9223372036854775807 < x9_1.size + t241.size) = False := eq_false (Nat.not_lt.2 c24)
              replace H := Option.bind_eq_some_iff.mp H
              obtain ⟨⟨t242, t243⟩, A250, H⟩ := H
              replace H : ((ddilaw16_texts.f kj3 t242 x7_1).bind fun t246 => (if t246 = true then (ddilaw16_WalBack.j3 kj3 a2 x7_1 x8_1 x9_1 (t243 != (x9_1.size : Int))) else (ddilaw16_WalBack.j3 kj3 a2 x7_1 x8_1 x9_1 true))) = some r := H
              have A25 := Aside0.mk A250
              clear A250
              have HC26 := Aside0.mk H
              clear H
              go_upto_region 14 with (first | ((with_reducible refine gate_callee (f := 10) rfl ?_); refine goesL_ (some 69) rfl rfl Try.func10 (by kernel_rfl) rfl #[.string a1, .int .i64 7] rfl (by (try simp only [List.map_toArray, List.map_cons, List.map_nil]); first | done | rfl | (simp only [List.length_drop, List.length_take]; rfl)) ?_; (with_reducible refine (ddilaw16_cut.calls a1 7 t241 _ A23.out).mono ?_); rintro e w27 ⟨rfl, hb⟩; refine ⟨_, rfl, ?_⟩; have n0_ := Aside0.mk (Kd.R_below (by (with_reducible repeat (first | apply Kd.R_alloc | apply Kd.R_drewN | apply Kd.R_drew)); exact HO_7.out) hb); have n1_ := Aside0.mk (Kd.R_below (by (with_reducible repeat (first | apply Kd.R_alloc | apply Kd.R_drewN | apply Kd.R_drew)); exact HO_8.out) hb); have n2_ := Aside0.mk (below_step (by repeat (first | (with_reducible first | exact HB.out | apply below_alloc | apply pw_below_drewN | apply below_drew1) | exact HB.out)) hb); clear HO_7; clear HO_8; clear HB; have HO_7 := n0_; have HO_8 := n1_; have HB := n2_; clear n0_ n1_ n2_; (try clear hb); (try clear hb2); (try clear hk); (try clear hi)) | ((with_reducible refine gate_callee (f := 16) rfl ?_); refine goesL_ (some 71) rfl rfl Try.func16 (by kernel_rfl) rfl #[.string (x9_1 ++ t241)] rfl (by (try simp only [List.map_toArray, List.map_cons, List.map_nil]); first | done | rfl | (simp only [List.length_drop, List.length_take]; rfl)) ?_; (with_reducible refine (wal_Scan.calls kj3 (x9_1 ++ t241) t242 t243 _ A25.out).mono ?_); rintro e w28 ⟨v244, rfl, ho0, hb⟩; refine ⟨_, rfl, ?_⟩; have n0_ := Aside0.mk (Kd.R_elder' (by (with_reducible repeat (first | apply Kd.R_alloc | apply Kd.R_drewN | apply Kd.R_drew)); exact HO_7.out) (Kd.R_base ho0) hb); have n1_ := Aside0.mk (Kd.R_below (by (with_reducible repeat (first | apply Kd.R_alloc | apply Kd.R_drewN | apply Kd.R_drew)); exact HO_8.out) hb); have n2_ := Aside0.mk (Kd.R_lower (Kd.R_new' ho0 (Kd.R_lt (by (with_reducible repeat (first | apply Kd.R_alloc | apply Kd.R_drewN | apply Kd.R_drew)); exact HO_7.out))) (below_size (by repeat (first | (with_reducible first | exact HB.out | apply below_alloc | apply pw_below_drewN | apply below_drew1) | exact HB.out)))); have n3_ := Aside0.mk (below_step (by repeat (first | (with_reducible first | exact HB.out | apply below_alloc | apply pw_below_drewN | apply below_drew1) | exact HB.out)) hb); clear HO_7; clear HO_8; clear HB; have HO_7 := n0_; have HO_8 := n1_; have HO245 := n2_; have HB := n3_; clear n0_ n1_ n2_ n3_; (try clear hb); (try clear hb2); (try clear hk); (try clear hi); (try clear ho0)))
              (try simp only [Act.put, List.setIfInBounds_toArray, List.set_cons_zero, List.set_cons_succ])
              go_cut [83] (fun v83 wc => ∃ (kq : Nat) (x83_25 : Bool), v83 = .bool x83_25 ∧ Aside0 (ddilaw16_WalBack.j3 kq a2 x7_1 x8_1 x9_1 x83_25 = some r) ∧ Aside0 (kq ≤ kj3) ∧ Aside0 (Kd.R Kd.string 9 wc w.heap.size (fun _ => True) u7 x7_1) ∧ Aside0 (Kd.R (Kd.int .i64) 3 wc w.heap.size (fun _ => True) u8 x8_1) ∧ Aside0 (Below w.heap.size w wc))
              case first =>
                have H := HC26.out
                clear HC26
                replace H := Option.bind_eq_some_iff.mp H
                obtain ⟨t246, A290, H⟩ := H
                replace H : (if t246 = true then (ddilaw16_WalBack.j3 kj3 a2 x7_1 x8_1 x9_1 (t243 != (x9_1.size : Int))) else (ddilaw16_WalBack.j3 kj3 a2 x7_1 x8_1 x9_1 true)) = some r := H
                have A29 := Aside0.mk A290
                clear A290
                by_cases c30 : t246 = true
                · subst c30
                  have H1 : (ddilaw16_WalBack.j3 kj3 a2 x7_1 x8_1 x9_1 (t243 != (x9_1.size : Int))) = some r := by rw [if_pos rfl] at H; exact H
                  clear H
                  have H := H1
                  clear H1
                  have H' := Aside0.mk H
                  clear H
                  obtain ⟨Ao31, co31, eo31⟩ := Kd.R_slice HO245.out
                  subst eo31
                  obtain ⟨Ao32, co32, eo32⟩ := Kd.R_slice HO_7.out
                  subst eo32
                  go_wp2_with (first | ((with_reducible refine gate_callee (f := 18) rfl ?_); refine goesL_ (some 76) rfl rfl Try.func18 (by kernel_rfl) rfl #[.slice Ao31 t242.length co31, .slice Ao32 x7_1.length co32] rfl (by (try simp only [List.map_toArray, List.map_cons, List.map_nil]); first | done | rfl | (simp only [List.length_drop, List.length_take]; rfl)) ?_; (with_reducible refine (ddilaw16_texts.calls kj3 _ _ t242 _ _ x7_1 true _ ?side1 ?side2 ?side3 ?side4 A29.out).mono ?_); (case side1 => repeat (first | exact (Kd.R_reads' HO245.out).2.2 | (with_reducible refine Kd.C_alloc ?_ _) | (with_reducible refine Kd.C_drewN ?_ _) | (with_reducible refine Kd.C_drew ?_))); (case side2 => exact (Kd.R_reads' HO245.out).2.1); (case side3 => repeat (first | exact (Kd.R_reads' HO_7.out).2.2 | (with_reducible refine Kd.C_alloc ?_ _) | (with_reducible refine Kd.C_drewN ?_ _) | (with_reducible refine Kd.C_drew ?_))); (case side4 => exact (Kd.R_reads' HO_7.out).2.1); rintro e w' ⟨rfl, ⟨nd, rfl⟩⟩; refine ⟨_, rfl, ?_⟩))
                  go_meet
                  case rel => exact ⟨_, ((t243 != (x9_1.size : Int))), (by first | rfl | (simp; done) | (simp [*]; done)), H', ⟨by have := HK1.out; have := HJ3.out; first | omega | exact Nat.le_refl _⟩, ⟨by (with_reducible repeat (first | apply Kd.R_alloc | apply Kd.R_drewN | apply Kd.R_drew)); exact Kd.R_mono HO_7.out (fun _ hk => trivial)⟩, ⟨by (with_reducible repeat (first | apply Kd.R_alloc | apply Kd.R_drewN | apply Kd.R_drew)); exact HO_8.out⟩, ⟨by repeat (first | (with_reducible first | exact HB.out | apply below_alloc | apply pw_below_drewN | apply below_drew1) | exact HB.out)⟩⟩
                · replace c30 := Bool.eq_false_iff.mpr c30
                  subst c30
                  have H1 : (ddilaw16_WalBack.j3 kj3 a2 x7_1 x8_1 x9_1 true) = some r := by rw [if_neg (show ¬ (false = true) by decide)] at H; exact H
                  clear H
                  have H := H1
                  clear H1
                  have H' := Aside0.mk H
                  clear H
                  obtain ⟨Ao33, co33, eo33⟩ := Kd.R_slice HO245.out
                  subst eo33
                  obtain ⟨Ao34, co34, eo34⟩ := Kd.R_slice HO_7.out
                  subst eo34
                  go_wp2_with (first | ((with_reducible refine gate_callee (f := 18) rfl ?_); refine goesL_ (some 76) rfl rfl Try.func18 (by kernel_rfl) rfl #[.slice Ao33 t242.length co33, .slice Ao34 x7_1.length co34] rfl (by (try simp only [List.map_toArray, List.map_cons, List.map_nil]); first | done | rfl | (simp only [List.length_drop, List.length_take]; rfl)) ?_; (with_reducible refine (ddilaw16_texts.calls kj3 _ _ t242 _ _ x7_1 false _ ?side1 ?side2 ?side3 ?side4 A29.out).mono ?_); (case side1 => repeat (first | exact (Kd.R_reads' HO245.out).2.2 | (with_reducible refine Kd.C_alloc ?_ _) | (with_reducible refine Kd.C_drewN ?_ _) | (with_reducible refine Kd.C_drew ?_))); (case side2 => exact (Kd.R_reads' HO245.out).2.1); (case side3 => repeat (first | exact (Kd.R_reads' HO_7.out).2.2 | (with_reducible refine Kd.C_alloc ?_ _) | (with_reducible refine Kd.C_drewN ?_ _) | (with_reducible refine Kd.C_drew ?_))); (case side4 => exact (Kd.R_reads' HO_7.out).2.1); rintro e w' ⟨rfl, ⟨nd, rfl⟩⟩; refine ⟨_, rfl, ?_⟩))
                  go_meet
                  case rel => exact ⟨_, (true), (by first | rfl | (simp; done) | (simp [*]; done)), H', ⟨by have := HK1.out; have := HJ3.out; first | omega | exact Nat.le_refl _⟩, ⟨by (with_reducible repeat (first | apply Kd.R_alloc | apply Kd.R_drewN | apply Kd.R_drew)); exact Kd.R_mono HO_7.out (fun _ hk => trivial)⟩, ⟨by (with_reducible repeat (first | apply Kd.R_alloc | apply Kd.R_drewN | apply Kd.R_drew)); exact HO_8.out⟩, ⟨by repeat (first | (with_reducible first | exact HB.out | apply below_alloc | apply pw_below_drewN | apply below_drew1) | exact HB.out)⟩⟩
              case rest =>
                clear HC26
                try clear c1
                try clear c2
                try clear p2
                try clear q2
                try clear hx2
                try clear c3
                try clear c5
                try clear c5b0
                try clear c6
                try clear p6
                try clear c7
                try clear c7b0
                try clear c8
                try clear c8b0
                try clear c10
                try clear c11
                try clear c11b0
                try clear c16
                try clear c18
                try clear c18b0
                try clear c18b1
                try clear c19
                try clear c20
                try clear c20b0
                try clear c20b1
                try clear c20b2
                try clear c21
                try clear p22
                try clear q22
                try clear hx22
                try clear p23
                try clear q23
                try clear hx23
                try clear c24
                try clear c24b0
                try clear c24b1
                try clear c24b2
                try clear c30
                try clear hx229_0
                try clear hx234_0
                try clear hx237_0
                try clear p2
                try clear p229
                try clear p234
                try clear p237
                try clear p6
                try clear q2
                try clear q229
                try clear q234
                try clear q237
                obtain ⟨kq, x83_25, rfl, HA, HJ25, HO_7, HO_8, HB⟩ := hcut
                cases kq with
                | zero => exact absurd HA.out (by simp [ddilaw16_WalBack.j3])
                | succ kj25 =>
                  have H := HA.out
                  clear HA
                  simp only [ddilaw16_WalBack.j3] at H
                  by_cases c35 : x83_25 = true
                  · subst c35
                    have H1 : (some false) = some r := by rw [if_pos rfl] at H; exact H
                    clear H
                    have H := H1
                    clear H1
                    obtain rfl := Option.some.inj H
                    go_wp2
                    go_ret
                    exact ⟨by first | rfl | (simp [errW_none, errW_some] <;> rfl) | (simp [*, errW_none, errW_some] <;> rfl), by repeat (first | (with_reducible first | exact HB.out | apply below_alloc | apply pw_below_drewN | apply below_drew1) | exact HB.out)⟩
                  · replace c35 := Bool.eq_false_iff.mpr c35
                    subst c35
                    have H1 : (if (IntKind.u64.wrap (wrap64 ((x9_1.size : Int) + 1))) = 0 then (none) else (if 0 ≤ (wrap64 (Int.tmod (IntKind.u64.wrap (a2)) (IntKind.u64.wrap (wrap64 ((x9_1.size : Int) + 1))))) then (if (wrap64 (Int.tmod (IntKind.u64.wrap (a2)) (IntKind.u64.wrap (wrap64 ((x9_1.size : Int) + 1))))) ≤ (x9_1.size : Int) then ((wal_Scan.f kj25 (x9_1.extract 0 ((wrap64 (Int.tmod (IntKind.u64.wrap (a2)) (IntKind.u64.wrap (wrap64 ((x9_1.size : Int) + 1))))) : Int).toNat)).bind fun bt247 => (ddilaw16_WalBack.l1 kj25 x7_1 x8_1 bt247.2 (wrap64 (Int.tmod (IntKind.u64.wrap (a2)) (IntKind.u64.wrap (wrap64 ((x9_1.size : Int) + 1))))) bt247.1 0 (x8_1.length : Int) 0)) else (none)) else (none))) = some r := by rw [if_neg (show ¬ (false = true) by decide)] at H; exact H
                    clear H
                    have H := H1
                    clear H1
                    by_cases c36 : (IntKind.u64.wrap (wrap64 ((x9_1.size : Int) + 1))) = 0
                    · rw [if_pos c36] at H
                      exact absurd H (by simp)
                    · rw [if_neg c36] at H
                      have c36b0 : ((IntKind.u64.wrap (wrap64 ((x9_1.size : Int) + 1))) == 0) = false := beq_eq_false_iff_ne.mpr c36
                      have c36b1 : ((IntKind.u64.wrap (wrap64 ((x9_1.size : Int) + 1))) != 0) = true := bne_iff_ne.mpr c36
                      obtain ⟨ji37, hji37⟩ : ∃ j_ : Int, (wrap64 (Int.tmod (IntKind.u64.wrap (a2)) (IntKind.u64.wrap (wrap64 ((x9_1.size : Int) + 1))))) = j_ := ⟨_, rfl⟩
                      replace H : (if 0 ≤ (ji37) then (if (ji37) ≤ (x9_1.size : Int) then ((wal_Scan.f kj25 (x9_1.extract 0 ((ji37) : Int).toNat)).bind fun bt247 => (ddilaw16_WalBack.l1 kj25 x7_1 x8_1 bt247.2 ji37 bt247.1 0 (x8_1.length : Int) 0)) else (none)) else (none)) = some r := by first | (rw [hji37] at H; exact H) | (simp only [hji37] at H ⊢; exact H)
                      have hji37w : (IntKind.i64.wrap (Int.tmod (IntKind.u64.wrap (a2)) (IntKind.u64.wrap (wrap64 ((x9_1.size : Int) + 1))))) = ji37 := (i64_w _).trans hji37
                      by_cases c38 : 0 ≤ (ji37)
                      · rw [if_pos c38] at H
                        have c38b0 := eq_true c38
                        have c38b1 : decide (0 ≤ (ji37)) = true := decide_eq_true c38
                        clear c38
                        by_cases c39 : (ji37) ≤ (x9_1.size : Int)
                        · rw [if_pos c39] at H
                          have c39b0 := eq_true c39
                          have c39b1 : decide ((ji37) ≤ (x9_1.size : Int)) = true := decide_eq_true c39
                          clear c39
                          replace H := Option.bind_eq_some_iff.mp H
                          obtain ⟨⟨t247, t248⟩, A400, H⟩ := H
                          replace H : (ddilaw16_WalBack.l1 kj25 x7_1 x8_1 t248 ji37 t247 0 (x8_1.length : Int) 0) = some r := H
                          have A40 := Aside0.mk A400
                          clear A400
                          have H' := Aside0.mk H
                          clear H
                          go_wp2_with (first | ((with_reducible refine gate_callee (f := 16) rfl ?_); refine goesL_ (some 96) rfl rfl Try.func16 (by kernel_rfl) rfl #[.string (x9_1.extract 0 ((ji37) : Int).toNat)] rfl (by (try simp only [List.map_toArray, List.map_cons, List.map_nil]); first | done | (simp only [hji37]; rfl) | rfl | (simp only [List.length_drop, List.length_take]; rfl)) ?_; (with_reducible refine (wal_Scan.calls kj25 (x9_1.extract 0 ((ji37) : Int).toNat) t247 t248 _ A40.out).mono ?_); rintro e w41 ⟨v249, rfl, ho0, hb⟩; refine ⟨_, rfl, ?_⟩; have n0_ := Aside0.mk (Kd.R_elder' (by (with_reducible repeat (first | apply Kd.R_alloc | apply Kd.R_drewN | apply Kd.R_drew)); exact HO_7.out) (Kd.R_base ho0) hb); have n1_ := Aside0.mk (Kd.R_below (by (with_reducible repeat (first | apply Kd.R_alloc | apply Kd.R_drewN | apply Kd.R_drew)); exact HO_8.out) hb); have n2_ := Aside0.mk (Kd.R_lower (Kd.R_new' ho0 (Kd.R_lt (by (with_reducible repeat (first | apply Kd.R_alloc | apply Kd.R_drewN | apply Kd.R_drew)); exact HO_7.out))) (below_size (by repeat (first | (with_reducible first | exact HB.out | apply below_alloc | apply pw_below_drewN | apply below_drew1) | exact HB.out)))); have n3_ := Aside0.mk (below_step (by repeat (first | (with_reducible first | exact HB.out | apply below_alloc | apply pw_below_drewN | apply below_drew1) | exact HB.out)) hb); clear HO_7; clear HO_8; clear HB; have HO_7 := n0_; have HO_8 := n1_; have HO250 := n2_; have HB := n3_; clear n0_ n1_ n2_ n3_; (try clear hb); (try clear hb2); (try clear hk); (try clear hi); (try clear ho0); obtain ⟨Ao42, co42, eo42⟩ := Kd.R_slice HO_8.out; subst eo42))
                          go_loopg [17, 101] kj25 (fun kq v17 v101 w' => ∃ (x17_4 : Int) (x101_4 : Int), v17 = .int .i64 x17_4 ∧ v101 = .int .i64 x101_4 ∧ Aside0 (ddilaw16_WalBack.l1 kq x7_1 x8_1 t248 ji37 t247 x17_4 (x8_1.length : Int) x101_4 = some r) ∧ Aside0 (kq ≤ kj25) ∧ Aside0 (Kd.R Kd.string 9 w' w.heap.size (fun k_ => some k_ ≠ (v249 : Value).ownBlock) u7 x7_1) ∧ Aside0 (Kd.R (Kd.int .i64) 3 w' w.heap.size (fun _ => True) (.slice Ao42 x8_1.length co42) x8_1) ∧ Aside0 (Kd.R Kd.string 9 w' w.heap.size (fun k_ => some k_ ≠ (u7 : Value).ownBlock) v249 t247) ∧ Aside0 (Below w.heap.size w w'))
                          case atStart => exact ⟨(0), (0), (by first | rfl | (simp; done) | (simp [*]; done)), (by first | rfl | (simp; done) | (simp [*]; done)), H', ⟨Nat.le_refl _⟩, ⟨by (with_reducible repeat (first | apply Kd.R_alloc | apply Kd.R_drewN | apply Kd.R_drew)); exact Kd.R_mono HO_7.out (fun _ hk => hk.2)⟩, ⟨by (with_reducible repeat (first | apply Kd.R_alloc | apply Kd.R_drewN | apply Kd.R_drew)); exact HO_8.out⟩, ⟨by (with_reducible repeat (first | apply Kd.R_alloc | apply Kd.R_drewN | apply Kd.R_drew)); exact Kd.R_mono HO250.out (fun _ hk => hk.2)⟩, ⟨by repeat (first | (with_reducible first | exact HB.out | apply below_alloc | apply pw_below_drewN | apply below_drew1) | exact HB.out)⟩⟩
                          case round =>
                            clear H'
                            try clear c1
                            try clear c2
                            try clear p2
                            try clear q2
                            try clear hx2
                            try clear c3
                            try clear c5
                            try clear c5b0
                            try clear c6
                            try clear p6
                            try clear c7
                            try clear c7b0
                            try clear c8
                            try clear c8b0
                            try clear c10
                            try clear c11
                            try clear c11b0
                            try clear c16
                            try clear c18
                            try clear c18b0
                            try clear c18b1
                            try clear c19
                            try clear c20
                            try clear c20b0
                            try clear c20b1
                            try clear c20b2
                            try clear c21
                            try clear p22
                            try clear q22
                            try clear hx22
                            try clear p23
                            try clear q23
                            try clear hx23
                            try clear c24
                            try clear c24b0
                            try clear c24b1
                            try clear c24b2
                            try clear c30
                            try clear c35
                            try clear c36
                            try clear c36b0
                            try clear c36b1
                            try clear c38
                            try clear c38b0
                            try clear c38b1
                            try clear c39
                            try clear c39b0
                            try clear c39b1
                            try clear hx229_0
                            try clear hx234_0
                            try clear hx237_0
                            try clear p2
                            try clear p22
                            try clear p229
                            try clear p23
                            try clear p234
                            try clear p237
                            try clear p6
                            try clear q2
                            try clear q22
                            try clear q229
                            try clear q23
                            try clear q234
                            try clear q237
                            obtain ⟨x17_4, x101_4, rfl, rfl, HA, HK4, HO_7, HO_8, HO_16, HB⟩ := hrel
                            cases gk with
                            | zero => exact absurd HA.out (by simp [ddilaw16_WalBack.l1])
                            | succ k4 =>
                              have H := HA.out
                              clear HA
                              simp only [ddilaw16_WalBack.l1] at H
                              by_cases c43 : x101_4 < (x8_1.length : Int)
                              · rw [if_pos c43] at H
                                have c43b0 : decide (x101_4 < (x8_1.length : Int)) = true := decide_eq_true c43
                                clear c43
                                by_cases c44 : 0 ≤ x101_4
                                · rw [if_pos c44] at H
                                  have c44b0 : decide (0 ≤ x101_4) = true := decide_eq_true c44
                                  clear c44
                                  by_cases c45 : x101_4 < (x8_1.length : Int)
                                  · rw [if_pos c45] at H
                                    have c45b0 : decide (x101_4 < (x8_1.length : Int)) = true := decide_eq_true c45
                                    clear c45
                                    by_cases c46 : (rd x8_1 x101_4) ≤ ji37
                                    · rw [if_pos c46] at H
                                      have c46b0 : decide ((rd x8_1 x101_4) ≤ ji37) = true := decide_eq_true c46
                                      clear c46
                                      have H' := Aside0.mk H
                                      clear H
                                      have p251 : 0 ≤ (x101_4 : Int) := of_decide_eq_true (by first | (with_reducible assumption) | assumption)
                                      have q251 : x101_4 < (x8_1.length : Int) := of_decide_eq_true (by first | (with_reducible assumption) | assumption)
                                      obtain ⟨ad251, e251, hx251_0⟩ := Kd.at_int (Kd.R_reads' HO_8.out).2.2 x101_4 p251 q251
                                      cases e251
                                      replace p251 := eq_true p251
                                      replace q251 := eq_true q251
                                      go_wp2
                                      go_roundg k4
                                      case measure => have := HK1.out; have := HJ3.out; have := HJ25.out; have := HK4.out; omega
                                      case rel => exact ⟨(wrap64 (x101_4 + 1)), (wrap64 (x101_4 + 1)), (by first | rfl | (simp; done) | (simp [*]; done)), (by first | rfl | (simp; done) | (simp [*]; done)), H', ⟨by have := HK1.out; have := HJ3.out; have := HJ25.out; have := HK4.out; omega⟩, ⟨by (with_reducible repeat (first | apply Kd.R_alloc | apply Kd.R_drewN | apply Kd.R_drew)); exact HO_7.out⟩, ⟨by (with_reducible repeat (first | apply Kd.R_alloc | apply Kd.R_drewN | apply Kd.R_drew)); exact HO_8.out⟩, ⟨by (with_reducible repeat (first | apply Kd.R_alloc | apply Kd.R_drewN | apply Kd.R_drew)); exact HO_16.out⟩, ⟨by repeat (first | (with_reducible first | exact HB.out | apply below_alloc | apply pw_below_drewN | apply below_drew1) | exact HB.out)⟩⟩
                                    · rw [if_neg c46] at H
                                      have c46b0 : decide ((rd x8_1 x101_4) ≤ ji37) = false := decide_eq_false c46
                                      clear c46
                                      have H' := Aside0.mk H
                                      clear H
                                      have p251 : 0 ≤ (x101_4 : Int) := of_decide_eq_true (by first | (with_reducible assumption) | assumption)
                                      have q251 : x101_4 < (x8_1.length : Int) := of_decide_eq_true (by first | (with_reducible assumption) | assumption)
                                      obtain ⟨ad251, e251, hx251_0⟩ := Kd.at_int (Kd.R_reads' HO_8.out).2.2 x101_4 p251 q251
                                      cases e251
                                      replace p251 := eq_true p251
                                      replace q251 := eq_true q251
                                      go_wp2
                                      go_roundg k4
                                      case measure => have := HK1.out; have := HJ3.out; have := HJ25.out; have := HK4.out; omega
                                      case rel => exact ⟨(x17_4), (wrap64 (x101_4 + 1)), (by first | rfl | (simp; done) | (simp [*]; done)), (by first | rfl | (simp; done) | (simp [*]; done)), H', ⟨by have := HK1.out; have := HJ3.out; have := HJ25.out; have := HK4.out; omega⟩, ⟨by (with_reducible repeat (first | apply Kd.R_alloc | apply Kd.R_drewN | apply Kd.R_drew)); exact HO_7.out⟩, ⟨by (with_reducible repeat (first | apply Kd.R_alloc | apply Kd.R_drewN | apply Kd.R_drew)); exact HO_8.out⟩, ⟨by (with_reducible repeat (first | apply Kd.R_alloc | apply Kd.R_drewN | apply Kd.R_drew)); exact HO_16.out⟩, ⟨by repeat (first | (with_reducible first | exact HB.out | apply below_alloc | apply pw_below_drewN | apply below_drew1) | exact HB.out)⟩⟩
                                  · rw [if_neg c45] at H
                                    exact absurd H (by simp)
                                · rw [if_neg c44] at H
                                  exact absurd H (by simp)
                              · rw [if_neg c43] at H
                                have c43b0 : decide (x101_4 < (x8_1.length : Int)) = false := decide_eq_false c43
                                clear c43
                                by_cases c47 : 0 ≤ x17_4
                                · rw [if_pos c47] at H
                                  have c47b0 := eq_true c47
                                  have c47b1 : decide (0 ≤ x17_4) = true := decide_eq_true c47
                                  clear c47
                                  by_cases c48 : x17_4 ≤ (x7_1.length : Int)
                                  · rw [if_pos c48] at H
                                    have c48b0 := eq_true c48
                                    have c48b1 : decide (x17_4 ≤ (x7_1.length : Int)) = true := decide_eq_true c48
                                    clear c48
                                    obtain ⟨y252, hy252⟩ : ∃ y_ : List ByteArray, y_ = (x7_1.take (x17_4 : Int).toNat) := ⟨_, rfl⟩
                                    replace H : ((ddilaw16_texts.f k4 t247 y252).bind fun t256 => (if t256 = true then (if t248 ≤ ji37 then ((ddilaw16_awake.f k4).bind fun t257 => (some t257)) else (some false)) else (some false))) = some r := by first | (rw [hy252]; with_reducible exact H) | (have H2_ := (Option.bind_some _ _).symm.trans H; rw [hy252]; with_reducible exact H2_) | (have H2_ := (Option.bind_some _ _).symm.trans H; with_reducible exact H2_) | with_reducible exact H | (rw [hy252]; exact H) | exact H
                                    have Ny252 := Aside0.mk hy252
                                    clear hy252
                                    replace H := Option.bind_eq_some_iff.mp H
                                    obtain ⟨t256, A490, H⟩ := H
                                    replace H : (if t256 = true then (if t248 ≤ ji37 then ((ddilaw16_awake.f k4).bind fun t257 => (some t257)) else (some false)) else (some false)) = some r := H
                                    have A49 := Aside0.mk A490
                                    clear A490
                                    by_cases c50 : t256 = true
                                    · subst c50
                                      have H1 : (if t248 ≤ ji37 then ((ddilaw16_awake.f k4).bind fun t257 => (some t257)) else (some false)) = some r := by rw [if_pos rfl] at H; exact H
                                      clear H
                                      have H := H1
                                      clear H1
                                      by_cases c51 : t248 ≤ ji37
                                      · rw [if_pos c51] at H
                                        have c51b0 : decide (t248 ≤ ji37) = true := decide_eq_true c51
                                        clear c51
                                        replace H := Option.bind_eq_some_iff.mp H
                                        obtain ⟨t257, A520, H⟩ := H
                                        replace H : (some t257) = some r := H
                                        have A52 := Aside0.mk A520
                                        clear A520
                                        obtain rfl := Option.some.inj H
                                        obtain ⟨Ao54, co54, eo54⟩ := Kd.R_slice HO_7.out
                                        subst eo54
                                        have q53 : (x17_4 : Int) ≤ ((x7_1.length : Int) : Int) := of_decide_eq_true (by first | (with_reducible assumption) | assumption)
                                        obtain ⟨i053, hi053, _, hsz53, _⟩ := info_parts info9
                                        have hroom53 : x7_1.length ≤ co54 := (Kd.R_reads' HO_7.out).2.1
                                        have hC53 : Kd.C Kd.string _ Ao54 x7_1.length x7_1 := (Kd.R_reads' HO_7.out).2.2
                                        have hcut53 := cut_to (P := Try.prog) 30 9 .i64 Try.underlying30 hi053 Ao54 x7_1.length co54 x17_4 (of_decide_eq_true (by first | (with_reducible assumption) | assumption)) q53 hroom53
                                        have hr53 := Kd.C_take (m := (x17_4 : Int).toNat) hC53 (by omega)
                                        have hy53 : y252.length = (x17_4 : Int).toNat := (by rw [Ny252.out, List.length_take]; omega)
                                        rw [← Ny252.out] at hr53
                                        rw [← hy53] at hcut53
                                        have HR255 := Aside0.mk hr53
                                        have HC255 := Aside0.mk (show y252.length ≤ co54 from by omega)
                                        clear hr53 hC53 hroom53 hi053 hsz53
                                        have KY53 := Aside0.mk hy53
                                        clear hy53
                                        have KL53 := Aside0.mk (show (x17_4 : Int).toNat ≤ x7_1.length from by omega)
                                        replace q53 := eq_true q53
                                        obtain ⟨Ao55, co55, eo55⟩ := Kd.R_slice HO_16.out
                                        subst eo55
                                        go_wp2_with (first | ((with_reducible refine gate_callee (f := 18) rfl ?_); refine goesL_ (some 117) rfl rfl Try.func18 (by kernel_rfl) rfl #[.slice Ao55 t247.length co55, .slice Ao54 y252.length co54] rfl (by (try simp only [List.map_toArray, List.map_cons, List.map_nil]); first | done | rfl | (simp only [List.length_drop, List.length_take]; rfl)) ?_; (with_reducible refine (ddilaw16_texts.calls k4 _ _ t247 _ _ y252 true _ ?side1 ?side2 ?side3 ?side4 A49.out).mono ?_); (case side1 => repeat (first | exact (Kd.R_reads' HO_16.out).2.2 | (with_reducible refine Kd.C_alloc ?_ _) | (with_reducible refine Kd.C_drewN ?_ _) | (with_reducible refine Kd.C_drew ?_))); (case side2 => exact (Kd.R_reads' HO_16.out).2.1); (case side3 => repeat (first | exact (by repeat (first | (with_reducible exact HR255.out) | (with_reducible refine Kd.C_alloc ?_ _) | (with_reducible refine Kd.C_drewN ?_ _) | (with_reducible refine Kd.C_drew ?_) | exact HR255.out)) | (with_reducible refine Kd.C_alloc ?_ _) | (with_reducible refine Kd.C_drewN ?_ _) | (with_reducible refine Kd.C_drew ?_))); (case side4 => exact HC255.out); rintro e w' ⟨rfl, ⟨nd, rfl⟩⟩; refine ⟨_, rfl, ?_⟩) | (go_at_call 15; (with_reducible refine (ddilaw16_awake.calls k4  t257 _ A52.out).mono ?_); rintro e w56 ⟨rfl, hb⟩; have n0_ := Aside0.mk (Kd.R_below (by (with_reducible repeat (first | apply Kd.R_alloc | apply Kd.R_drewN | apply Kd.R_drew)); exact HO_7.out) hb); have n1_ := Aside0.mk (Kd.R_below (by (with_reducible repeat (first | apply Kd.R_alloc | apply Kd.R_drewN | apply Kd.R_drew)); exact HO_8.out) hb); have n2_ := Aside0.mk (Kd.R_below (by (with_reducible repeat (first | apply Kd.R_alloc | apply Kd.R_drewN | apply Kd.R_drew)); exact HO_16.out) hb); have n3_ := Aside0.mk (Kd.C_below (by repeat (first | (with_reducible exact HR255.out) | (with_reducible refine Kd.C_alloc ?_ _) | (with_reducible refine Kd.C_drewN ?_ _) | (with_reducible refine Kd.C_drew ?_) | exact HR255.out)) hb); have n4_ := Aside0.mk (below_step (by repeat (first | (with_reducible first | exact HB.out | apply below_alloc | apply pw_below_drewN | apply below_drew1) | exact HB.out)) hb); clear HO_7; clear HO_8; clear HO_16; clear HR255; clear HB; have HO_7 := n0_; have HO_8 := n1_; have HO_16 := n2_; have HR255 := n3_; have HB := n4_; clear n0_ n1_ n2_ n3_ n4_; (try clear hb); (try clear hb2); (try clear hk); (try clear hi)))
                                        go_ret
                                        exact ⟨by first | rfl | (simp [errW_none, errW_some] <;> rfl) | (simp only [← hji37]; first | rfl | (simp [errW_none, errW_some] <;> rfl)) | (simp [*, errW_none, errW_some] <;> rfl), by repeat (first | (with_reducible first | exact HB.out | apply below_alloc | apply pw_below_drewN | apply below_drew1) | exact HB.out)⟩
                                      · rw [if_neg c51] at H
                                        have c51b0 : decide (t248 ≤ ji37) = false := decide_eq_false c51
                                        clear c51
                                        obtain rfl := Option.some.inj H
                                        obtain ⟨Ao58, co58, eo58⟩ := Kd.R_slice HO_7.out
                                        subst eo58
                                        have q57 : (x17_4 : Int) ≤ ((x7_1.length : Int) : Int) := of_decide_eq_true (by first | (with_reducible assumption) | assumption)
                                        obtain ⟨i057, hi057, _, hsz57, _⟩ := info_parts info9
                                        have hroom57 : x7_1.length ≤ co58 := (Kd.R_reads' HO_7.out).2.1
                                        have hC57 : Kd.C Kd.string _ Ao58 x7_1.length x7_1 := (Kd.R_reads' HO_7.out).2.2
                                        have hcut57 := cut_to (P := Try.prog) 30 9 .i64 Try.underlying30 hi057 Ao58 x7_1.length co58 x17_4 (of_decide_eq_true (by first | (with_reducible assumption) | assumption)) q57 hroom57
                                        have hr57 := Kd.C_take (m := (x17_4 : Int).toNat) hC57 (by omega)
                                        have hy57 : y252.length = (x17_4 : Int).toNat := (by rw [Ny252.out, List.length_take]; omega)
                                        rw [← Ny252.out] at hr57
                                        rw [← hy57] at hcut57
                                        have HR255 := Aside0.mk hr57
                                        have HC255 := Aside0.mk (show y252.length ≤ co58 from by omega)
                                        clear hr57 hC57 hroom57 hi057 hsz57
                                        have KY57 := Aside0.mk hy57
                                        clear hy57
                                        have KL57 := Aside0.mk (show (x17_4 : Int).toNat ≤ x7_1.length from by omega)
                                        replace q57 := eq_true q57
                                        obtain ⟨Ao59, co59, eo59⟩ := Kd.R_slice HO_16.out
                                        subst eo59
                                        go_wp2_with (first | ((with_reducible refine gate_callee (f := 18) rfl ?_); refine goesL_ (some 117) rfl rfl Try.func18 (by kernel_rfl) rfl #[.slice Ao59 t247.length co59, .slice Ao58 y252.length co58] rfl (by (try simp only [List.map_toArray, List.map_cons, List.map_nil]); first | done | rfl | (simp only [List.length_drop, List.length_take]; rfl)) ?_; (with_reducible refine (ddilaw16_texts.calls k4 _ _ t247 _ _ y252 true _ ?side1 ?side2 ?side3 ?side4 A49.out).mono ?_); (case side1 => repeat (first | exact (Kd.R_reads' HO_16.out).2.2 | (with_reducible refine Kd.C_alloc ?_ _) | (with_reducible refine Kd.C_drewN ?_ _) | (with_reducible refine Kd.C_drew ?_))); (case side2 => exact (Kd.R_reads' HO_16.out).2.1); (case side3 => repeat (first | exact (by repeat (first | (with_reducible exact HR255.out) | (with_reducible refine Kd.C_alloc ?_ _) | (with_reducible refine Kd.C_drewN ?_ _) | (with_reducible refine Kd.C_drew ?_) | exact HR255.out)) | (with_reducible refine Kd.C_alloc ?_ _) | (with_reducible refine Kd.C_drewN ?_ _) | (with_reducible refine Kd.C_drew ?_))); (case side4 => exact HC255.out); rintro e w' ⟨rfl, ⟨nd, rfl⟩⟩; refine ⟨_, rfl, ?_⟩))
                                        go_ret
                                        exact ⟨by first | rfl | (simp [errW_none, errW_some] <;> rfl) | (simp only [← hji37]; first | rfl | (simp [errW_none, errW_some] <;> rfl)) | (simp [*, errW_none, errW_some] <;> rfl), by repeat (first | (with_reducible first | exact HB.out | apply below_alloc | apply pw_below_drewN | apply below_drew1) | exact HB.out)⟩
                                    · replace c50 := Bool.eq_false_iff.mpr c50
                                      subst c50
                                      have H1 : (some false) = some r := by rw [if_neg (show ¬ (false = true) by decide)] at H; exact H
                                      clear H
                                      have H := H1
                                      clear H1
                                      obtain rfl := Option.some.inj H
                                      obtain ⟨Ao61, co61, eo61⟩ := Kd.R_slice HO_7.out
                                      subst eo61
                                      have q60 : (x17_4 : Int) ≤ ((x7_1.length : Int) : Int) := of_decide_eq_true (by first | (with_reducible assumption) | assumption)
                                      obtain ⟨i060, hi060, _, hsz60, _⟩ := info_parts info9
                                      have hroom60 : x7_1.length ≤ co61 := (Kd.R_reads' HO_7.out).2.1
                                      have hC60 : Kd.C Kd.string _ Ao61 x7_1.length x7_1 := (Kd.R_reads' HO_7.out).2.2
                                      have hcut60 := cut_to (P := Try.prog) 30 9 .i64 Try.underlying30 hi060 Ao61 x7_1.length co61 x17_4 (of_decide_eq_true (by first | (with_reducible assumption) | assumption)) q60 hroom60
                                      have hr60 := Kd.C_take (m := (x17_4 : Int).toNat) hC60 (by omega)
                                      have hy60 : y252.length = (x17_4 : Int).toNat := (by rw [Ny252.out, List.length_take]; omega)
                                      rw [← Ny252.out] at hr60
                                      rw [← hy60] at hcut60
                                      have HR255 := Aside0.mk hr60
                                      have HC255 := Aside0.mk (show y252.length ≤ co61 from by omega)
                                      clear hr60 hC60 hroom60 hi060 hsz60
                                      have KY60 := Aside0.mk hy60
                                      clear hy60
                                      have KL60 := Aside0.mk (show (x17_4 : Int).toNat ≤ x7_1.length from by omega)
                                      replace q60 := eq_true q60
                                      obtain ⟨Ao62, co62, eo62⟩ := Kd.R_slice HO_16.out
                                      subst eo62
                                      go_wp2_with (first | ((with_reducible refine gate_callee (f := 18) rfl ?_); refine goesL_ (some 117) rfl rfl Try.func18 (by kernel_rfl) rfl #[.slice Ao62 t247.length co62, .slice Ao61 y252.length co61] rfl (by (try simp only [List.map_toArray, List.map_cons, List.map_nil]); first | done | rfl | (simp only [List.length_drop, List.length_take]; rfl)) ?_; (with_reducible refine (ddilaw16_texts.calls k4 _ _ t247 _ _ y252 false _ ?side1 ?side2 ?side3 ?side4 A49.out).mono ?_); (case side1 => repeat (first | exact (Kd.R_reads' HO_16.out).2.2 | (with_reducible refine Kd.C_alloc ?_ _) | (with_reducible refine Kd.C_drewN ?_ _) | (with_reducible refine Kd.C_drew ?_))); (case side2 => exact (Kd.R_reads' HO_16.out).2.1); (case side3 => repeat (first | exact (by repeat (first | (with_reducible exact HR255.out) | (with_reducible refine Kd.C_alloc ?_ _) | (with_reducible refine Kd.C_drewN ?_ _) | (with_reducible refine Kd.C_drew ?_) | exact HR255.out)) | (with_reducible refine Kd.C_alloc ?_ _) | (with_reducible refine Kd.C_drewN ?_ _) | (with_reducible refine Kd.C_drew ?_))); (case side4 => exact HC255.out); rintro e w' ⟨rfl, ⟨nd, rfl⟩⟩; refine ⟨_, rfl, ?_⟩))
                                      go_ret
                                      exact ⟨by first | rfl | (simp [errW_none, errW_some] <;> rfl) | (simp only [← hji37]; first | rfl | (simp [errW_none, errW_some] <;> rfl)) | (simp [*, errW_none, errW_some] <;> rfl), by repeat (first | (with_reducible first | exact HB.out | apply below_alloc | apply pw_below_drewN | apply below_drew1) | exact HB.out)⟩
                                  · rw [if_neg c48] at H
                                    exact absurd H (by simp)
                                · rw [if_neg c47] at H
                                  exact absurd H (by simp)
                        · rw [if_neg c39] at H
                          exact absurd H (by simp)
                      · rw [if_neg c38] at H
                        exact absurd H (by simp)
            · rw [if_neg c24] at H
              exact absurd H (by simp)

/-- THE ONE PURE STATEMENT of ddilaw16_WalBack: ours. -/
def ddilaw16_WalBack.Pure : Prop := ∀ (l0 : List ByteArray) (a1 : ByteArray) (a2 : Int), (l0.length * 16 ≤ 140737488351232 ∧ l0.length ≤ maxLen ∧ ∀ y0_ ∈ l0, y0_.size ≤ 140737488351232) → a1.size ≤ 140737488351232 → (Lit.int .i64 a2).wf = true → ∃ k, ddilaw16_WalBack.f k l0 a1 a2 = some true
theorem ddilaw16_WalBack.walk (P : ddilaw16_WalBack.Pure) (A0 : Option Addr) (c0 : Nat) (l0 : List ByteArray) (a1 : ByteArray) (a2 : Int) (w : World) (hr0 : Kd.C Kd.string w A0 l0.length l0) (hc0 : l0.length ≤ c0) (w0 : (l0.length * 16 ≤ 140737488351232 ∧ l0.length ≤ maxLen ∧ ∀ y0_ ∈ l0, y0_.size ≤ 140737488351232)) (w1 : a1.size ≤ 140737488351232) (w2 : (Lit.int .i64 a2).wf = true) :
    Calls Try.prog 6 #[.slice A0 l0.length c0, .string a1, .int .i64 a2] w fun e w' => e = .returned (.bool true) ∧ Below w.heap.size w w' := by
  obtain ⟨k, h⟩ := P l0 a1 a2 w0 w1 w2
  refine (ddilaw16_WalBack.calls k A0 c0 l0 a1 a2 true w hr0 hc0 h).mono ?_
  rintro e w' ⟨rfl, hd⟩
  exact ⟨rfl, hd⟩

end Go.Proofs.Ytmeamllhhgcpgaa.QA
