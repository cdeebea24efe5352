-- Written by this session's own program (wip/xprint) out of the translation; Lean checks it.
import Derived.Test.YtmeamllhhgcpgaaQAx0
import Derived.Test.YtmeamllhhgcpgaaQAx1
import Derived.Test.YtmeamllhhgcpgaaQAx2
import Derived.Test.YtmeamllhhgcpgaaQAx5
import Derived.Test.YtmeamllhhgcpgaaQAx6
import Derived.Test.YtmeamllhhgcpgaaQAx7
import Derived.Test.YtmeamllhhgcpgaaQAx10
import Derived.Test.YtmeamllhhgcpgaaQAx13
import Derived.Test.YtmeamllhhgcpgaaQAx14
import Derived.Test.YtmeamllhhgcpgaaXO
namespace Go.Proofs.Ytmeamllhhgcpgaa.QA
open Go.RowKit Go.Proofs.YtmeamllhhgcpgaaW.PrintWords Go.Proofs.YtmeamllhhgcpgaaW.PrintLast Go.Proofs.YtmeamllhhgcpgaaW.PrintMore
attribute [local go_sem] max2_int min2_int max_two min_two max_three min_three max_four min_four   -- for this text's walks alone
attribute [local go_sem high] Go.Proofs.Ytmeamllhhgcpgaa.XW.cell_setCell_lit
set_option linter.unusedVariables false
set_option linter.unusedSimpArgs false

attribute [local go_sem high] eqA36
/-! ### ddilaw16_WalPlays: function 8 -/
mutual
def ddilaw16_WalPlays.l0 : Nat → List (S46) → Int → ByteArray → Int → Int → Bool → ByteArray → Int → Int → Bool → Option (Bool)
  | 0, _, _, _, _, _, _, _, _, _, _ => none
  | k + 1, x1, x7, x308000, x308001, x308002, x308003, x309000, x309001, x309002, x309003 => if x7 < (x1.length : Int) then (ddilaw16_WalPlays.j1 k x1 x7 (decide (x7 < 20)) x308000 x308001 x308002 x308003 x309000 x309001 x309002 x309003) else (ddilaw16_WalPlays.j1 k x1 x7 false x308000 x308001 x308002 x308003 x309000 x309001 x309002 x309003)
def ddilaw16_WalPlays.j1 : Nat → List (S46) → Int → Bool → ByteArray → Int → Int → Bool → ByteArray → Int → Int → Bool → Option (Bool)
  | 0, _, _, _, _, _, _, _, _, _, _, _ => none
  | k + 1, x1, x7, x26, x308000, x308001, x308002, x308003, x309000, x309001, x309002, x309003 => if x26 = true then (if 0 ≤ x7 then (if x7 < (x1.length : Int) then ((ddilaw16_cut.f ((rd_T46 x1 x7).f2) 300).bind fun t310 => (if ((rd_T46 x1 x7).f0) = 0 then ((wal_Write.f k x308000 x308001 x308002 x308003 t310).bind fun bt312 => ((ddiref16_Write.f x309000 x309001 x309002 x309003 t310).bind fun bt317 => (ddilaw16_WalPlays.j2 k x1 x7 bt312.2.2.2.2 bt317.2.2.2.2 ([] : List ByteArray) ([] : List ByteArray) bt312.1 bt312.2.1 bt312.2.2.1 bt312.2.2.2.1 bt317.1 bt317.2.1 bt317.2.2.1 bt317.2.2.2.1))) else (if ((rd_T46 x1 x7).f0) = 1 then ((wal_Sync.f x308000 x308001 x308002 x308003).bind fun bt322 => ((ddiref16_Sync.f x309000 x309001 x309002 x309003).bind fun bt327 => (ddilaw16_WalPlays.j2 k x1 x7 bt322.2.2.2.2 bt327.2.2.2.2 ([] : List ByteArray) ([] : List ByteArray) bt322.1 bt322.2.1 bt322.2.2.1 bt322.2.2.2.1 bt327.1 bt327.2.1 bt327.2.2.1 bt327.2.2.2.1))) else (if ((rd_T46 x1 x7).f0) = 2 then ((wal_Crash.f x308000 x308001 x308002 x308003 ((rd_T46 x1 x7).f1)).bind fun bt333 => ((ddiref16_Crash.f x309000 x309001 x309002 x309003 ((rd_T46 x1 x7).f1)).bind fun bt338 => (ddilaw16_WalPlays.j2 k x1 x7 0 0 ([] : List ByteArray) ([] : List ByteArray) bt333.1 bt333.2.1 bt333.2.2.1 bt333.2.2.2 bt338.1 bt338.2.1 bt338.2.2.1 bt338.2.2.2))) else (if ((rd_T46 x1 x7).f0) = 3 then ((wal_Open.f k x308000 x308001 x308002 x308003).bind fun bt342 => ((ddiref16_Open.f k x309000 x309001 x309002 x309003).bind fun bt350 => (ddilaw16_WalPlays.j2 k x1 x7 bt342.2.2.2.2.2 bt350.2.2.2.2.2 bt342.2.2.2.2.1 bt350.2.2.2.2.1 bt342.1 bt342.2.1 bt342.2.2.1 bt342.2.2.2.1 bt350.1 bt350.2.1 bt350.2.2.1 bt350.2.2.2.1))) else ((wal_Append.f k x308000 x308001 x308002 x308003 t310).bind fun bt358 => ((ddiref16_Append.f k x309000 x309001 x309002 x309003 t310).bind fun bt363 => (ddilaw16_WalPlays.j2 k x1 x7 bt358.2.2.2.2 bt363.2.2.2.2 ([] : List ByteArray) ([] : List ByteArray) bt358.1 bt358.2.1 bt358.2.2.1 bt358.2.2.2.1 bt363.1 bt363.2.1 bt363.2.2.1 bt363.2.2.2.1)))))))) else (none)) else (none)) else ((ddilaw16_awake.f k).bind fun t369 => (some t369))
def ddilaw16_WalPlays.j2 : Nat → List (S46) → Int → Int → Int → List ByteArray → List ByteArray → ByteArray → Int → Int → Bool → ByteArray → Int → Int → Bool → Option (Bool)
  | 0, _, _, _, _, _, _, _, _, _, _, _, _, _, _ => none
  | k + 1, x1, x7, x9, x10, x11, x12, x308000, x308001, x308002, x308003, x309000, x309001, x309002, x309003 => if (!(x308000.toList == x309000.toList) || (!(x308001 == x309001) || (!(x308002 == x309002) || (!(x308003 == x309003))))) = true then (ddilaw16_WalPlays.j3 k x1 x7 true x308000 x308001 x308002 x308003 x309000 x309001 x309002 x309003) else (if x9 = x10 then ((ddilaw16_texts.f k x11 x12).bind fun t368 => (ddilaw16_WalPlays.j3 k x1 x7 (!t368) x308000 x308001 x308002 x308003 x309000 x309001 x309002 x309003)) else (ddilaw16_WalPlays.j3 k x1 x7 true x308000 x308001 x308002 x308003 x309000 x309001 x309002 x309003))
def ddilaw16_WalPlays.j3 : Nat → List (S46) → Int → Bool → ByteArray → Int → Int → Bool → ByteArray → Int → Int → Bool → Option (Bool)
  | 0, _, _, _, _, _, _, _, _, _, _, _ => none
  | k + 1, x1, x7, x121, x308000, x308001, x308002, x308003, x309000, x309001, x309002, x309003 => if x121 = true then (some false) else (ddilaw16_WalPlays.l0 k x1 (wrap64 (x7 + 1)) x308000 x308001 x308002 x308003 x309000 x309001 x309002 x309003)
end
def ddilaw16_WalPlays.f (k : Nat) (a0_0 : ByteArray) (a0_1 : Int) (a0_2 : Int) (a0_3 : Bool) (l1 : List (S46)) : Option (Bool) := (ddilaw16_cut.f a0_0 2000).bind fun t306 => (ddilaw16_WalPlays.l0 k l1 0 t306 a0_1 a0_2 a0_3 t306 a0_1 a0_2 a0_3)
theorem ddilaw16_WalPlays.mono_l : ∀ k, (∀ y0 y1 y2 y3 y4 y5 y6 y7 y8 y9, LeO (ddilaw16_WalPlays.l0 k y0 y1 y2 y3 y4 y5 y6 y7 y8 y9) (ddilaw16_WalPlays.l0 (k + 1) y0 y1 y2 y3 y4 y5 y6 y7 y8 y9)) ∧ (∀ y0 y1 y2 y3 y4 y5 y6 y7 y8 y9 y10, LeO (ddilaw16_WalPlays.j1 k y0 y1 y2 y3 y4 y5 y6 y7 y8 y9 y10) (ddilaw16_WalPlays.j1 (k + 1) y0 y1 y2 y3 y4 y5 y6 y7 y8 y9 y10)) ∧ (∀ y0 y1 y2 y3 y4 y5 y6 y7 y8 y9 y10 y11 y12 y13, LeO (ddilaw16_WalPlays.j2 k y0 y1 y2 y3 y4 y5 y6 y7 y8 y9 y10 y11 y12 y13) (ddilaw16_WalPlays.j2 (k + 1) y0 y1 y2 y3 y4 y5 y6 y7 y8 y9 y10 y11 y12 y13)) ∧ (∀ y0 y1 y2 y3 y4 y5 y6 y7 y8 y9 y10, LeO (ddilaw16_WalPlays.j3 k y0 y1 y2 y3 y4 y5 y6 y7 y8 y9 y10) (ddilaw16_WalPlays.j3 (k + 1) y0 y1 y2 y3 y4 y5 y6 y7 y8 y9 y10))
  | 0 => ⟨fun _ _ _ _ _ _ _ _ _ _ r h => by simp [ddilaw16_WalPlays.l0] at h, fun _ _ _ _ _ _ _ _ _ _ _ r h => by simp [ddilaw16_WalPlays.j1] at h, fun _ _ _ _ _ _ _ _ _ _ _ _ _ _ r h => by simp [ddilaw16_WalPlays.j2] at h, fun _ _ _ _ _ _ _ _ _ _ _ r h => by simp [ddilaw16_WalPlays.j3] at h⟩
  | k + 1 => by
    obtain ⟨ih0, ih1, ih2, ih3⟩ := ddilaw16_WalPlays.mono_l k
    refine ⟨?_, ?_, ?_, ?_⟩
    · intro y0 y1 y2 y3 y4 y5 y6 y7 y8 y9
      unfold ddilaw16_WalPlays.l0
      repeat' first
      | (with_reducible exact ih0 _ _ _ _ _ _ _ _ _ _)
      | (with_reducible exact ih1 _ _ _ _ _ _ _ _ _ _ _)
      | (with_reducible exact ih2 _ _ _ _ _ _ _ _ _ _ _ _ _ _)
      | (with_reducible exact ih3 _ _ _ _ _ _ _ _ _ _ _)
      | (with_reducible exact ddilaw16_awake.mono _)
      | (with_reducible exact ddilaw16_texts.mono _ _ _)
      | (with_reducible exact ddiref16_Append.mono _ _ _ _ _ _)
      | (with_reducible exact ddiref16_Open.mono _ _ _ _ _)
      | (with_reducible exact wal_Append.mono _ _ _ _ _ _)
      | (with_reducible exact wal_Open.mono _ _ _ _ _)
      | (with_reducible exact wal_Write.mono _ _ _ _ _ _)
      | (with_reducible exact LeO.refl _)
      | (with_reducible exact LeO.none _)
      | (with_reducible refine LeO.ite ?_ ?_)
      | (with_reducible refine LeO.bind ?_ (fun _ => ?_))
      | exact ih0 _ _ _ _ _ _ _ _ _ _
      | exact ih1 _ _ _ _ _ _ _ _ _ _ _
      | exact ih2 _ _ _ _ _ _ _ _ _ _ _ _ _ _
      | exact ih3 _ _ _ _ _ _ _ _ _ _ _
      | exact ddilaw16_awake.mono _
      | exact ddilaw16_texts.mono _ _ _
      | exact ddiref16_Append.mono _ _ _ _ _ _
      | exact ddiref16_Open.mono _ _ _ _ _
      | exact wal_Append.mono _ _ _ _ _ _
      | exact wal_Open.mono _ _ _ _ _
      | exact wal_Write.mono _ _ _ _ _ _
      | exact LeO.none _
      | refine LeO.ite ?_ ?_
      | refine LeO.bind ?_ (fun _ => ?_)
    · intro y0 y1 y2 y3 y4 y5 y6 y7 y8 y9 y10
      unfold ddilaw16_WalPlays.j1
      repeat' first
      | (with_reducible exact ih0 _ _ _ _ _ _ _ _ _ _)
      | (with_reducible exact ih1 _ _ _ _ _ _ _ _ _ _ _)
      | (with_reducible exact ih2 _ _ _ _ _ _ _ _ _ _ _ _ _ _)
      | (with_reducible exact ih3 _ _ _ _ _ _ _ _ _ _ _)
      | (with_reducible exact ddilaw16_awake.mono _)
      | (with_reducible exact ddilaw16_texts.mono _ _ _)
      | (with_reducible exact ddiref16_Append.mono _ _ _ _ _ _)
      | (with_reducible exact ddiref16_Open.mono _ _ _ _ _)
      | (with_reducible exact wal_Append.mono _ _ _ _ _ _)
      | (with_reducible exact wal_Open.mono _ _ _ _ _)
      | (with_reducible exact wal_Write.mono _ _ _ _ _ _)
      | (with_reducible exact LeO.refl _)
      | (with_reducible exact LeO.none _)
      | (with_reducible refine LeO.ite ?_ ?_)
      | (with_reducible refine LeO.bind ?_ (fun _ => ?_))
      | exact ih0 _ _ _ _ _ _ _ _ _ _
      | exact ih1 _ _ _ _ _ _ _ _ _ _ _
      | exact ih2 _ _ _ _ _ _ _ _ _ _ _ _ _ _
      | exact ih3 _ _ _ _ _ _ _ _ _ _ _
      | exact ddilaw16_awake.mono _
      | exact ddilaw16_texts.mono _ _ _
      | exact ddiref16_Append.mono _ _ _ _ _ _
      | exact ddiref16_Open.mono _ _ _ _ _
      | exact wal_Append.mono _ _ _ _ _ _
      | exact wal_Open.mono _ _ _ _ _
      | exact wal_Write.mono _ _ _ _ _ _
      | exact LeO.none _
      | refine LeO.ite ?_ ?_
      | refine LeO.bind ?_ (fun _ => ?_)
    · intro y0 y1 y2 y3 y4 y5 y6 y7 y8 y9 y10 y11 y12 y13
      unfold ddilaw16_WalPlays.j2
      repeat' first
      | (with_reducible exact ih0 _ _ _ _ _ _ _ _ _ _)
      | (with_reducible exact ih1 _ _ _ _ _ _ _ _ _ _ _)
      | (with_reducible exact ih2 _ _ _ _ _ _ _ _ _ _ _ _ _ _)
      | (with_reducible exact ih3 _ _ _ _ _ _ _ _ _ _ _)
      | (with_reducible exact ddilaw16_awake.mono _)
      | (with_reducible exact ddilaw16_texts.mono _ _ _)
      | (with_reducible exact ddiref16_Append.mono _ _ _ _ _ _)
      | (with_reducible exact ddiref16_Open.mono _ _ _ _ _)
      | (with_reducible exact wal_Append.mono _ _ _ _ _ _)
      | (with_reducible exact wal_Open.mono _ _ _ _ _)
      | (with_reducible exact wal_Write.mono _ _ _ _ _ _)
      | (with_reducible exact LeO.refl _)
      | (with_reducible exact LeO.none _)
      | (with_reducible refine LeO.ite ?_ ?_)
      | (with_reducible refine LeO.bind ?_ (fun _ => ?_))
      | exact ih0 _ _ _ _ _ _ _ _ _ _
      | exact ih1 _ _ _ _ _ _ _ _ _ _ _
      | exact ih2 _ _ _ _ _ _ _ _ _ _ _ _ _ _
      | exact ih3 _ _ _ _ _ _ _ _ _ _ _
      | exact ddilaw16_awake.mono _
      | exact ddilaw16_texts.mono _ _ _
      | exact ddiref16_Append.mono _ _ _ _ _ _
      | exact ddiref16_Open.mono _ _ _ _ _
      | exact wal_Append.mono _ _ _ _ _ _
      | exact wal_Open.mono _ _ _ _ _
      | exact wal_Write.mono _ _ _ _ _ _
      | exact LeO.none _
      | refine LeO.ite ?_ ?_
      | refine LeO.bind ?_ (fun _ => ?_)
    · intro y0 y1 y2 y3 y4 y5 y6 y7 y8 y9 y10
      unfold ddilaw16_WalPlays.j3
      repeat' first
      | (with_reducible exact ih0 _ _ _ _ _ _ _ _ _ _)
      | (with_reducible exact ih1 _ _ _ _ _ _ _ _ _ _ _)
      | (with_reducible exact ih2 _ _ _ _ _ _ _ _ _ _ _ _ _ _)
      | (with_reducible exact ih3 _ _ _ _ _ _ _ _ _ _ _)
      | (with_reducible exact ddilaw16_awake.mono _)
      | (with_reducible exact ddilaw16_texts.mono _ _ _)
      | (with_reducible exact ddiref16_Append.mono _ _ _ _ _ _)
      | (with_reducible exact ddiref16_Open.mono _ _ _ _ _)
      | (with_reducible exact wal_Append.mono _ _ _ _ _ _)
      | (with_reducible exact wal_Open.mono _ _ _ _ _)
      | (with_reducible exact wal_Write.mono _ _ _ _ _ _)
      | (with_reducible exact LeO.refl _)
      | (with_reducible exact LeO.none _)
      | (with_reducible refine LeO.ite ?_ ?_)
      | (with_reducible refine LeO.bind ?_ (fun _ => ?_))
      | exact ih0 _ _ _ _ _ _ _ _ _ _
      | exact ih1 _ _ _ _ _ _ _ _ _ _ _
      | exact ih2 _ _ _ _ _ _ _ _ _ _ _ _ _ _
      | exact ih3 _ _ _ _ _ _ _ _ _ _ _
      | exact ddilaw16_awake.mono _
      | exact ddilaw16_texts.mono _ _ _
      | exact ddiref16_Append.mono _ _ _ _ _ _
      | exact ddiref16_Open.mono _ _ _ _ _
      | exact wal_Append.mono _ _ _ _ _ _
      | exact wal_Open.mono _ _ _ _ _
      | exact wal_Write.mono _ _ _ _ _ _
      | exact LeO.none _
      | refine LeO.ite ?_ ?_
      | refine LeO.bind ?_ (fun _ => ?_)
theorem ddilaw16_WalPlays.mono : ∀ a0 a1 a2 a3 a4 k, LeO (ddilaw16_WalPlays.f k a0 a1 a2 a3 a4) (ddilaw16_WalPlays.f (k + 1) a0 a1 a2 a3 a4) := by
  intro a0 a1 a2 a3 a4 k
  obtain ⟨ih0, ih1, ih2, ih3⟩ := ddilaw16_WalPlays.mono_l k
  unfold ddilaw16_WalPlays.f
  repeat' first
      | (with_reducible exact ih0 _ _ _ _ _ _ _ _ _ _)
      | (with_reducible exact ih1 _ _ _ _ _ _ _ _ _ _ _)
      | (with_reducible exact ih2 _ _ _ _ _ _ _ _ _ _ _ _ _ _)
      | (with_reducible exact ih3 _ _ _ _ _ _ _ _ _ _ _)
      | (with_reducible exact ddilaw16_awake.mono _)
      | (with_reducible exact ddilaw16_texts.mono _ _ _)
      | (with_reducible exact ddiref16_Append.mono _ _ _ _ _ _)
      | (with_reducible exact ddiref16_Open.mono _ _ _ _ _)
      | (with_reducible exact wal_Append.mono _ _ _ _ _ _)
      | (with_reducible exact wal_Open.mono _ _ _ _ _)
      | (with_reducible exact wal_Write.mono _ _ _ _ _ _)
      | (with_reducible exact LeO.refl _)
      | (with_reducible exact LeO.none _)
      | (with_reducible refine LeO.ite ?_ ?_)
      | (with_reducible refine LeO.bind ?_ (fun _ => ?_))
      | exact ih0 _ _ _ _ _ _ _ _ _ _
      | exact ih1 _ _ _ _ _ _ _ _ _ _ _
      | exact ih2 _ _ _ _ _ _ _ _ _ _ _ _ _ _
      | exact ih3 _ _ _ _ _ _ _ _ _ _ _
      | exact ddilaw16_awake.mono _
      | exact ddilaw16_texts.mono _ _ _
      | exact ddiref16_Append.mono _ _ _ _ _ _
      | exact ddiref16_Open.mono _ _ _ _ _
      | exact wal_Append.mono _ _ _ _ _ _
      | exact wal_Open.mono _ _ _ _ _
      | exact wal_Write.mono _ _ _ _ _ _
      | exact LeO.none _
      | refine LeO.ite ?_ ?_
      | refine LeO.bind ?_ (fun _ => ?_)
def ddilaw16_WalPlays.T19 : Bool × List (List Nat × List Nat) := (true, [([], []), ([], []), ([], []), ([1, 2], [1, 2]), ([3], [3]), ([4], [4]), ([0, 5], [0, 5]), ([6, 6, 0, 1, 2, 3, 4, 5, 6], [6])])
def ddilaw16_WalPlays.B19 : List Nat := [0, 0, 0, 6, 14, 30, 63, 127]
theorem ddilaw16_WalPlays.tab19 : rtab .any (opsOf Try.f8 19) = ddilaw16_WalPlays.T19 := by kernel_rfl
theorem ddilaw16_WalPlays.bits19 : waitsOk ddilaw16_WalPlays.T19.2 ddilaw16_WalPlays.B19 = true := by kernel_rfl
def ddilaw16_WalPlays.T20 : Bool × List (List Nat × List Nat) := (true, [([], []), ([], []), ([], []), ([1, 2], [1, 2]), ([3], [3]), ([4], [4]), ([0, 5], [0, 5]), ([6, 6, 0, 1, 2, 3, 4, 5, 6], [6])])
def ddilaw16_WalPlays.B20 : List Nat := [0, 0, 0, 6, 14, 30, 63, 127]
theorem ddilaw16_WalPlays.tab20 : rtab .any (opsOf Try.f8 20) = ddilaw16_WalPlays.T20 := by kernel_rfl
theorem ddilaw16_WalPlays.bits20 : waitsOk ddilaw16_WalPlays.T20.2 ddilaw16_WalPlays.B20 = true := by kernel_rfl
set_option maxHeartbeats 8000000 in
set_option maxRecDepth 100000 in
theorem ddilaw16_WalPlays.calls (k : Nat) (a0_0 : ByteArray) (a0_1 : Int) (a0_2 : Int) (a0_3 : Bool) (A1 : Option Addr) (c1 : Nat) (l1 : List (S46)) (r : Bool) (w : World) (hr1 : Kd.C k46 w A1 l1.length l1) (hc1 : l1.length ≤ c1) (h : ddilaw16_WalPlays.f k a0_0 a0_1 a0_2 a0_3 l1 = some r) :
    Calls Try.prog 8 #[.agg #[.string a0_0, .int .i64 a0_1, .int .i64 a0_2, .bool a0_3], .slice A1 l1.length c1] w fun e w' => e = .returned (.bool r) ∧ Below w.heap.size w w' := by
  have hu36 := Try.underlying36
  have HR1 := Aside0.mk hr1
  have HC1 := Aside0.mk hc1
  clear hr1 hc1
  have HB := Aside0.mk (Below.refl w.heap.size w)
  have H : ((ddilaw16_cut.f a0_0 2000).bind fun t306 => (ddilaw16_WalPlays.l0 k l1 0 t306 a0_1 a0_2 a0_3 t306 a0_1 a0_2 a0_3)) = some r := h
  clear h
  replace H := Option.bind_eq_some_iff.mp H
  obtain ⟨t306, A30, H⟩ := H
  replace H : (ddilaw16_WalPlays.l0 k l1 0 t306 a0_1 a0_2 a0_3 t306 a0_1 a0_2 a0_3) = some r := H
  have A3 := Aside0.mk A30
  clear A30
  have H' := Aside0.mk H
  clear H
  go_enter Try.func8, Try.ntmps8
  try go_wp2_with (first | ((with_reducible refine gate_dst (N := 2) rfl ?_); refine box_event ?hg (N := 2) ?hd (cs := #[.string a0_0, .int .i64 a0_1, .int .i64 a0_2, .bool a0_3]) (t := 36) ?hr ?_; (case hd => rfl); (case hg => rfl); (case hr => first | (go_simp; done) | (go_simp; rfl)); intro gb305 hg w4 hbox hb; have n0_ := Aside0.mk (below_step (by repeat (first | (with_reducible first | exact HB.out | apply below_alloc | apply pw_below_drewN | apply below_drew1) | exact HB.out)) hb); have n1_ := Aside0.mk (hbox); have n2_ := Aside0.mk ((by rw [hg]; exact (below_size (by repeat (first | (with_reducible first | exact HB.out | apply below_alloc | apply pw_below_drewN | apply below_drew1) | exact HB.out))) : w.heap.size ≤ gb305)); have n3_ := Aside0.mk ((by rw [hg]; exact (below_size (by repeat (first | (with_reducible first | exact HB.out | apply below_alloc | apply pw_below_drewN | apply below_drew1) | exact HB.out))) : w.heap.size ≤ gb305)); clear HB; have HB := n0_; have BK305 := n1_; have GW305 := n2_; have GE305 := n3_; clear n0_ n1_ n2_ n3_; clear hb hbox hg; have hcz5_0 : w4.cell? ⟨gb305, 0, none⟩ = some (.string a0_0) := (blk_cell BK305.out 0).trans rfl; have hcz5_1 : w4.cell? ⟨gb305, 1, none⟩ = some (.int .i64 a0_1) := (blk_cell BK305.out 1).trans rfl; have hcz5_2 : w4.cell? ⟨gb305, 2, none⟩ = some (.int .i64 a0_2) := (blk_cell BK305.out 2).trans rfl; have hcz5_3 : w4.cell? ⟨gb305, 3, none⟩ = some (.bool a0_3) := (blk_cell BK305.out 3).trans rfl; have hfz5_0 := blk_frozen BK305.out 0; have hfz5_1 := blk_frozen BK305.out 1; have hfz5_2 := blk_frozen BK305.out 2; have hfz5_3 := blk_frozen BK305.out 3) | ((with_reducible refine gate_callee (f := 10) rfl ?_); refine goesL_ (some 15) rfl rfl Try.func10 (by kernel_rfl) rfl #[.string a0_0, .int .i64 2000] rfl (by (try simp only [List.map_toArray, List.map_cons, List.map_nil]); first | done | rfl | (simp only [List.length_drop, List.length_take]; rfl)) ?_; (with_reducible refine (ddilaw16_cut.calls a0_0 2000 t306 _ A3.out).mono ?_); rintro e w6 ⟨rfl, hb⟩; refine ⟨_, rfl, ?_⟩; have n0_ := Aside0.mk (blk_below (g := gb305) (o := .cells #[.string a0_0, .int .i64 a0_1, .int .i64 a0_2, .bool a0_3] 36 (0, 0)) (by (with_reducible repeat (first | refine blk_drewN ?_ _ | refine blk_drew ?_ | refine blk_alloc ?_ _)); exact BK305.out) hb); have n1_ := Aside0.mk (below_step (by repeat (first | (with_reducible first | exact HB.out | apply below_alloc | apply pw_below_drewN | apply below_drew1 | refine below_set ?_ GE305.out) | exact HB.out)) hb); clear BK305; clear HB; have BK305 := n0_; have HB := n1_; clear n0_ n1_; (try clear hb); (try clear hb2); (try clear hk); (try clear hi); have hcz7_0 : w6.cell? ⟨gb305, 0, none⟩ = some (.string a0_0) := (blk_cell BK305.out 0).trans rfl; have hcz7_1 : w6.cell? ⟨gb305, 1, none⟩ = some (.int .i64 a0_1) := (blk_cell BK305.out 1).trans rfl; have hcz7_2 : w6.cell? ⟨gb305, 2, none⟩ = some (.int .i64 a0_2) := (blk_cell BK305.out 2).trans rfl; have hcz7_3 : w6.cell? ⟨gb305, 3, none⟩ = some (.bool a0_3) := (blk_cell BK305.out 3).trans rfl; have hfz7_0 := blk_frozen BK305.out 0; have hfz7_1 := blk_frozen BK305.out 1; have hfz7_2 := blk_frozen BK305.out 2; have hfz7_3 := blk_frozen BK305.out 3))
  have n0_ : Aside0 ((w6.setCell ⟨gb305, 0, none⟩ (.string t306)).heap[gb305]? = some (.cells #[.string t306, .int .i64 a0_1, .int .i64 a0_2, .bool a0_3] 36 (0, 0))) := ⟨by (with_reducible repeat (first | refine blk_drewN ?_ _ | refine blk_drew ?_ | refine blk_alloc ?_ _)); refine blk_put (cs := #[.string a0_0, .int .i64 a0_1, .int .i64 a0_2, .bool a0_3]) ?_ 0 _ rfl; (with_reducible repeat (first | refine blk_drewN ?_ _ | refine blk_drew ?_ | refine blk_alloc ?_ _)); exact BK305.out⟩
  have n1_ : Aside0 (Below w.heap.size w (w6.setCell ⟨gb305, 0, none⟩ (.string t306))) := ⟨by repeat (first | (with_reducible first | exact HB.out | apply below_alloc | apply pw_below_drewN | apply below_drew1 | refine below_set ?_ GE305.out) | exact HB.out)⟩
  (try clear BK305)
  (try clear HB)
  generalize (w6.setCell ⟨gb305, 0, none⟩ (.string t306)) = w8 at n0_ n1_ ⊢
  have BK305 := n0_
  have HB := n1_
  clear n0_ n1_
  have n0_ := Aside0.mk (blk_drew BK305.out)
  have n1_ := Aside0.mk (below_drew1 HB.out)
  clear BK305
  clear HB
  have BK305 := n0_
  have HB := n1_
  clear n0_ n1_
  refine start_ (n := 6) (S := fun w' => w'.cell? ⟨gb305, 0, none⟩ = some (.string t306) ∧ w'.cell? ⟨gb305, 1, none⟩ = some (.int .i64 a0_1) ∧ w'.cell? ⟨gb305, 2, none⟩ = some (.int .i64 a0_2) ∧ w'.cell? ⟨gb305, 3, none⟩ = some (.bool a0_3)) (ds := []) #[false, false, false, false, false, false] (by kernel_rfl) rfl rfl ⟨(blk_cell BK305.out 0).trans rfl, (blk_cell BK305.out 1).trans rfl, (blk_cell BK305.out 2).trans rfl, (blk_cell BK305.out 3).trans rfl⟩ (fun hHeld => ?_)
  generalize w8.drew = w9 at BK305 HB hHeld ⊢
  refine take_ (i := 0) (N := some 17) (v := ?_) (a' := ?_) #[true, false, false, false, false, false] rfl rfl (by kernel_rfl) (fun _ _ _ h => h) (Or.inl ⟨by rfl, ?_⟩) hHeld ?_ ?_
  rotate_left
  · rintro w' ⟨s0, s1, s2, s3⟩
    go_simp
    with_reducible rfl
  rotate_left
  · simp only [Act.put, List.setIfInBounds_toArray, List.set_cons_zero, List.set_cons_succ, i64_w, i32_w]
    rfl
  refine take_ (i := 1) (N := some 18) (v := ?_) (a' := ?_) #[true, true, false, false, false, false] rfl rfl (by kernel_rfl) (fun _ _ _ h => h) (Or.inl ⟨by rfl, ?_⟩) hHeld ?_ ?_
  rotate_left
  · rintro w' ⟨s0, s1, s2, s3⟩
    go_simp
    with_reducible rfl
  rotate_left
  · simp only [Act.put, List.setIfInBounds_toArray, List.set_cons_zero, List.set_cons_succ, i64_w, i32_w]
    rfl
  refine join_ (σ := Nat × Nat) 2 #[true, true, true, true, false, false] (fun s_ => [(5, .pointer (some ⟨s_.1, 0, none⟩)), (6, .pointer (some ⟨s_.2, 0, none⟩))]) (fun s_ w' => (w'.cell? ⟨gb305, 0, none⟩ = some (.string t306) ∧ w'.cell? ⟨gb305, 1, none⟩ = some (.int .i64 a0_1) ∧ w'.cell? ⟨gb305, 2, none⟩ = some (.int .i64 a0_2) ∧ w'.cell? ⟨gb305, 3, none⟩ = some (.bool a0_3)) ∧ (w'.heap[gb305]? = some (.cells #[.string t306, .int .i64 a0_1, .int .i64 a0_2, .bool a0_3] 36 (0, 0))) ∧ (w'.heap[s_.1]? = some (.cells #[.string (⟨#[]⟩ : ByteArray), .int .i64 0, .int .i64 0, .bool false] 36 (0, 0))) ∧ (w'.heap[s_.2]? = some (.cells #[.string (⟨#[]⟩ : ByteArray), .int .i64 0, .int .i64 0, .bool false] 36 (0, 0))) ∧ (w.heap.size ≤ s_.1) ∧ (w.heap.size ≤ s_.1) ∧ (gb305 ≠ s_.1) ∧ (s_.1 ≠ gb305) ∧ (s_.2 ≠ s_.1) ∧ (s_.1 ≠ s_.2) ∧ (w.heap.size ≤ s_.2) ∧ (w.heap.size ≤ s_.2) ∧ (gb305 ≠ s_.2) ∧ (s_.2 ≠ gb305) ∧ (Below w.heap.size w w')) ?_ ?_
  rotate_left
  · intro hCont
    refine two_ (i := 2) (j := 3) (Ni := some 5) (Nj := some 6) #[true, true, true, false, false, false] #[true, true, false, true, false, false] rfl rfl rfl rfl (by kernel_rfl) (by decide) (by decide) (fun K hK => ?_) (fun K hK => ?_)
    · skip
      refine box_step ?hg (N := 5) ?hd (cs := #[.string (⟨#[]⟩ : ByteArray), .int .i64 0, .int .i64 0, .bool false]) (t := 36) ?hr ?_; (case hd => rfl); (case hg => rfl); (case hr => first | (go_simp; done) | (go_simp; rfl))
      intro gb307 hg w10 hbox hb
      have n0_ := Aside0.mk (blk_below (g := gb305) (o := .cells #[.string t306, .int .i64 a0_1, .int .i64 a0_2, .bool a0_3] 36 (0, 0)) (by (with_reducible repeat (first | refine blk_drewN ?_ _ | refine blk_drew ?_ | refine blk_alloc ?_ _)); exact BK305.out) hb)
      have n1_ := Aside0.mk (below_step (by repeat (first | (with_reducible first | exact HB.out | apply below_alloc | apply pw_below_drewN | apply below_drew1 | refine below_set ?_ GE305.out) | exact HB.out)) hb)
      have n2_ := Aside0.mk (hbox)
      have n3_ := Aside0.mk ((by rw [hg]; exact (below_size (by repeat (first | (with_reducible first | exact HB.out | apply below_alloc | apply pw_below_drewN | apply below_drew1 | refine below_set ?_ GE305.out) | exact HB.out))) : w.heap.size ≤ gb307))
      have n4_ := Aside0.mk ((by rw [hg]; exact (below_size (by repeat (first | (with_reducible first | exact HB.out | apply below_alloc | apply pw_below_drewN | apply below_drew1 | refine below_set ?_ GE305.out) | exact HB.out))) : w.heap.size ≤ gb307))
      have n5_ := Aside0.mk ((by rw [hg]; exact Nat.ne_of_lt (blk_lt (g := gb305) (o := .cells #[.string t306, .int .i64 a0_1, .int .i64 a0_2, .bool a0_3] 36 (0, 0)) (by (with_reducible repeat (first | refine blk_drewN ?_ _ | refine blk_drew ?_ | refine blk_alloc ?_ _)); exact BK305.out)) : gb305 ≠ gb307))
      have n6_ := Aside0.mk ((by rw [hg]; exact Nat.ne_of_gt (blk_lt (g := gb305) (o := .cells #[.string t306, .int .i64 a0_1, .int .i64 a0_2, .bool a0_3] 36 (0, 0)) (by (with_reducible repeat (first | refine blk_drewN ?_ _ | refine blk_drew ?_ | refine blk_alloc ?_ _)); exact BK305.out)) : gb307 ≠ gb305))
      clear BK305
      clear HB
      have BK305 := n0_
      have HB := n1_
      have BK307 := n2_
      have GW307 := n3_
      have GE307 := n4_
      have NB305_307 := n5_
      have NB307_305 := n6_
      clear n0_ n1_ n2_ n3_ n4_ n5_ n6_
      clear hb hbox hg
      refine hK.out _ _ ⟨(blk_cell BK305.out 0).trans rfl, (blk_cell BK305.out 1).trans rfl, (blk_cell BK305.out 2).trans rfl, (blk_cell BK305.out 3).trans rfl⟩ (fun hHeld => ?_)
      clear hK K
      refine norm_ (a' := ?_) ?_ ?_
      rotate_left
      · show Act.put _ (some 5) _ = _
        simp only [Act.put, List.setIfInBounds_toArray, List.set_cons_zero, List.set_cons_succ, i64_w, i32_w]
        rfl
      refine one_ (i := 3) (N := some 6) #[true, true, true, true, false, false] rfl rfl (by kernel_rfl) (by decide) (fun K hK => ?_)
      refine box_step ?hg (N := 6) ?hd (cs := #[.string (⟨#[]⟩ : ByteArray), .int .i64 0, .int .i64 0, .bool false]) (t := 36) ?hr ?_; (case hd => rfl); (case hg => rfl); (case hr => first | (go_simp; done) | (go_simp; rfl))
      intro gb308 hg w11 hbox hb
      have n0_ := Aside0.mk (blk_below (g := gb305) (o := .cells #[.string t306, .int .i64 a0_1, .int .i64 a0_2, .bool a0_3] 36 (0, 0)) (by (with_reducible repeat (first | refine blk_drewN ?_ _ | refine blk_drew ?_ | refine blk_alloc ?_ _)); exact BK305.out) hb)
      have n1_ := Aside0.mk (blk_below (g := gb307) (o := .cells #[.string (⟨#[]⟩ : ByteArray), .int .i64 0, .int .i64 0, .bool false] 36 (0, 0)) (by (with_reducible repeat (first | refine blk_drewN ?_ _ | refine blk_drew ?_ | refine blk_alloc ?_ _)); exact BK307.out) hb)
      have n2_ := Aside0.mk (below_step (by repeat (first | (with_reducible first | exact HB.out | apply below_alloc | apply pw_below_drewN | apply below_drew1 | refine below_set ?_ GE305.out | refine below_set ?_ GE307.out) | exact HB.out)) hb)
      have n3_ := Aside0.mk (hbox)
      have n4_ := Aside0.mk ((by rw [hg]; exact (below_size (by repeat (first | (with_reducible first | exact HB.out | apply below_alloc | apply pw_below_drewN | apply below_drew1 | refine below_set ?_ GE305.out | refine below_set ?_ GE307.out) | exact HB.out))) : w.heap.size ≤ gb308))
      have n5_ := Aside0.mk ((by rw [hg]; exact (below_size (by repeat (first | (with_reducible first | exact HB.out | apply below_alloc | apply pw_below_drewN | apply below_drew1 | refine below_set ?_ GE305.out | refine below_set ?_ GE307.out) | exact HB.out))) : w.heap.size ≤ gb308))
      have n6_ := Aside0.mk ((by rw [hg]; exact Nat.ne_of_lt (blk_lt (g := gb305) (o := .cells #[.string t306, .int .i64 a0_1, .int .i64 a0_2, .bool a0_3] 36 (0, 0)) (by (with_reducible repeat (first | refine blk_drewN ?_ _ | refine blk_drew ?_ | refine blk_alloc ?_ _)); exact BK305.out)) : gb305 ≠ gb308))
      have n7_ := Aside0.mk ((by rw [hg]; exact Nat.ne_of_gt (blk_lt (g := gb305) (o := .cells #[.string t306, .int .i64 a0_1, .int .i64 a0_2, .bool a0_3] 36 (0, 0)) (by (with_reducible repeat (first | refine blk_drewN ?_ _ | refine blk_drew ?_ | refine blk_alloc ?_ _)); exact BK305.out)) : gb308 ≠ gb305))
      have n8_ := Aside0.mk ((by rw [hg]; exact Nat.ne_of_lt (blk_lt (g := gb307) (o := .cells #[.string (⟨#[]⟩ : ByteArray), .int .i64 0, .int .i64 0, .bool false] 36 (0, 0)) (by (with_reducible repeat (first | refine blk_drewN ?_ _ | refine blk_drew ?_ | refine blk_alloc ?_ _)); exact BK307.out)) : gb307 ≠ gb308))
      have n9_ := Aside0.mk ((by rw [hg]; exact Nat.ne_of_gt (blk_lt (g := gb307) (o := .cells #[.string (⟨#[]⟩ : ByteArray), .int .i64 0, .int .i64 0, .bool false] 36 (0, 0)) (by (with_reducible repeat (first | refine blk_drewN ?_ _ | refine blk_drew ?_ | refine blk_alloc ?_ _)); exact BK307.out)) : gb308 ≠ gb307))
      clear BK305
      clear BK307
      clear HB
      have BK305 := n0_
      have BK307 := n1_
      have HB := n2_
      have BK308 := n3_
      have GW308 := n4_
      have GE308 := n5_
      have NB305_308 := n6_
      have NB308_305 := n7_
      have NB307_308 := n8_
      have NB308_307 := n9_
      clear n0_ n1_ n2_ n3_ n4_ n5_ n6_ n7_ n8_ n9_
      clear hb hbox hg
      refine hK.out _ _ ⟨(blk_cell BK305.out 0).trans rfl, (blk_cell BK305.out 1).trans rfl, (blk_cell BK305.out 2).trans rfl, (blk_cell BK305.out 3).trans rfl⟩ (fun hHeld => ?_)
      clear hK K
      refine norm_ (a' := ?_) ?_ ?_
      rotate_left
      · show Act.put _ (some 6) _ = _
        simp only [Act.put, List.setIfInBounds_toArray, List.set_cons_zero, List.set_cons_succ, i64_w, i32_w]
        rfl
      exact norm_ (by simp only [putAll, Act.put, List.setIfInBounds_toArray, List.set_cons_zero, List.set_cons_succ]) (hCont (gb307, gb308) _ ⟨hHeld, (by (with_reducible repeat (first | refine blk_drewN ?_ _ | refine blk_drew ?_ | refine blk_alloc ?_ _)); exact BK305.out), (by (with_reducible repeat (first | refine blk_drewN ?_ _ | refine blk_drew ?_ | refine blk_alloc ?_ _)); exact BK307.out), (by (with_reducible repeat (first | refine blk_drewN ?_ _ | refine blk_drew ?_ | refine blk_alloc ?_ _)); exact BK308.out), GW307.out, GE307.out, NB305_307.out, NB307_305.out, NB308_307.out, NB307_308.out, GW308.out, GE308.out, NB305_308.out, NB308_305.out, (by repeat (first | (with_reducible first | exact HB.out | apply below_alloc | apply pw_below_drewN | apply below_drew1 | refine below_set ?_ GE305.out | refine below_set ?_ GE307.out | refine below_set ?_ GE308.out) | exact HB.out))⟩)
    · skip
      refine box_step ?hg (N := 6) ?hd (cs := #[.string (⟨#[]⟩ : ByteArray), .int .i64 0, .int .i64 0, .bool false]) (t := 36) ?hr ?_; (case hd => rfl); (case hg => rfl); (case hr => first | (go_simp; done) | (go_simp; rfl))
      intro gb308 hg w10 hbox hb
      have n0_ := Aside0.mk (blk_below (g := gb305) (o := .cells #[.string t306, .int .i64 a0_1, .int .i64 a0_2, .bool a0_3] 36 (0, 0)) (by (with_reducible repeat (first | refine blk_drewN ?_ _ | refine blk_drew ?_ | refine blk_alloc ?_ _)); exact BK305.out) hb)
      have n1_ := Aside0.mk (below_step (by repeat (first | (with_reducible first | exact HB.out | apply below_alloc | apply pw_below_drewN | apply below_drew1 | refine below_set ?_ GE305.out) | exact HB.out)) hb)
      have n2_ := Aside0.mk (hbox)
      have n3_ := Aside0.mk ((by rw [hg]; exact (below_size (by repeat (first | (with_reducible first | exact HB.out | apply below_alloc | apply pw_below_drewN | apply below_drew1 | refine below_set ?_ GE305.out) | exact HB.out))) : w.heap.size ≤ gb308))
      have n4_ := Aside0.mk ((by rw [hg]; exact (below_size (by repeat (first | (with_reducible first | exact HB.out | apply below_alloc | apply pw_below_drewN | apply below_drew1 | refine below_set ?_ GE305.out) | exact HB.out))) : w.heap.size ≤ gb308))
      have n5_ := Aside0.mk ((by rw [hg]; exact Nat.ne_of_lt (blk_lt (g := gb305) (o := .cells #[.string t306, .int .i64 a0_1, .int .i64 a0_2, .bool a0_3] 36 (0, 0)) (by (with_reducible repeat (first | refine blk_drewN ?_ _ | refine blk_drew ?_ | refine blk_alloc ?_ _)); exact BK305.out)) : gb305 ≠ gb308))
      have n6_ := Aside0.mk ((by rw [hg]; exact Nat.ne_of_gt (blk_lt (g := gb305) (o := .cells #[.string t306, .int .i64 a0_1, .int .i64 a0_2, .bool a0_3] 36 (0, 0)) (by (with_reducible repeat (first | refine blk_drewN ?_ _ | refine blk_drew ?_ | refine blk_alloc ?_ _)); exact BK305.out)) : gb308 ≠ gb305))
      clear BK305
      clear HB
      have BK305 := n0_
      have HB := n1_
      have BK308 := n2_
      have GW308 := n3_
      have GE308 := n4_
      have NB305_308 := n5_
      have NB308_305 := n6_
      clear n0_ n1_ n2_ n3_ n4_ n5_ n6_
      clear hb hbox hg
      refine hK.out _ _ ⟨(blk_cell BK305.out 0).trans rfl, (blk_cell BK305.out 1).trans rfl, (blk_cell BK305.out 2).trans rfl, (blk_cell BK305.out 3).trans rfl⟩ (fun hHeld => ?_)
      clear hK K
      refine norm_ (a' := ?_) ?_ ?_
      rotate_left
      · show Act.put _ (some 6) _ = _
        simp only [Act.put, List.setIfInBounds_toArray, List.set_cons_zero, List.set_cons_succ, i64_w, i32_w]
        rfl
      refine one_ (i := 2) (N := some 5) #[true, true, true, true, false, false] rfl rfl (by kernel_rfl) (by decide) (fun K hK => ?_)
      refine box_step ?hg (N := 5) ?hd (cs := #[.string (⟨#[]⟩ : ByteArray), .int .i64 0, .int .i64 0, .bool false]) (t := 36) ?hr ?_; (case hd => rfl); (case hg => rfl); (case hr => first | (go_simp; done) | (go_simp; rfl))
      intro gb307 hg w11 hbox hb
      have n0_ := Aside0.mk (blk_below (g := gb305) (o := .cells #[.string t306, .int .i64 a0_1, .int .i64 a0_2, .bool a0_3] 36 (0, 0)) (by (with_reducible repeat (first | refine blk_drewN ?_ _ | refine blk_drew ?_ | refine blk_alloc ?_ _)); exact BK305.out) hb)
      have n1_ := Aside0.mk (blk_below (g := gb308) (o := .cells #[.string (⟨#[]⟩ : ByteArray), .int .i64 0, .int .i64 0, .bool false] 36 (0, 0)) (by (with_reducible repeat (first | refine blk_drewN ?_ _ | refine blk_drew ?_ | refine blk_alloc ?_ _)); exact BK308.out) hb)
      have n2_ := Aside0.mk (below_step (by repeat (first | (with_reducible first | exact HB.out | apply below_alloc | apply pw_below_drewN | apply below_drew1 | refine below_set ?_ GE305.out | refine below_set ?_ GE308.out) | exact HB.out)) hb)
      have n3_ := Aside0.mk (hbox)
      have n4_ := Aside0.mk ((by rw [hg]; exact (below_size (by repeat (first | (with_reducible first | exact HB.out | apply below_alloc | apply pw_below_drewN | apply below_drew1 | refine below_set ?_ GE305.out | refine below_set ?_ GE308.out) | exact HB.out))) : w.heap.size ≤ gb307))
      have n5_ := Aside0.mk ((by rw [hg]; exact (below_size (by repeat (first | (with_reducible first | exact HB.out | apply below_alloc | apply pw_below_drewN | apply below_drew1 | refine below_set ?_ GE305.out | refine below_set ?_ GE308.out) | exact HB.out))) : w.heap.size ≤ gb307))
      have n6_ := Aside0.mk ((by rw [hg]; exact Nat.ne_of_lt (blk_lt (g := gb305) (o := .cells #[.string t306, .int .i64 a0_1, .int .i64 a0_2, .bool a0_3] 36 (0, 0)) (by (with_reducible repeat (first | refine blk_drewN ?_ _ | refine blk_drew ?_ | refine blk_alloc ?_ _)); exact BK305.out)) : gb305 ≠ gb307))
      have n7_ := Aside0.mk ((by rw [hg]; exact Nat.ne_of_gt (blk_lt (g := gb305) (o := .cells #[.string t306, .int .i64 a0_1, .int .i64 a0_2, .bool a0_3] 36 (0, 0)) (by (with_reducible repeat (first | refine blk_drewN ?_ _ | refine blk_drew ?_ | refine blk_alloc ?_ _)); exact BK305.out)) : gb307 ≠ gb305))
      have n8_ := Aside0.mk ((by rw [hg]; exact Nat.ne_of_lt (blk_lt (g := gb308) (o := .cells #[.string (⟨#[]⟩ : ByteArray), .int .i64 0, .int .i64 0, .bool false] 36 (0, 0)) (by (with_reducible repeat (first | refine blk_drewN ?_ _ | refine blk_drew ?_ | refine blk_alloc ?_ _)); exact BK308.out)) : gb308 ≠ gb307))
      have n9_ := Aside0.mk ((by rw [hg]; exact Nat.ne_of_gt (blk_lt (g := gb308) (o := .cells #[.string (⟨#[]⟩ : ByteArray), .int .i64 0, .int .i64 0, .bool false] 36 (0, 0)) (by (with_reducible repeat (first | refine blk_drewN ?_ _ | refine blk_drew ?_ | refine blk_alloc ?_ _)); exact BK308.out)) : gb307 ≠ gb308))
      clear BK305
      clear BK308
      clear HB
      have BK305 := n0_
      have BK308 := n1_
      have HB := n2_
      have BK307 := n3_
      have GW307 := n4_
      have GE307 := n5_
      have NB305_307 := n6_
      have NB307_305 := n7_
      have NB308_307 := n8_
      have NB307_308 := n9_
      clear n0_ n1_ n2_ n3_ n4_ n5_ n6_ n7_ n8_ n9_
      clear hb hbox hg
      refine hK.out _ _ ⟨(blk_cell BK305.out 0).trans rfl, (blk_cell BK305.out 1).trans rfl, (blk_cell BK305.out 2).trans rfl, (blk_cell BK305.out 3).trans rfl⟩ (fun hHeld => ?_)
      clear hK K
      refine norm_ (a' := ?_) ?_ ?_
      rotate_left
      · show Act.put _ (some 5) _ = _
        simp only [Act.put, List.setIfInBounds_toArray, List.set_cons_zero, List.set_cons_succ, i64_w, i32_w]
        rfl
      exact norm_ (by simp only [putAll, Act.put, List.setIfInBounds_toArray, List.set_cons_zero, List.set_cons_succ]) (hCont (gb307, gb308) _ ⟨hHeld, (by (with_reducible repeat (first | refine blk_drewN ?_ _ | refine blk_drew ?_ | refine blk_alloc ?_ _)); exact BK305.out), (by (with_reducible repeat (first | refine blk_drewN ?_ _ | refine blk_drew ?_ | refine blk_alloc ?_ _)); exact BK307.out), (by (with_reducible repeat (first | refine blk_drewN ?_ _ | refine blk_drew ?_ | refine blk_alloc ?_ _)); exact BK308.out), GW307.out, GE307.out, NB305_307.out, NB307_305.out, NB308_307.out, NB307_308.out, GW308.out, GE308.out, NB305_308.out, NB308_305.out, (by repeat (first | (with_reducible first | exact HB.out | apply below_alloc | apply pw_below_drewN | apply below_drew1 | refine below_set ?_ GE305.out | refine below_set ?_ GE308.out | refine below_set ?_ GE307.out) | exact HB.out))⟩)
  rintro ⟨gb307, gb308⟩ w12 ⟨hS_, h0_, h1_, h2_, h3_, h4_, h5_, h6_, h7_, h8_, h9_, h10_, h11_, h12_, h13_⟩
  have n0_ : Aside0 (w12.heap[gb305]? = some (.cells #[.string t306, .int .i64 a0_1, .int .i64 a0_2, .bool a0_3] 36 (0, 0))) := ⟨h0_⟩
  have n1_ : Aside0 (w12.heap[gb307]? = some (.cells #[.string (⟨#[]⟩ : ByteArray), .int .i64 0, .int .i64 0, .bool false] 36 (0, 0))) := ⟨h1_⟩
  have n2_ : Aside0 (w12.heap[gb308]? = some (.cells #[.string (⟨#[]⟩ : ByteArray), .int .i64 0, .int .i64 0, .bool false] 36 (0, 0))) := ⟨h2_⟩
  have n3_ : Aside0 (w.heap.size ≤ gb307) := ⟨h3_⟩
  have n4_ : Aside0 (w.heap.size ≤ gb307) := ⟨h4_⟩
  have n5_ : Aside0 (gb305 ≠ gb307) := ⟨h5_⟩
  have n6_ : Aside0 (gb307 ≠ gb305) := ⟨h6_⟩
  have n7_ : Aside0 (gb308 ≠ gb307) := ⟨h7_⟩
  have n8_ : Aside0 (gb307 ≠ gb308) := ⟨h8_⟩
  have n9_ : Aside0 (w.heap.size ≤ gb308) := ⟨h9_⟩
  have n10_ : Aside0 (w.heap.size ≤ gb308) := ⟨h10_⟩
  have n11_ : Aside0 (gb305 ≠ gb308) := ⟨h11_⟩
  have n12_ : Aside0 (gb308 ≠ gb305) := ⟨h12_⟩
  have n13_ : Aside0 (Below w.heap.size w w12) := ⟨h13_⟩
  clear BK305
  clear HB
  clear h0_ h1_ h2_ h3_ h4_ h5_ h6_ h7_ h8_ h9_ h10_ h11_ h12_ h13_
  have BK305 := n0_
  have BK307 := n1_
  have BK308 := n2_
  have GW307 := n3_
  have GE307 := n4_
  have NB305_307 := n5_
  have NB307_305 := n6_
  have NB308_307 := n7_
  have NB307_308 := n8_
  have GW308 := n9_
  have GE308 := n10_
  have NB305_308 := n11_
  have NB308_305 := n12_
  have HB := n13_
  clear n0_ n1_ n2_ n3_ n4_ n5_ n6_ n7_ n8_ n9_ n10_ n11_ n12_ n13_
  have hHeld : w12.cell? ⟨gb305, 0, none⟩ = some (.string t306) ∧ w12.cell? ⟨gb305, 1, none⟩ = some (.int .i64 a0_1) ∧ w12.cell? ⟨gb305, 2, none⟩ = some (.int .i64 a0_2) ∧ w12.cell? ⟨gb305, 3, none⟩ = some (.bool a0_3) := hS_
  refine norm_ (a' := ?_) ?_ ?_
  rotate_left
  · simp only [putAll, Act.put, List.setIfInBounds_toArray, List.set_cons_zero, List.set_cons_succ]
    rfl
  refine one_ (i := 4) (N := none) #[true, true, true, true, true, false] rfl rfl (by kernel_rfl) (by decide) (fun K hK => ?_)
  have hs13 : w12.cell? ⟨gb307, 0, none⟩ = some (.string (⟨#[]⟩ : ByteArray)) := (blk_cell BK307.out 0).trans rfl
  have hfs13 := blk_frozen BK307.out 0
  have hns13_0 := NB305_307.out
  have hns13_2 := NB308_307.out
  have hms13_0 := NB307_305.out
  have hms13_2 := NB307_308.out
  have hs14 : w12.cell? ⟨gb307, 1, none⟩ = some (.int .i64 0) := (blk_cell BK307.out 1).trans rfl
  have hfs14 := blk_frozen BK307.out 1
  have hns14_0 := NB305_307.out
  have hns14_2 := NB308_307.out
  have hms14_0 := NB307_305.out
  have hms14_2 := NB307_308.out
  have hs15 : w12.cell? ⟨gb307, 2, none⟩ = some (.int .i64 0) := (blk_cell BK307.out 2).trans rfl
  have hfs15 := blk_frozen BK307.out 2
  have hns15_0 := NB305_307.out
  have hns15_2 := NB308_307.out
  have hms15_0 := NB307_305.out
  have hms15_2 := NB307_308.out
  have hs16 : w12.cell? ⟨gb307, 3, none⟩ = some (.bool false) := (blk_cell BK307.out 3).trans rfl
  have hfs16 := blk_frozen BK307.out 3
  have hns16_0 := NB305_307.out
  have hns16_2 := NB308_307.out
  have hms16_0 := NB307_305.out
  have hms16_2 := NB307_308.out
  refine skip_ (w1 := ?_) (by rfl) rfl ?_ ?_
  rotate_left
  · go_simp
    rfl
  refine hK.out _ _ ⟨((cell_far (p := ⟨gb307, _, none⟩) NB305_307.out _).trans (((cell_far (p := ⟨gb307, _, none⟩) NB305_307.out _).trans (((cell_far (p := ⟨gb307, _, none⟩) NB305_307.out _).trans (((cell_far (p := ⟨gb307, _, none⟩) NB305_307.out _).trans (hHeld.1)))))))), ((cell_far (p := ⟨gb307, _, none⟩) NB305_307.out _).trans (((cell_far (p := ⟨gb307, _, none⟩) NB305_307.out _).trans (((cell_far (p := ⟨gb307, _, none⟩) NB305_307.out _).trans (((cell_far (p := ⟨gb307, _, none⟩) NB305_307.out _).trans (hHeld.2.1)))))))), ((cell_far (p := ⟨gb307, _, none⟩) NB305_307.out _).trans (((cell_far (p := ⟨gb307, _, none⟩) NB305_307.out _).trans (((cell_far (p := ⟨gb307, _, none⟩) NB305_307.out _).trans (((cell_far (p := ⟨gb307, _, none⟩) NB305_307.out _).trans (hHeld.2.2.1)))))))), ((cell_far (p := ⟨gb307, _, none⟩) NB305_307.out _).trans (((cell_far (p := ⟨gb307, _, none⟩) NB305_307.out _).trans (((cell_far (p := ⟨gb307, _, none⟩) NB305_307.out _).trans (((cell_far (p := ⟨gb307, _, none⟩) NB305_307.out _).trans (hHeld.2.2.2))))))))⟩ (fun hHeld => ?_)
  clear hK K
  refine one_ (i := 5) (N := none) #[true, true, true, true, true, true] rfl rfl (by kernel_rfl) (by decide) (fun K hK => ?_)
  have hs17 : w12.cell? ⟨gb308, 0, none⟩ = some (.string (⟨#[]⟩ : ByteArray)) := (blk_cell BK308.out 0).trans rfl
  have hfs17 := blk_frozen BK308.out 0
  have hns17_0 := NB305_308.out
  have hns17_1 := NB307_308.out
  have hms17_0 := NB308_305.out
  have hms17_1 := NB308_307.out
  have hs18 : w12.cell? ⟨gb308, 1, none⟩ = some (.int .i64 0) := (blk_cell BK308.out 1).trans rfl
  have hfs18 := blk_frozen BK308.out 1
  have hns18_0 := NB305_308.out
  have hns18_1 := NB307_308.out
  have hms18_0 := NB308_305.out
  have hms18_1 := NB308_307.out
  have hs19 : w12.cell? ⟨gb308, 2, none⟩ = some (.int .i64 0) := (blk_cell BK308.out 2).trans rfl
  have hfs19 := blk_frozen BK308.out 2
  have hns19_0 := NB305_308.out
  have hns19_1 := NB307_308.out
  have hms19_0 := NB308_305.out
  have hms19_1 := NB308_307.out
  have hs20 : w12.cell? ⟨gb308, 3, none⟩ = some (.bool false) := (blk_cell BK308.out 3).trans rfl
  have hfs20 := blk_frozen BK308.out 3
  have hns20_0 := NB305_308.out
  have hns20_1 := NB307_308.out
  have hms20_0 := NB308_305.out
  have hms20_1 := NB308_307.out
  refine skip_ (w1 := ?_) (by rfl) rfl ?_ ?_
  rotate_left
  · go_simp
    rfl
  refine hK.out _ _ ⟨((cell_far (p := ⟨gb308, _, none⟩) NB305_308.out _).trans (((cell_far (p := ⟨gb308, _, none⟩) NB305_308.out _).trans (((cell_far (p := ⟨gb308, _, none⟩) NB305_308.out _).trans (((cell_far (p := ⟨gb308, _, none⟩) NB305_308.out _).trans (hHeld.1)))))))), ((cell_far (p := ⟨gb308, _, none⟩) NB305_308.out _).trans (((cell_far (p := ⟨gb308, _, none⟩) NB305_308.out _).trans (((cell_far (p := ⟨gb308, _, none⟩) NB305_308.out _).trans (((cell_far (p := ⟨gb308, _, none⟩) NB305_308.out _).trans (hHeld.2.1)))))))), ((cell_far (p := ⟨gb308, _, none⟩) NB305_308.out _).trans (((cell_far (p := ⟨gb308, _, none⟩) NB305_308.out _).trans (((cell_far (p := ⟨gb308, _, none⟩) NB305_308.out _).trans (((cell_far (p := ⟨gb308, _, none⟩) NB305_308.out _).trans (hHeld.2.2.1)))))))), ((cell_far (p := ⟨gb308, _, none⟩) NB305_308.out _).trans (((cell_far (p := ⟨gb308, _, none⟩) NB305_308.out _).trans (((cell_far (p := ⟨gb308, _, none⟩) NB305_308.out _).trans (((cell_far (p := ⟨gb308, _, none⟩) NB305_308.out _).trans (hHeld.2.2.2))))))))⟩ (fun hHeld => ?_)
  clear hK K
  refine done_ (by kernel_rfl) ?_
  try go_wp2
  go_loopg [7] k (fun kq v7 w' => ∃ (x7_1 : Int) (x308000_1 : ByteArray) (x308001_1 : Int) (x308002_1 : Int) (x308003_1 : Bool) (x309000_1 : ByteArray) (x309001_1 : Int) (x309002_1 : Int) (x309003_1 : Bool), v7 = .int .i64 x7_1 ∧ Aside0 (ddilaw16_WalPlays.l0 kq l1 x7_1 x308000_1 x308001_1 x308002_1 x308003_1 x309000_1 x309001_1 x309002_1 x309003_1 = some r) ∧ Aside0 (kq ≤ k) ∧ Aside0 (w'.heap[gb305]? = some (.cells #[.string t306, .int .i64 a0_1, .int .i64 a0_2, .bool a0_3] 36 (0, 0))) ∧ Aside0 (w'.heap[gb307]? = some (.cells #[.string x308000_1, .int .i64 x308001_1, .int .i64 x308002_1, .bool x308003_1] 36 (0, 0))) ∧ Aside0 (w'.heap[gb308]? = some (.cells #[.string x309000_1, .int .i64 x309001_1, .int .i64 x309002_1, .bool x309003_1] 36 (0, 0))) ∧ Aside0 (Below w.heap.size w w'))
  case atStart => exact ⟨(0), (t306), (a0_1), (a0_2), (a0_3), (t306), (a0_1), (a0_2), (a0_3), (by first | rfl | (simp; done) | (simp [*]; done)), H', ⟨Nat.le_refl _⟩, ⟨by (with_reducible repeat (first | refine blk_drewN ?_ _ | refine blk_drew ?_ | refine blk_alloc ?_ _)); refine blk_far ?_ NB305_308.out _; (with_reducible repeat (first | refine blk_drewN ?_ _ | refine blk_drew ?_ | refine blk_alloc ?_ _)); refine blk_far ?_ NB305_308.out _; (with_reducible repeat (first | refine blk_drewN ?_ _ | refine blk_drew ?_ | refine blk_alloc ?_ _)); refine blk_far ?_ NB305_308.out _; (with_reducible repeat (first | refine blk_drewN ?_ _ | refine blk_drew ?_ | refine blk_alloc ?_ _)); refine blk_far ?_ NB305_308.out _; (with_reducible repeat (first | refine blk_drewN ?_ _ | refine blk_drew ?_ | refine blk_alloc ?_ _)); refine blk_far ?_ NB305_307.out _; (with_reducible repeat (first | refine blk_drewN ?_ _ | refine blk_drew ?_ | refine blk_alloc ?_ _)); refine blk_far ?_ NB305_307.out _; (with_reducible repeat (first | refine blk_drewN ?_ _ | refine blk_drew ?_ | refine blk_alloc ?_ _)); refine blk_far ?_ NB305_307.out _; (with_reducible repeat (first | refine blk_drewN ?_ _ | refine blk_drew ?_ | refine blk_alloc ?_ _)); refine blk_far ?_ NB305_307.out _; (with_reducible repeat (first | refine blk_drewN ?_ _ | refine blk_drew ?_ | refine blk_alloc ?_ _)); exact BK305.out⟩, ⟨by (with_reducible repeat (first | refine blk_drewN ?_ _ | refine blk_drew ?_ | refine blk_alloc ?_ _)); refine blk_far ?_ NB307_308.out _; (with_reducible repeat (first | refine blk_drewN ?_ _ | refine blk_drew ?_ | refine blk_alloc ?_ _)); refine blk_far ?_ NB307_308.out _; (with_reducible repeat (first | refine blk_drewN ?_ _ | refine blk_drew ?_ | refine blk_alloc ?_ _)); refine blk_far ?_ NB307_308.out _; (with_reducible repeat (first | refine blk_drewN ?_ _ | refine blk_drew ?_ | refine blk_alloc ?_ _)); refine blk_far ?_ NB307_308.out _; (with_reducible repeat (first | refine blk_drewN ?_ _ | refine blk_drew ?_ | refine blk_alloc ?_ _)); refine blk_put (cs := #[.string t306, .int .i64 a0_1, .int .i64 a0_2, .bool false]) ?_ 3 _ rfl; (with_reducible repeat (first | refine blk_drewN ?_ _ | refine blk_drew ?_ | refine blk_alloc ?_ _)); refine blk_put (cs := #[.string t306, .int .i64 a0_1, .int .i64 0, .bool false]) ?_ 2 _ rfl; (with_reducible repeat (first | refine blk_drewN ?_ _ | refine blk_drew ?_ | refine blk_alloc ?_ _)); refine blk_put (cs := #[.string t306, .int .i64 0, .int .i64 0, .bool false]) ?_ 1 _ rfl; (with_reducible repeat (first | refine blk_drewN ?_ _ | refine blk_drew ?_ | refine blk_alloc ?_ _)); refine blk_put (cs := #[.string (⟨#[]⟩ : ByteArray), .int .i64 0, .int .i64 0, .bool false]) ?_ 0 _ rfl; (with_reducible repeat (first | refine blk_drewN ?_ _ | refine blk_drew ?_ | refine blk_alloc ?_ _)); exact BK307.out⟩, ⟨by (with_reducible repeat (first | refine blk_drewN ?_ _ | refine blk_drew ?_ | refine blk_alloc ?_ _)); refine blk_put (cs := #[.string t306, .int .i64 a0_1, .int .i64 a0_2, .bool false]) ?_ 3 _ rfl; (with_reducible repeat (first | refine blk_drewN ?_ _ | refine blk_drew ?_ | refine blk_alloc ?_ _)); refine blk_put (cs := #[.string t306, .int .i64 a0_1, .int .i64 0, .bool false]) ?_ 2 _ rfl; (with_reducible repeat (first | refine blk_drewN ?_ _ | refine blk_drew ?_ | refine blk_alloc ?_ _)); refine blk_put (cs := #[.string t306, .int .i64 0, .int .i64 0, .bool false]) ?_ 1 _ rfl; (with_reducible repeat (first | refine blk_drewN ?_ _ | refine blk_drew ?_ | refine blk_alloc ?_ _)); refine blk_put (cs := #[.string (⟨#[]⟩ : ByteArray), .int .i64 0, .int .i64 0, .bool false]) ?_ 0 _ rfl; (with_reducible repeat (first | refine blk_drewN ?_ _ | refine blk_drew ?_ | refine blk_alloc ?_ _)); refine blk_far ?_ NB308_307.out _; (with_reducible repeat (first | refine blk_drewN ?_ _ | refine blk_drew ?_ | refine blk_alloc ?_ _)); refine blk_far ?_ NB308_307.out _; (with_reducible repeat (first | refine blk_drewN ?_ _ | refine blk_drew ?_ | refine blk_alloc ?_ _)); refine blk_far ?_ NB308_307.out _; (with_reducible repeat (first | refine blk_drewN ?_ _ | refine blk_drew ?_ | refine blk_alloc ?_ _)); refine blk_far ?_ NB308_307.out _; (with_reducible repeat (first | refine blk_drewN ?_ _ | refine blk_drew ?_ | refine blk_alloc ?_ _)); exact BK308.out⟩, ⟨by repeat (first | (with_reducible first | exact HB.out | apply below_alloc | apply pw_below_drewN | apply below_drew1 | refine below_set ?_ GE305.out | refine below_set ?_ GE307.out | refine below_set ?_ GE308.out) | exact HB.out)⟩⟩
  case round =>
    clear H'
    try clear c1
    try clear p2
    try clear c8
    try clear c10
    try clear hcz5_0
    try clear hcz5_1
    try clear hcz5_2
    try clear hcz5_3
    try clear hcz7_0
    try clear hcz7_1
    try clear hcz7_2
    try clear hcz7_3
    try clear hfz5_0
    try clear hfz5_1
    try clear hfz5_2
    try clear hfz5_3
    try clear hfz7_0
    try clear hfz7_1
    try clear hfz7_2
    try clear hfz7_3
    obtain ⟨x7_1, x308000_1, x308001_1, x308002_1, x308003_1, x309000_1, x309001_1, x309002_1, x309003_1, rfl, HA, HK1, BK305, BK307, BK308, HB⟩ := hrel
    cases gk with
    | zero => exact absurd HA.out (by simp [ddilaw16_WalPlays.l0])
    | succ k1 =>
      have H := HA.out
      clear HA
      simp only [ddilaw16_WalPlays.l0] at H
      have HC21 := Aside0.mk H
      clear H
      go_upto_region 4 with (fail)
      go_cut [26] (fun v26 wc => ∃ (kq : Nat) (x26_20 : Bool), v26 = .bool x26_20 ∧ Aside0 (ddilaw16_WalPlays.j1 kq l1 x7_1 x26_20 x308000_1 x308001_1 x308002_1 x308003_1 x309000_1 x309001_1 x309002_1 x309003_1 = some r) ∧ Aside0 (kq ≤ k1) ∧ Aside0 (wc.heap[gb305]? = some (.cells #[.string t306, .int .i64 a0_1, .int .i64 a0_2, .bool a0_3] 36 (0, 0))) ∧ Aside0 (wc.heap[gb307]? = some (.cells #[.string x308000_1, .int .i64 x308001_1, .int .i64 x308002_1, .bool x308003_1] 36 (0, 0))) ∧ Aside0 (wc.heap[gb308]? = some (.cells #[.string x309000_1, .int .i64 x309001_1, .int .i64 x309002_1, .bool x309003_1] 36 (0, 0))) ∧ Aside0 (Below w.heap.size w wc))
      case first =>
        have H := HC21.out
        clear HC21
        by_cases c22 : x7_1 < (l1.length : Int)
        · rw [if_pos c22] at H
          have c22b0 : decide (x7_1 < (l1.length : Int)) = true := decide_eq_true c22
          clear c22
          (first | rw [c22b0] | (simp only [i64_w, i32_w]; rw [c22b0]) | skip)
          have H' := Aside0.mk H
          clear H
          go_wp2
          go_meet
          case rel => exact ⟨_, (decide (x7_1 < 20)), (by first | rfl | (simp; done) | (simp [*]; done)), H', ⟨by have := HK1.out; first | omega | exact Nat.le_refl _⟩, ⟨by (with_reducible repeat (first | refine blk_drewN ?_ _ | refine blk_drew ?_ | refine blk_alloc ?_ _)); exact BK305.out⟩, ⟨by (with_reducible repeat (first | refine blk_drewN ?_ _ | refine blk_drew ?_ | refine blk_alloc ?_ _)); exact BK307.out⟩, ⟨by (with_reducible repeat (first | refine blk_drewN ?_ _ | refine blk_drew ?_ | refine blk_alloc ?_ _)); exact BK308.out⟩, ⟨by repeat (first | (with_reducible first | exact HB.out | apply below_alloc | apply pw_below_drewN | apply below_drew1 | refine below_set ?_ GE305.out | refine below_set ?_ GE307.out | refine below_set ?_ GE308.out) | exact HB.out)⟩⟩
        · rw [if_neg c22] at H
          have c22b0 : decide (x7_1 < (l1.length : Int)) = false := decide_eq_false c22
          clear c22
          (first | rw [c22b0] | (simp only [i64_w, i32_w]; rw [c22b0]) | skip)
          have H' := Aside0.mk H
          clear H
          go_wp2
          go_meet
          case rel => exact ⟨_, (false), (by first | rfl | (simp; done) | (simp [*]; done)), H', ⟨by have := HK1.out; first | omega | exact Nat.le_refl _⟩, ⟨by (with_reducible repeat (first | refine blk_drewN ?_ _ | refine blk_drew ?_ | refine blk_alloc ?_ _)); exact BK305.out⟩, ⟨by (with_reducible repeat (first | refine blk_drewN ?_ _ | refine blk_drew ?_ | refine blk_alloc ?_ _)); exact BK307.out⟩, ⟨by (with_reducible repeat (first | refine blk_drewN ?_ _ | refine blk_drew ?_ | refine blk_alloc ?_ _)); exact BK308.out⟩, ⟨by repeat (first | (with_reducible first | exact HB.out | apply below_alloc | apply pw_below_drewN | apply below_drew1 | refine below_set ?_ GE305.out | refine below_set ?_ GE307.out | refine below_set ?_ GE308.out) | exact HB.out)⟩⟩
      case rest =>
        clear HC21
        try clear c1
        try clear c2
        try clear p2
        try clear c8
        try clear c10
        try clear c22
        try clear c22b0
        try clear hcz5_0
        try clear hcz5_1
        try clear hcz5_2
        try clear hcz5_3
        try clear hcz7_0
        try clear hcz7_1
        try clear hcz7_2
        try clear hcz7_3
        try clear hfz5_0
        try clear hfz5_1
        try clear hfz5_2
        try clear hfz5_3
        try clear hfz7_0
        try clear hfz7_1
        try clear hfz7_2
        try clear hfz7_3
        try clear p2
        obtain ⟨kq, x26_20, rfl, HA, HJ20, BK305, BK307, BK308, HB⟩ := hcut
        cases kq with
        | zero => exact absurd HA.out (by simp [ddilaw16_WalPlays.j1])
        | succ kj20 =>
          have H := HA.out
          clear HA
          simp only [ddilaw16_WalPlays.j1] at H
          by_cases c23 : x26_20 = true
          · subst c23
            have H1 : (if 0 ≤ x7_1 then (if x7_1 < (l1.length : Int) then ((ddilaw16_cut.f ((rd_T46 l1 x7_1).f2) 300).bind fun t310 => (if ((rd_T46 l1 x7_1).f0) = 0 then ((wal_Write.f kj20 x308000_1 x308001_1 x308002_1 x308003_1 t310).bind fun bt312 => ((ddiref16_Write.f x309000_1 x309001_1 x309002_1 x309003_1 t310).bind fun bt317 => (ddilaw16_WalPlays.j2 kj20 l1 x7_1 bt312.2.2.2.2 bt317.2.2.2.2 ([] : List ByteArray) ([] : List ByteArray) bt312.1 bt312.2.1 bt312.2.2.1 bt312.2.2.2.1 bt317.1 bt317.2.1 bt317.2.2.1 bt317.2.2.2.1))) else (if ((rd_T46 l1 x7_1).f0) = 1 then ((wal_Sync.f x308000_1 x308001_1 x308002_1 x308003_1).bind fun bt322 => ((ddiref16_Sync.f x309000_1 x309001_1 x309002_1 x309003_1).bind fun bt327 => (ddilaw16_WalPlays.j2 kj20 l1 x7_1 bt322.2.2.2.2 bt327.2.2.2.2 ([] : List ByteArray) ([] : List ByteArray) bt322.1 bt322.2.1 bt322.2.2.1 bt322.2.2.2.1 bt327.1 bt327.2.1 bt327.2.2.1 bt327.2.2.2.1))) else (if ((rd_T46 l1 x7_1).f0) = 2 then ((wal_Crash.f x308000_1 x308001_1 x308002_1 x308003_1 ((rd_T46 l1 x7_1).f1)).bind fun bt333 => ((ddiref16_Crash.f x309000_1 x309001_1 x309002_1 x309003_1 ((rd_T46 l1 x7_1).f1)).bind fun bt338 => (ddilaw16_WalPlays.j2 kj20 l1 x7_1 0 0 ([] : List ByteArray) ([] : List ByteArray) bt333.1 bt333.2.1 bt333.2.2.1 bt333.2.2.2 bt338.1 bt338.2.1 bt338.2.2.1 bt338.2.2.2))) else (if ((rd_T46 l1 x7_1).f0) = 3 then ((wal_Open.f kj20 x308000_1 x308001_1 x308002_1 x308003_1).bind fun bt342 => ((ddiref16_Open.f kj20 x309000_1 x309001_1 x309002_1 x309003_1).bind fun bt350 => (ddilaw16_WalPlays.j2 kj20 l1 x7_1 bt342.2.2.2.2.2 bt350.2.2.2.2.2 bt342.2.2.2.2.1 bt350.2.2.2.2.1 bt342.1 bt342.2.1 bt342.2.2.1 bt342.2.2.2.1 bt350.1 bt350.2.1 bt350.2.2.1 bt350.2.2.2.1))) else ((wal_Append.f kj20 x308000_1 x308001_1 x308002_1 x308003_1 t310).bind fun bt358 => ((ddiref16_Append.f kj20 x309000_1 x309001_1 x309002_1 x309003_1 t310).bind fun bt363 => (ddilaw16_WalPlays.j2 kj20 l1 x7_1 bt358.2.2.2.2 bt363.2.2.2.2 ([] : List ByteArray) ([] : List ByteArray) bt358.1 bt358.2.1 bt358.2.2.1 bt358.2.2.2.1 bt363.1 bt363.2.1 bt363.2.2.1 bt363.2.2.2.1)))))))) else (none)) else (none)) = some r := by rw [if_pos rfl] at H; exact H
            clear H
            have H := H1
            clear H1
            by_cases c24 : 0 ≤ x7_1
            · rw [if_pos c24] at H
              have c24b0 : decide (0 ≤ x7_1) = true := decide_eq_true c24
              clear c24
              by_cases c25 : x7_1 < (l1.length : Int)
              · rw [if_pos c25] at H
                have c25b0 : decide (x7_1 < (l1.length : Int)) = true := decide_eq_true c25
                clear c25
                replace H := Option.bind_eq_some_iff.mp H
                obtain ⟨t310, A260, H⟩ := H
                replace H : (if ((rd_T46 l1 x7_1).f0) = 0 then ((wal_Write.f kj20 x308000_1 x308001_1 x308002_1 x308003_1 t310).bind fun bt312 => ((ddiref16_Write.f x309000_1 x309001_1 x309002_1 x309003_1 t310).bind fun bt317 => (ddilaw16_WalPlays.j2 kj20 l1 x7_1 bt312.2.2.2.2 bt317.2.2.2.2 ([] : List ByteArray) ([] : List ByteArray) bt312.1 bt312.2.1 bt312.2.2.1 bt312.2.2.2.1 bt317.1 bt317.2.1 bt317.2.2.1 bt317.2.2.2.1))) else (if ((rd_T46 l1 x7_1).f0) = 1 then ((wal_Sync.f x308000_1 x308001_1 x308002_1 x308003_1).bind fun bt322 => ((ddiref16_Sync.f x309000_1 x309001_1 x309002_1 x309003_1).bind fun bt327 => (ddilaw16_WalPlays.j2 kj20 l1 x7_1 bt322.2.2.2.2 bt327.2.2.2.2 ([] : List ByteArray) ([] : List ByteArray) bt322.1 bt322.2.1 bt322.2.2.1 bt322.2.2.2.1 bt327.1 bt327.2.1 bt327.2.2.1 bt327.2.2.2.1))) else (if ((rd_T46 l1 x7_1).f0) = 2 then ((wal_Crash.f x308000_1 x308001_1 x308002_1 x308003_1 ((rd_T46 l1 x7_1).f1)).bind fun bt333 => ((ddiref16_Crash.f x309000_1 x309001_1 x309002_1 x309003_1 ((rd_T46 l1 x7_1).f1)).bind fun bt338 => (ddilaw16_WalPlays.j2 kj20 l1 x7_1 0 0 ([] : List ByteArray) ([] : List ByteArray) bt333.1 bt333.2.1 bt333.2.2.1 bt333.2.2.2 bt338.1 bt338.2.1 bt338.2.2.1 bt338.2.2.2))) else (if ((rd_T46 l1 x7_1).f0) = 3 then ((wal_Open.f kj20 x308000_1 x308001_1 x308002_1 x308003_1).bind fun bt342 => ((ddiref16_Open.f kj20 x309000_1 x309001_1 x309002_1 x309003_1).bind fun bt350 => (ddilaw16_WalPlays.j2 kj20 l1 x7_1 bt342.2.2.2.2.2 bt350.2.2.2.2.2 bt342.2.2.2.2.1 bt350.2.2.2.2.1 bt342.1 bt342.2.1 bt342.2.2.1 bt342.2.2.2.1 bt350.1 bt350.2.1 bt350.2.2.1 bt350.2.2.2.1))) else ((wal_Append.f kj20 x308000_1 x308001_1 x308002_1 x308003_1 t310).bind fun bt358 => ((ddiref16_Append.f kj20 x309000_1 x309001_1 x309002_1 x309003_1 t310).bind fun bt363 => (ddilaw16_WalPlays.j2 kj20 l1 x7_1 bt358.2.2.2.2 bt363.2.2.2.2 ([] : List ByteArray) ([] : List ByteArray) bt358.1 bt358.2.1 bt358.2.2.1 bt358.2.2.2.1 bt363.1 bt363.2.1 bt363.2.2.1 bt363.2.2.2.1))))))) = some r := H
                have A26 := Aside0.mk A260
                clear A260
                have HC27 := Aside0.mk H
                clear H
                have p309 : 0 ≤ (x7_1 : Int) := of_decide_eq_true (by first | (with_reducible assumption) | assumption)
                have q309 : x7_1 < (l1.length : Int) := of_decide_eq_true (by first | (with_reducible assumption) | assumption)
                obtain ⟨ad309, e309, hx309_0, hx309_1, hx309_2⟩ := at_T46 HR1.out x7_1 p309 q309
                cases e309
                replace hx309_0 := (HB.out.cell (World.block_lt_of_cell? w _ hx309_0)).trans hx309_0
                replace hx309_1 := (HB.out.cell (World.block_lt_of_cell? w _ hx309_1)).trans hx309_1
                replace hx309_2 := (HB.out.cell (World.block_lt_of_cell? w _ hx309_2)).trans hx309_2
                replace p309 := eq_true p309
                replace q309 := eq_true q309
                go_upto_block 2 with (first | ((with_reducible refine gate_callee (f := 10) rfl ?_); refine goesL_ (some 34) rfl rfl Try.func10 (by kernel_rfl) rfl #[.string ((rd_T46 l1 x7_1).f2), .int .i64 300] rfl (by (try simp only [List.map_toArray, List.map_cons, List.map_nil]); first | done | rfl | (simp only [List.length_drop, List.length_take]; rfl)) ?_; (with_reducible refine (ddilaw16_cut.calls ((rd_T46 l1 x7_1).f2) 300 t310 _ A26.out).mono ?_); rintro e w28 ⟨rfl, hb⟩; refine ⟨_, rfl, ?_⟩; have n0_ := Aside0.mk (blk_below (g := gb305) (o := .cells #[.string t306, .int .i64 a0_1, .int .i64 a0_2, .bool a0_3] 36 (0, 0)) (by (with_reducible repeat (first | refine blk_drewN ?_ _ | refine blk_drew ?_ | refine blk_alloc ?_ _)); exact BK305.out) hb); have n1_ := Aside0.mk (blk_below (g := gb307) (o := .cells #[.string x308000_1, .int .i64 x308001_1, .int .i64 x308002_1, .bool x308003_1] 36 (0, 0)) (by (with_reducible repeat (first | refine blk_drewN ?_ _ | refine blk_drew ?_ | refine blk_alloc ?_ _)); exact BK307.out) hb); have n2_ := Aside0.mk (blk_below (g := gb308) (o := .cells #[.string x309000_1, .int .i64 x309001_1, .int .i64 x309002_1, .bool x309003_1] 36 (0, 0)) (by (with_reducible repeat (first | refine blk_drewN ?_ _ | refine blk_drew ?_ | refine blk_alloc ?_ _)); exact BK308.out) hb); have n3_ := Aside0.mk (below_step (by repeat (first | (with_reducible first | exact HB.out | apply below_alloc | apply pw_below_drewN | apply below_drew1 | refine below_set ?_ GE305.out | refine below_set ?_ GE307.out | refine below_set ?_ GE308.out) | exact HB.out)) hb); clear BK305; clear BK307; clear BK308; clear HB; have BK305 := n0_; have BK307 := n1_; have BK308 := n2_; have HB := n3_; clear n0_ n1_ n2_ n3_; (try clear hb); (try clear hb2); (try clear hk); (try clear hi); have p311 : 0 ≤ (x7_1 : Int) := of_decide_eq_true (by first | (with_reducible assumption) | assumption); have q311 : x7_1 < (l1.length : Int) := of_decide_eq_true (by first | (with_reducible assumption) | assumption); obtain ⟨ad311, e311, hx311_0, hx311_1, hx311_2⟩ := at_T46 HR1.out x7_1 p311 q311; obtain rfl : ad309 = ad311 := (by injection e311); replace hx311_0 := (HB.out.cell (World.block_lt_of_cell? w _ hx311_0)).trans hx311_0; replace hx311_1 := (HB.out.cell (World.block_lt_of_cell? w _ hx311_1)).trans hx311_1; replace hx311_2 := (HB.out.cell (World.block_lt_of_cell? w _ hx311_2)).trans hx311_2; replace p311 := eq_true p311; replace q311 := eq_true q311))
                (try simp only [Act.put, List.setIfInBounds_toArray, List.set_cons_zero, List.set_cons_succ])
                go_cut [9, 10, 11, 12] (fun v9 v10 v11 v12 wc => ∃ (kq : Nat) (x9_26 : Int) (x10_26 : Int) (x11_26 : List ByteArray) (x12_26 : List ByteArray) (x308000_26 : ByteArray) (x308001_26 : Int) (x308002_26 : Int) (x308003_26 : Bool) (x309000_26 : ByteArray) (x309001_26 : Int) (x309002_26 : Int) (x309003_26 : Bool), v9 = .int .i64 x9_26 ∧ v10 = .int .i64 x10_26 ∧ Aside0 (ddilaw16_WalPlays.j2 kq l1 x7_1 x9_26 x10_26 x11_26 x12_26 x308000_26 x308001_26 x308002_26 x308003_26 x309000_26 x309001_26 x309002_26 x309003_26 = some r) ∧ Aside0 (kq ≤ kj20) ∧ Aside0 (Kd.R Kd.string 9 wc w.heap.size (fun k_ => some k_ ≠ (v12 : Value).ownBlock) v11 x11_26) ∧ Aside0 (Kd.R Kd.string 9 wc w.heap.size (fun k_ => some k_ ≠ (v11 : Value).ownBlock) v12 x12_26) ∧ Aside0 (wc.heap[gb305]? = some (.cells #[.string t306, .int .i64 a0_1, .int .i64 a0_2, .bool a0_3] 36 (0, 0))) ∧ Aside0 (wc.heap[gb307]? = some (.cells #[.string x308000_26, .int .i64 x308001_26, .int .i64 x308002_26, .bool x308003_26] 36 (0, 0))) ∧ Aside0 (wc.heap[gb308]? = some (.cells #[.string x309000_26, .int .i64 x309001_26, .int .i64 x309002_26, .bool x309003_26] 36 (0, 0))) ∧ Aside0 (Below w.heap.size w wc))
                case first =>
                  have H := HC27.out
                  clear HC27
                  by_cases c29 : ((rd_T46 l1 x7_1).f0) = 0
                  · rw [if_pos c29] at H
                    have c29b0 : (((rd_T46 l1 x7_1).f0) == 0) = true := beq_iff_eq.mpr c29
                    have c29b1 : (((rd_T46 l1 x7_1).f0) != 0) = false := bne_eq_false_iff_eq.mpr c29
                    clear c29
                    (first | rw [c29b0] | (simp only [i64_w, i32_w]; rw [c29b0]) | skip)
                    replace H := Option.bind_eq_some_iff.mp H
                    obtain ⟨⟨t312, t313, t314, t315, t316⟩, A300, H⟩ := H
                    replace H : ((ddiref16_Write.f x309000_1 x309001_1 x309002_1 x309003_1 t310).bind fun bt317 => (ddilaw16_WalPlays.j2 kj20 l1 x7_1 t316 bt317.2.2.2.2 ([] : List ByteArray) ([] : List ByteArray) t312 t313 t314 t315 bt317.1 bt317.2.1 bt317.2.2.1 bt317.2.2.2.1)) = some r := H
                    have A30 := Aside0.mk A300
                    clear A300
                    replace H := Option.bind_eq_some_iff.mp H
                    obtain ⟨⟨t317, t318, t319, t320, t321⟩, A310, H⟩ := H
                    replace H : (ddilaw16_WalPlays.j2 kj20 l1 x7_1 t316 t321 ([] : List ByteArray) ([] : List ByteArray) t312 t313 t314 t315 t317 t318 t319 t320) = some r := H
                    have A31 := Aside0.mk A310
                    clear A310
                    have H' := Aside0.mk H
                    clear H
                    have hnb32 := NB307_305.out
                    have hnc32 := NB305_307.out
                    have hnb33 := NB307_308.out
                    have hnc33 := NB308_307.out
                    have hcz34_0 : w28.cell? ⟨gb307, 0, none⟩ = some (.string x308000_1) := (blk_cell BK307.out 0).trans rfl
                    have hcz34_1 : w28.cell? ⟨gb307, 1, none⟩ = some (.int .i64 x308001_1) := (blk_cell BK307.out 1).trans rfl
                    have hcz34_2 : w28.cell? ⟨gb307, 2, none⟩ = some (.int .i64 x308002_1) := (blk_cell BK307.out 2).trans rfl
                    have hcz34_3 : w28.cell? ⟨gb307, 3, none⟩ = some (.bool x308003_1) := (blk_cell BK307.out 3).trans rfl
                    have hfz34_0 := blk_frozen BK307.out 0
                    have hfz34_1 := blk_frozen BK307.out 1
                    have hfz34_2 := blk_frozen BK307.out 2
                    have hfz34_3 := blk_frozen BK307.out 3
                    go_wp2_with (first | ((with_reducible refine gate_callee (f := 19) rfl ?_); refine goesL_ (some 57) rfl rfl Try.func19 (by kernel_rfl) rfl #[.agg #[.string x308000_1, .int .i64 x308001_1, .int .i64 x308002_1, .bool x308003_1], .string t310] rfl (by (try simp only [List.map_toArray, List.map_cons, List.map_nil]); first | done | rfl | (simp only [List.length_drop, List.length_take]; rfl)) ?_; (with_reducible refine (wal_Write.calls kj20 x308000_1 x308001_1 x308002_1 x308003_1 t310 t312 t313 t314 t315 t316 _ A30.out).mono ?_); rintro e w35 ⟨rfl, hb⟩; refine ⟨_, rfl, ?_⟩; have n0_ := Aside0.mk (blk_below (g := gb305) (o := .cells #[.string t306, .int .i64 a0_1, .int .i64 a0_2, .bool a0_3] 36 (0, 0)) (by (with_reducible repeat (first | refine blk_drewN ?_ _ | refine blk_drew ?_ | refine blk_alloc ?_ _)); exact BK305.out) hb); have n1_ := Aside0.mk (blk_below (g := gb307) (o := .cells #[.string x308000_1, .int .i64 x308001_1, .int .i64 x308002_1, .bool x308003_1] 36 (0, 0)) (by (with_reducible repeat (first | refine blk_drewN ?_ _ | refine blk_drew ?_ | refine blk_alloc ?_ _)); exact BK307.out) hb); have n2_ := Aside0.mk (blk_below (g := gb308) (o := .cells #[.string x309000_1, .int .i64 x309001_1, .int .i64 x309002_1, .bool x309003_1] 36 (0, 0)) (by (with_reducible repeat (first | refine blk_drewN ?_ _ | refine blk_drew ?_ | refine blk_alloc ?_ _)); exact BK308.out) hb); have n3_ := Aside0.mk (below_step (by repeat (first | (with_reducible first | exact HB.out | apply below_alloc | apply pw_below_drewN | apply below_drew1 | refine below_set ?_ GE305.out | refine below_set ?_ GE307.out | refine below_set ?_ GE308.out) | exact HB.out)) hb); clear BK305; clear BK307; clear BK308; clear HB; have BK305 := n0_; have BK307 := n1_; have BK308 := n2_; have HB := n3_; clear n0_ n1_ n2_ n3_; (try clear hb); (try clear hb2); (try clear hk); (try clear hi); have hcz36_0 : w35.cell? ⟨gb307, 0, none⟩ = some (.string x308000_1) := (blk_cell BK307.out 0).trans rfl; have hcz36_1 : w35.cell? ⟨gb307, 1, none⟩ = some (.int .i64 x308001_1) := (blk_cell BK307.out 1).trans rfl; have hcz36_2 : w35.cell? ⟨gb307, 2, none⟩ = some (.int .i64 x308002_1) := (blk_cell BK307.out 2).trans rfl; have hcz36_3 : w35.cell? ⟨gb307, 3, none⟩ = some (.bool x308003_1) := (blk_cell BK307.out 3).trans rfl; have hfz36_0 := blk_frozen BK307.out 0; have hfz36_1 := blk_frozen BK307.out 1; have hfz36_2 := blk_frozen BK307.out 2; have hfz36_3 := blk_frozen BK307.out 3; have hnb37 := NB308_305.out; have hnc37 := NB305_308.out; have hcz38_0 : w35.cell? ⟨gb308, 0, none⟩ = some (.string x309000_1) := (blk_cell BK308.out 0).trans rfl; have hcz38_1 : w35.cell? ⟨gb308, 1, none⟩ = some (.int .i64 x309001_1) := (blk_cell BK308.out 1).trans rfl; have hcz38_2 : w35.cell? ⟨gb308, 2, none⟩ = some (.int .i64 x309002_1) := (blk_cell BK308.out 2).trans rfl; have hcz38_3 : w35.cell? ⟨gb308, 3, none⟩ = some (.bool x309003_1) := (blk_cell BK308.out 3).trans rfl; have hfz38_0 := blk_frozen BK308.out 0; have hfz38_1 := blk_frozen BK308.out 1; have hfz38_2 := blk_frozen BK308.out 2; have hfz38_3 := blk_frozen BK308.out 3) | ((with_reducible refine gate_callee (f := 20) rfl ?_); refine goesL_ (some 63) rfl rfl Try.func20 (by kernel_rfl) rfl #[.agg #[.string x309000_1, .int .i64 x309001_1, .int .i64 x309002_1, .bool x309003_1], .string t310] rfl (by (try simp only [List.map_toArray, List.map_cons, List.map_nil]); first | done | rfl | (simp only [List.length_drop, List.length_take]; rfl)) ?_; (with_reducible refine (ddiref16_Write.calls x309000_1 x309001_1 x309002_1 x309003_1 t310 t317 t318 t319 t320 t321 _ A31.out).mono ?_); rintro e w39 ⟨rfl, hb⟩; refine ⟨_, rfl, ?_⟩; have n0_ := Aside0.mk (blk_below (g := gb305) (o := .cells #[.string t306, .int .i64 a0_1, .int .i64 a0_2, .bool a0_3] 36 (0, 0)) (by (with_reducible repeat (first | refine blk_drewN ?_ _ | refine blk_drew ?_ | refine blk_alloc ?_ _)); refine blk_far ?_ NB305_307.out _; (with_reducible repeat (first | refine blk_drewN ?_ _ | refine blk_drew ?_ | refine blk_alloc ?_ _)); refine blk_far ?_ NB305_307.out _; (with_reducible repeat (first | refine blk_drewN ?_ _ | refine blk_drew ?_ | refine blk_alloc ?_ _)); refine blk_far ?_ NB305_307.out _; (with_reducible repeat (first | refine blk_drewN ?_ _ | refine blk_drew ?_ | refine blk_alloc ?_ _)); refine blk_far ?_ NB305_307.out _; (with_reducible repeat (first | refine blk_drewN ?_ _ | refine blk_drew ?_ | refine blk_alloc ?_ _)); exact BK305.out) hb); have n1_ := Aside0.mk (blk_below (g := gb307) (o := .cells #[.string t312, .int .i64 t313, .int .i64 t314, .bool t315] 36 (0, 0)) (by (with_reducible repeat (first | refine blk_drewN ?_ _ | refine blk_drew ?_ | refine blk_alloc ?_ _)); refine blk_put (cs := #[.string t312, .int .i64 t313, .int .i64 t314, .bool x308003_1]) ?_ 3 _ rfl; (with_reducible repeat (first | refine blk_drewN ?_ _ | refine blk_drew ?_ | refine blk_alloc ?_ _)); refine blk_put (cs := #[.string t312, .int .i64 t313, .int .i64 x308002_1, .bool x308003_1]) ?_ 2 _ rfl; (with_reducible repeat (first | refine blk_drewN ?_ _ | refine blk_drew ?_ | refine blk_alloc ?_ _)); refine blk_put (cs := #[.string t312, .int .i64 x308001_1, .int .i64 x308002_1, .bool x308003_1]) ?_ 1 _ rfl; (with_reducible repeat (first | refine blk_drewN ?_ _ | refine blk_drew ?_ | refine blk_alloc ?_ _)); refine blk_put (cs := #[.string x308000_1, .int .i64 x308001_1, .int .i64 x308002_1, .bool x308003_1]) ?_ 0 _ rfl; (with_reducible repeat (first | refine blk_drewN ?_ _ | refine blk_drew ?_ | refine blk_alloc ?_ _)); exact BK307.out) hb); have n2_ := Aside0.mk (blk_below (g := gb308) (o := .cells #[.string x309000_1, .int .i64 x309001_1, .int .i64 x309002_1, .bool x309003_1] 36 (0, 0)) (by (with_reducible repeat (first | refine blk_drewN ?_ _ | refine blk_drew ?_ | refine blk_alloc ?_ _)); refine blk_far ?_ NB308_307.out _; (with_reducible repeat (first | refine blk_drewN ?_ _ | refine blk_drew ?_ | refine blk_alloc ?_ _)); refine blk_far ?_ NB308_307.out _; (with_reducible repeat (first | refine blk_drewN ?_ _ | refine blk_drew ?_ | refine blk_alloc ?_ _)); refine blk_far ?_ NB308_307.out _; (with_reducible repeat (first | refine blk_drewN ?_ _ | refine blk_drew ?_ | refine blk_alloc ?_ _)); refine blk_far ?_ NB308_307.out _; (with_reducible repeat (first | refine blk_drewN ?_ _ | refine blk_drew ?_ | refine blk_alloc ?_ _)); exact BK308.out) hb); have n3_ := Aside0.mk (below_step (by repeat (first | (with_reducible first | exact HB.out | apply below_alloc | apply pw_below_drewN | apply below_drew1 | refine below_set ?_ GE305.out | refine below_set ?_ GE307.out | refine below_set ?_ GE308.out) | exact HB.out)) hb); clear BK305; clear BK307; clear BK308; clear HB; have BK305 := n0_; have BK307 := n1_; have BK308 := n2_; have HB := n3_; clear n0_ n1_ n2_ n3_; (try clear hb); (try clear hb2); (try clear hk); (try clear hi); have hcz40_0 : w39.cell? ⟨gb308, 0, none⟩ = some (.string x309000_1) := (blk_cell BK308.out 0).trans rfl; have hcz40_1 : w39.cell? ⟨gb308, 1, none⟩ = some (.int .i64 x309001_1) := (blk_cell BK308.out 1).trans rfl; have hcz40_2 : w39.cell? ⟨gb308, 2, none⟩ = some (.int .i64 x309002_1) := (blk_cell BK308.out 2).trans rfl; have hcz40_3 : w39.cell? ⟨gb308, 3, none⟩ = some (.bool x309003_1) := (blk_cell BK308.out 3).trans rfl; have hfz40_0 := blk_frozen BK308.out 0; have hfz40_1 := blk_frozen BK308.out 1; have hfz40_2 := blk_frozen BK308.out 2; have hfz40_3 := blk_frozen BK308.out 3))
                    go_meet
                    case rel => exact ⟨_, (t316), (t321), (([] : List ByteArray)), (([] : List ByteArray)), (t312), (t313), (t314), (t315), (t317), (t318), (t319), (t320), (by first | rfl | (simp; done) | (simp [*]; done)), (by first | rfl | (simp; done) | (simp [*]; done)), H', ⟨by have := HK1.out; have := HJ20.out; first | omega | exact Nat.le_refl _⟩, ⟨by first | exact Kd.R_nil _ _ _ _ _ | exact Kd.N_nil _ _ _ _ _ | exact Kd.V_nil _ _ _ _ _ | exact Kd.Q_nil _ _ _ _ _ | exact Kd.S_nil _ _ _ _ _⟩, ⟨by first | exact Kd.R_nil _ _ _ _ _ | exact Kd.N_nil _ _ _ _ _ | exact Kd.V_nil _ _ _ _ _ | exact Kd.Q_nil _ _ _ _ _ | exact Kd.S_nil _ _ _ _ _⟩, ⟨by (with_reducible repeat (first | refine blk_drewN ?_ _ | refine blk_drew ?_ | refine blk_alloc ?_ _)); refine blk_far ?_ NB305_308.out _; (with_reducible repeat (first | refine blk_drewN ?_ _ | refine blk_drew ?_ | refine blk_alloc ?_ _)); refine blk_far ?_ NB305_308.out _; (with_reducible repeat (first | refine blk_drewN ?_ _ | refine blk_drew ?_ | refine blk_alloc ?_ _)); refine blk_far ?_ NB305_308.out _; (with_reducible repeat (first | refine blk_drewN ?_ _ | refine blk_drew ?_ | refine blk_alloc ?_ _)); refine blk_far ?_ NB305_308.out _; (with_reducible repeat (first | refine blk_drewN ?_ _ | refine blk_drew ?_ | refine blk_alloc ?_ _)); exact BK305.out⟩, ⟨by (with_reducible repeat (first | refine blk_drewN ?_ _ | refine blk_drew ?_ | refine blk_alloc ?_ _)); refine blk_far ?_ NB307_308.out _; (with_reducible repeat (first | refine blk_drewN ?_ _ | refine blk_drew ?_ | refine blk_alloc ?_ _)); refine blk_far ?_ NB307_308.out _; (with_reducible repeat (first | refine blk_drewN ?_ _ | refine blk_drew ?_ | refine blk_alloc ?_ _)); refine blk_far ?_ NB307_308.out _; (with_reducible repeat (first | refine blk_drewN ?_ _ | refine blk_drew ?_ | refine blk_alloc ?_ _)); refine blk_far ?_ NB307_308.out _; (with_reducible repeat (first | refine blk_drewN ?_ _ | refine blk_drew ?_ | refine blk_alloc ?_ _)); exact BK307.out⟩, ⟨by (with_reducible repeat (first | refine blk_drewN ?_ _ | refine blk_drew ?_ | refine blk_alloc ?_ _)); refine blk_put (cs := #[.string t317, .int .i64 t318, .int .i64 t319, .bool x309003_1]) ?_ 3 _ rfl; (with_reducible repeat (first | refine blk_drewN ?_ _ | refine blk_drew ?_ | refine blk_alloc ?_ _)); refine blk_put (cs := #[.string t317, .int .i64 t318, .int .i64 x309002_1, .bool x309003_1]) ?_ 2 _ rfl; (with_reducible repeat (first | refine blk_drewN ?_ _ | refine blk_drew ?_ | refine blk_alloc ?_ _)); refine blk_put (cs := #[.string t317, .int .i64 x309001_1, .int .i64 x309002_1, .bool x309003_1]) ?_ 1 _ rfl; (with_reducible repeat (first | refine blk_drewN ?_ _ | refine blk_drew ?_ | refine blk_alloc ?_ _)); refine blk_put (cs := #[.string x309000_1, .int .i64 x309001_1, .int .i64 x309002_1, .bool x309003_1]) ?_ 0 _ rfl; (with_reducible repeat (first | refine blk_drewN ?_ _ | refine blk_drew ?_ | refine blk_alloc ?_ _)); exact BK308.out⟩, ⟨by repeat (first | (with_reducible first | exact HB.out | apply below_alloc | apply pw_below_drewN | apply below_drew1 | refine below_set ?_ GE305.out | refine below_set ?_ GE307.out | refine below_set ?_ GE308.out) | exact HB.out)⟩⟩
                  · rw [if_neg c29] at H
                    have c29b0 : (((rd_T46 l1 x7_1).f0) == 0) = false := beq_eq_false_iff_ne.mpr c29
                    have c29b1 : (((rd_T46 l1 x7_1).f0) != 0) = true := bne_iff_ne.mpr c29
                    (first | rw [c29b0] | (simp only [i64_w, i32_w]; rw [c29b0]) | skip)
                    by_cases c41 : ((rd_T46 l1 x7_1).f0) = 1
                    · rw [if_pos c41] at H
                      have c41b0 : (((rd_T46 l1 x7_1).f0) == 1) = true := beq_iff_eq.mpr c41
                      have c41b1 : (((rd_T46 l1 x7_1).f0) != 1) = false := bne_eq_false_iff_eq.mpr c41
                      clear c41
                      replace H := Option.bind_eq_some_iff.mp H
                      obtain ⟨⟨t322, t323, t324, t325, t326⟩, A420, H⟩ := H
                      replace H : ((ddiref16_Sync.f x309000_1 x309001_1 x309002_1 x309003_1).bind fun bt327 => (ddilaw16_WalPlays.j2 kj20 l1 x7_1 t326 bt327.2.2.2.2 ([] : List ByteArray) ([] : List ByteArray) t322 t323 t324 t325 bt327.1 bt327.2.1 bt327.2.2.1 bt327.2.2.2.1)) = some r := H
                      have A42 := Aside0.mk A420
                      clear A420
                      replace H := Option.bind_eq_some_iff.mp H
                      obtain ⟨⟨t327, t328, t329, t330, t331⟩, A430, H⟩ := H
                      replace H : (ddilaw16_WalPlays.j2 kj20 l1 x7_1 t326 t331 ([] : List ByteArray) ([] : List ByteArray) t322 t323 t324 t325 t327 t328 t329 t330) = some r := H
                      have A43 := Aside0.mk A430
                      clear A430
                      have H' := Aside0.mk H
                      clear H
                      have hnb44 := NB307_305.out
                      have hnc44 := NB305_307.out
                      have hnb45 := NB307_308.out
                      have hnc45 := NB308_307.out
                      have hcz46_0 : w28.cell? ⟨gb307, 0, none⟩ = some (.string x308000_1) := (blk_cell BK307.out 0).trans rfl
                      have hcz46_1 : w28.cell? ⟨gb307, 1, none⟩ = some (.int .i64 x308001_1) := (blk_cell BK307.out 1).trans rfl
                      have hcz46_2 : w28.cell? ⟨gb307, 2, none⟩ = some (.int .i64 x308002_1) := (blk_cell BK307.out 2).trans rfl
                      have hcz46_3 : w28.cell? ⟨gb307, 3, none⟩ = some (.bool x308003_1) := (blk_cell BK307.out 3).trans rfl
                      have hfz46_0 := blk_frozen BK307.out 0
                      have hfz46_1 := blk_frozen BK307.out 1
                      have hfz46_2 := blk_frozen BK307.out 2
                      have hfz46_3 := blk_frozen BK307.out 3
                      go_wp2_with (first | ((with_reducible refine gate_callee (f := 21) rfl ?_); refine goesL_ (some 70) rfl rfl Try.func21 (by kernel_rfl) rfl #[.agg #[.string x308000_1, .int .i64 x308001_1, .int .i64 x308002_1, .bool x308003_1]] rfl (by (try simp only [List.map_toArray, List.map_cons, List.map_nil]); first | done | rfl | (simp only [List.length_drop, List.length_take]; rfl)) ?_; (with_reducible refine (wal_Sync.calls x308000_1 x308001_1 x308002_1 x308003_1 t322 t323 t324 t325 t326 _ A42.out).mono ?_); rintro e w47 ⟨rfl, hb⟩; refine ⟨_, rfl, ?_⟩; have n0_ := Aside0.mk (blk_below (g := gb305) (o := .cells #[.string t306, .int .i64 a0_1, .int .i64 a0_2, .bool a0_3] 36 (0, 0)) (by (with_reducible repeat (first | refine blk_drewN ?_ _ | refine blk_drew ?_ | refine blk_alloc ?_ _)); exact BK305.out) hb); have n1_ := Aside0.mk (blk_below (g := gb307) (o := .cells #[.string x308000_1, .int .i64 x308001_1, .int .i64 x308002_1, .bool x308003_1] 36 (0, 0)) (by (with_reducible repeat (first | refine blk_drewN ?_ _ | refine blk_drew ?_ | refine blk_alloc ?_ _)); exact BK307.out) hb); have n2_ := Aside0.mk (blk_below (g := gb308) (o := .cells #[.string x309000_1, .int .i64 x309001_1, .int .i64 x309002_1, .bool x309003_1] 36 (0, 0)) (by (with_reducible repeat (first | refine blk_drewN ?_ _ | refine blk_drew ?_ | refine blk_alloc ?_ _)); exact BK308.out) hb); have n3_ := Aside0.mk (below_step (by repeat (first | (with_reducible first | exact HB.out | apply below_alloc | apply pw_below_drewN | apply below_drew1 | refine below_set ?_ GE305.out | refine below_set ?_ GE307.out | refine below_set ?_ GE308.out) | exact HB.out)) hb); clear BK305; clear BK307; clear BK308; clear HB; have BK305 := n0_; have BK307 := n1_; have BK308 := n2_; have HB := n3_; clear n0_ n1_ n2_ n3_; (try clear hb); (try clear hb2); (try clear hk); (try clear hi); have hcz48_0 : w47.cell? ⟨gb307, 0, none⟩ = some (.string x308000_1) := (blk_cell BK307.out 0).trans rfl; have hcz48_1 : w47.cell? ⟨gb307, 1, none⟩ = some (.int .i64 x308001_1) := (blk_cell BK307.out 1).trans rfl; have hcz48_2 : w47.cell? ⟨gb307, 2, none⟩ = some (.int .i64 x308002_1) := (blk_cell BK307.out 2).trans rfl; have hcz48_3 : w47.cell? ⟨gb307, 3, none⟩ = some (.bool x308003_1) := (blk_cell BK307.out 3).trans rfl; have hfz48_0 := blk_frozen BK307.out 0; have hfz48_1 := blk_frozen BK307.out 1; have hfz48_2 := blk_frozen BK307.out 2; have hfz48_3 := blk_frozen BK307.out 3; have hnb49 := NB308_305.out; have hnc49 := NB305_308.out; have hcz50_0 : w47.cell? ⟨gb308, 0, none⟩ = some (.string x309000_1) := (blk_cell BK308.out 0).trans rfl; have hcz50_1 : w47.cell? ⟨gb308, 1, none⟩ = some (.int .i64 x309001_1) := (blk_cell BK308.out 1).trans rfl; have hcz50_2 : w47.cell? ⟨gb308, 2, none⟩ = some (.int .i64 x309002_1) := (blk_cell BK308.out 2).trans rfl; have hcz50_3 : w47.cell? ⟨gb308, 3, none⟩ = some (.bool x309003_1) := (blk_cell BK308.out 3).trans rfl; have hfz50_0 := blk_frozen BK308.out 0; have hfz50_1 := blk_frozen BK308.out 1; have hfz50_2 := blk_frozen BK308.out 2; have hfz50_3 := blk_frozen BK308.out 3) | ((with_reducible refine gate_callee (f := 22) rfl ?_); refine goesL_ (some 75) rfl rfl Try.func22 (by kernel_rfl) rfl #[.agg #[.string x309000_1, .int .i64 x309001_1, .int .i64 x309002_1, .bool x309003_1]] rfl (by (try simp only [List.map_toArray, List.map_cons, List.map_nil]); first | done | rfl | (simp only [List.length_drop, List.length_take]; rfl)) ?_; (with_reducible refine (ddiref16_Sync.calls x309000_1 x309001_1 x309002_1 x309003_1 t327 t328 t329 t330 t331 _ A43.out).mono ?_); rintro e w51 ⟨rfl, hb⟩; refine ⟨_, rfl, ?_⟩; have n0_ := Aside0.mk (blk_below (g := gb305) (o := .cells #[.string t306, .int .i64 a0_1, .int .i64 a0_2, .bool a0_3] 36 (0, 0)) (by (with_reducible repeat (first | refine blk_drewN ?_ _ | refine blk_drew ?_ | refine blk_alloc ?_ _)); refine blk_far ?_ NB305_307.out _; (with_reducible repeat (first | refine blk_drewN ?_ _ | refine blk_drew ?_ | refine blk_alloc ?_ _)); refine blk_far ?_ NB305_307.out _; (with_reducible repeat (first | refine blk_drewN ?_ _ | refine blk_drew ?_ | refine blk_alloc ?_ _)); refine blk_far ?_ NB305_307.out _; (with_reducible repeat (first | refine blk_drewN ?_ _ | refine blk_drew ?_ | refine blk_alloc ?_ _)); refine blk_far ?_ NB305_307.out _; (with_reducible repeat (first | refine blk_drewN ?_ _ | refine blk_drew ?_ | refine blk_alloc ?_ _)); exact BK305.out) hb); have n1_ := Aside0.mk (blk_below (g := gb307) (o := .cells #[.string t322, .int .i64 t323, .int .i64 t324, .bool t325] 36 (0, 0)) (by (with_reducible repeat (first | refine blk_drewN ?_ _ | refine blk_drew ?_ | refine blk_alloc ?_ _)); refine blk_put (cs := #[.string t322, .int .i64 t323, .int .i64 t324, .bool x308003_1]) ?_ 3 _ rfl; (with_reducible repeat (first | refine blk_drewN ?_ _ | refine blk_drew ?_ | refine blk_alloc ?_ _)); refine blk_put (cs := #[.string t322, .int .i64 t323, .int .i64 x308002_1, .bool x308003_1]) ?_ 2 _ rfl; (with_reducible repeat (first | refine blk_drewN ?_ _ | refine blk_drew ?_ | refine blk_alloc ?_ _)); refine blk_put (cs := #[.string t322, .int .i64 x308001_1, .int .i64 x308002_1, .bool x308003_1]) ?_ 1 _ rfl; (with_reducible repeat (first | refine blk_drewN ?_ _ | refine blk_drew ?_ | refine blk_alloc ?_ _)); refine blk_put (cs := #[.string x308000_1, .int .i64 x308001_1, .int .i64 x308002_1, .bool x308003_1]) ?_ 0 _ rfl; (with_reducible repeat (first | refine blk_drewN ?_ _ | refine blk_drew ?_ | refine blk_alloc ?_ _)); exact BK307.out) hb); have n2_ := Aside0.mk (blk_below (g := gb308) (o := .cells #[.string x309000_1, .int .i64 x309001_1, .int .i64 x309002_1, .bool x309003_1] 36 (0, 0)) (by (with_reducible repeat (first | refine blk_drewN ?_ _ | refine blk_drew ?_ | refine blk_alloc ?_ _)); refine blk_far ?_ NB308_307.out _; (with_reducible repeat (first | refine blk_drewN ?_ _ | refine blk_drew ?_ | refine blk_alloc ?_ _)); refine blk_far ?_ NB308_307.out _; (with_reducible repeat (first | refine blk_drewN ?_ _ | refine blk_drew ?_ | refine blk_alloc ?_ _)); refine blk_far ?_ NB308_307.out _; (with_reducible repeat (first | refine blk_drewN ?_ _ | refine blk_drew ?_ | refine blk_alloc ?_ _)); refine blk_far ?_ NB308_307.out _; (with_reducible repeat (first | refine blk_drewN ?_ _ | refine blk_drew ?_ | refine blk_alloc ?_ _)); exact BK308.out) hb); have n3_ := Aside0.mk (below_step (by repeat (first | (with_reducible first | exact HB.out | apply below_alloc | apply pw_below_drewN | apply below_drew1 | refine below_set ?_ GE305.out | refine below_set ?_ GE307.out | refine below_set ?_ GE308.out) | exact HB.out)) hb); clear BK305; clear BK307; clear BK308; clear HB; have BK305 := n0_; have BK307 := n1_; have BK308 := n2_; have HB := n3_; clear n0_ n1_ n2_ n3_; (try clear hb); (try clear hb2); (try clear hk); (try clear hi); have hcz52_0 : w51.cell? ⟨gb308, 0, none⟩ = some (.string x309000_1) := (blk_cell BK308.out 0).trans rfl; have hcz52_1 : w51.cell? ⟨gb308, 1, none⟩ = some (.int .i64 x309001_1) := (blk_cell BK308.out 1).trans rfl; have hcz52_2 : w51.cell? ⟨gb308, 2, none⟩ = some (.int .i64 x309002_1) := (blk_cell BK308.out 2).trans rfl; have hcz52_3 : w51.cell? ⟨gb308, 3, none⟩ = some (.bool x309003_1) := (blk_cell BK308.out 3).trans rfl; have hfz52_0 := blk_frozen BK308.out 0; have hfz52_1 := blk_frozen BK308.out 1; have hfz52_2 := blk_frozen BK308.out 2; have hfz52_3 := blk_frozen BK308.out 3))
                      go_meet
                      case rel => exact ⟨_, (t326), (t331), (([] : List ByteArray)), (([] : List ByteArray)), (t322), (t323), (t324), (t325), (t327), (t328), (t329), (t330), (by first | rfl | (simp; done) | (simp [*]; done)), (by first | rfl | (simp; done) | (simp [*]; done)), H', ⟨by have := HK1.out; have := HJ20.out; first | omega | exact Nat.le_refl _⟩, ⟨by first | exact Kd.R_nil _ _ _ _ _ | exact Kd.N_nil _ _ _ _ _ | exact Kd.V_nil _ _ _ _ _ | exact Kd.Q_nil _ _ _ _ _ | exact Kd.S_nil _ _ _ _ _⟩, ⟨by first | exact Kd.R_nil _ _ _ _ _ | exact Kd.N_nil _ _ _ _ _ | exact Kd.V_nil _ _ _ _ _ | exact Kd.Q_nil _ _ _ _ _ | exact Kd.S_nil _ _ _ _ _⟩, ⟨by (with_reducible repeat (first | refine blk_drewN ?_ _ | refine blk_drew ?_ | refine blk_alloc ?_ _)); refine blk_far ?_ NB305_308.out _; (with_reducible repeat (first | refine blk_drewN ?_ _ | refine blk_drew ?_ | refine blk_alloc ?_ _)); refine blk_far ?_ NB305_308.out _; (with_reducible repeat (first | refine blk_drewN ?_ _ | refine blk_drew ?_ | refine blk_alloc ?_ _)); refine blk_far ?_ NB305_308.out _; (with_reducible repeat (first | refine blk_drewN ?_ _ | refine blk_drew ?_ | refine blk_alloc ?_ _)); refine blk_far ?_ NB305_308.out _; (with_reducible repeat (first | refine blk_drewN ?_ _ | refine blk_drew ?_ | refine blk_alloc ?_ _)); exact BK305.out⟩, ⟨by (with_reducible repeat (first | refine blk_drewN ?_ _ | refine blk_drew ?_ | refine blk_alloc ?_ _)); refine blk_far ?_ NB307_308.out _; (with_reducible repeat (first | refine blk_drewN ?_ _ | refine blk_drew ?_ | refine blk_alloc ?_ _)); refine blk_far ?_ NB307_308.out _; (with_reducible repeat (first | refine blk_drewN ?_ _ | refine blk_drew ?_ | refine blk_alloc ?_ _)); refine blk_far ?_ NB307_308.out _; (with_reducible repeat (first | refine blk_drewN ?_ _ | refine blk_drew ?_ | refine blk_alloc ?_ _)); refine blk_far ?_ NB307_308.out _; (with_reducible repeat (first | refine blk_drewN ?_ _ | refine blk_drew ?_ | refine blk_alloc ?_ _)); exact BK307.out⟩, ⟨by (with_reducible repeat (first | refine blk_drewN ?_ _ | refine blk_drew ?_ | refine blk_alloc ?_ _)); refine blk_put (cs := #[.string t327, .int .i64 t328, .int .i64 t329, .bool x309003_1]) ?_ 3 _ rfl; (with_reducible repeat (first | refine blk_drewN ?_ _ | refine blk_drew ?_ | refine blk_alloc ?_ _)); refine blk_put (cs := #[.string t327, .int .i64 t328, .int .i64 x309002_1, .bool x309003_1]) ?_ 2 _ rfl; (with_reducible repeat (first | refine blk_drewN ?_ _ | refine blk_drew ?_ | refine blk_alloc ?_ _)); refine blk_put (cs := #[.string t327, .int .i64 x309001_1, .int .i64 x309002_1, .bool x309003_1]) ?_ 1 _ rfl; (with_reducible repeat (first | refine blk_drewN ?_ _ | refine blk_drew ?_ | refine blk_alloc ?_ _)); refine blk_put (cs := #[.string x309000_1, .int .i64 x309001_1, .int .i64 x309002_1, .bool x309003_1]) ?_ 0 _ rfl; (with_reducible repeat (first | refine blk_drewN ?_ _ | refine blk_drew ?_ | refine blk_alloc ?_ _)); exact BK308.out⟩, ⟨by repeat (first | (with_reducible first | exact HB.out | apply below_alloc | apply pw_below_drewN | apply below_drew1 | refine below_set ?_ GE305.out | refine below_set ?_ GE307.out | refine below_set ?_ GE308.out) | exact HB.out)⟩⟩
                    · rw [if_neg c41] at H
                      have c41b0 : (((rd_T46 l1 x7_1).f0) == 1) = false := beq_eq_false_iff_ne.mpr c41
                      have c41b1 : (((rd_T46 l1 x7_1).f0) != 1) = true := bne_iff_ne.mpr c41
                      by_cases c53 : ((rd_T46 l1 x7_1).f0) = 2
                      · rw [if_pos c53] at H
                        have c53b0 : (((rd_T46 l1 x7_1).f0) == 2) = true := beq_iff_eq.mpr c53
                        have c53b1 : (((rd_T46 l1 x7_1).f0) != 2) = false := bne_eq_false_iff_eq.mpr c53
                        clear c53
                        replace H := Option.bind_eq_some_iff.mp H
                        obtain ⟨⟨t333, t334, t335, t336⟩, A540, H⟩ := H
                        replace H : ((ddiref16_Crash.f x309000_1 x309001_1 x309002_1 x309003_1 ((rd_T46 l1 x7_1).f1)).bind fun bt338 => (ddilaw16_WalPlays.j2 kj20 l1 x7_1 0 0 ([] : List ByteArray) ([] : List ByteArray) t333 t334 t335 t336 bt338.1 bt338.2.1 bt338.2.2.1 bt338.2.2.2)) = some r := H
                        have A54 := Aside0.mk A540
                        clear A540
                        replace H := Option.bind_eq_some_iff.mp H
                        obtain ⟨⟨t338, t339, t340, t341⟩, A550, H⟩ := H
                        replace H : (ddilaw16_WalPlays.j2 kj20 l1 x7_1 0 0 ([] : List ByteArray) ([] : List ByteArray) t333 t334 t335 t336 t338 t339 t340 t341) = some r := H
                        have A55 := Aside0.mk A550
                        clear A550
                        have H' := Aside0.mk H
                        clear H
                        try go_wp2
                        have n0_ := Aside0.mk (blk_drew BK305.out)
                        have n1_ := Aside0.mk (blk_drew BK307.out)
                        have n2_ := Aside0.mk (blk_drew BK308.out)
                        have n3_ := Aside0.mk (below_drew1 HB.out)
                        clear BK305
                        clear BK307
                        clear BK308
                        clear HB
                        have BK305 := n0_
                        have BK307 := n1_
                        have BK308 := n2_
                        have HB := n3_
                        clear n0_ n1_ n2_ n3_
                        have p332 : 0 ≤ (x7_1 : Int) := of_decide_eq_true (by first | (with_reducible assumption) | assumption)
                        have q332 : x7_1 < (l1.length : Int) := of_decide_eq_true (by first | (with_reducible assumption) | assumption)
                        obtain ⟨ad332, e332, hx332_0, hx332_1, hx332_2⟩ := at_T46 HR1.out x7_1 p332 q332
                        have hw332_2 := hx332_2
                        have hw332_1 := hx332_1
                        have hw332_0 := hx332_0
                        obtain rfl : ad309 = ad332 := (by injection e332)
                        replace hx332_0 := (HB.out.cell (World.block_lt_of_cell? w _ hx332_0)).trans hx332_0
                        replace hx332_1 := (HB.out.cell (World.block_lt_of_cell? w _ hx332_1)).trans hx332_1
                        replace hx332_2 := (HB.out.cell (World.block_lt_of_cell? w _ hx332_2)).trans hx332_2
                        replace p332 := eq_true p332
                        replace q332 := eq_true q332
                        refine start_ (n := 8) (S := fun w' => w'.cell? ⟨gb307, 0, none⟩ = some (.string x308000_1) ∧ w'.cell? ⟨gb307, 1, none⟩ = some (.int .i64 x308001_1) ∧ w'.cell? ⟨gb307, 2, none⟩ = some (.int .i64 x308002_1) ∧ w'.cell? ⟨gb307, 3, none⟩ = some (.bool x308003_1) ∧ w'.cell? (ad309.add ((x7_1).toNat * 3)) = some (.int .i64 ((rd_T46 l1 x7_1).f0)) ∧ w'.cell? ⟨(ad309.add ((x7_1).toNat * 3)).block, (ad309.add ((x7_1).toNat * 3)).off + 1, none⟩ = some (.int .i64 ((rd_T46 l1 x7_1).f1)) ∧ w'.cell? ⟨(ad309.add ((x7_1).toNat * 3)).block, (ad309.add ((x7_1).toNat * 3)).off + 2, none⟩ = some (.string ((rd_T46 l1 x7_1).f2))) (ds := [7]) #[false, false, false, false, false, false, false, false] (by kernel_rfl) rfl rfl ⟨(blk_cell BK307.out 0).trans rfl, (blk_cell BK307.out 1).trans rfl, (blk_cell BK307.out 2).trans rfl, (blk_cell BK307.out 3).trans rfl, ((HB.out.cell (World.block_lt_of_cell? w _ hw332_0)).trans hw332_0), ((HB.out.cell (World.block_lt_of_cell? w _ hw332_1)).trans hw332_1), ((HB.out.cell (World.block_lt_of_cell? w _ hw332_2)).trans hw332_2)⟩ (fun hHeld => ?_); refine with_tabW ddilaw16_WalPlays.tab19 ddilaw16_WalPlays.bits19 (fun HT_ HW_ => ?_)
                        generalize w28.drew = w56 at BK305 BK307 BK308 HB hx332_0 hx332_1 hx332_2 hHeld ⊢
                        refine pure_ (i := 1) (N := some 81) (v := ?_) (a' := ?_) #[false, true, false, false, false, false, false, false] rfl rfl (any_of HT_.out (by kernel_rfl)) (fun _ _ _ h => h) (Or.inl ⟨by rfl, ?_⟩) ?_ ?_
                        rotate_left
                        · intro w'
                          go_simp
                          with_reducible rfl
                        rotate_left
                        · simp only [Act.put, List.setIfInBounds_toArray, List.set_cons_zero, List.set_cons_succ, i64_w, i32_w]
                          rfl
                        refine pure_ (i := 2) (N := some 82) (v := ?_) (a' := ?_) #[false, true, true, false, false, false, false, false] rfl rfl (any_of HT_.out (by kernel_rfl)) (fun _ _ _ h => h) (Or.inl ⟨by rfl, ?_⟩) ?_ ?_
                        rotate_left
                        · intro w'
                          go_simp
                          with_reducible rfl
                        rotate_left
                        · simp only [Act.put, List.setIfInBounds_toArray, List.set_cons_zero, List.set_cons_succ, i64_w, i32_w]
                          rfl
                        refine pure_ (i := 3) (N := some 83) (v := ?_) (a' := ?_) #[false, true, true, true, false, false, false, false] rfl rfl (any_of HT_.out (by kernel_rfl)) (fun _ _ _ h => h) (Or.inl ⟨by rfl, ?_⟩) ?_ ?_
                        rotate_left
                        · intro w'
                          go_simp
                          with_reducible rfl
                        rotate_left
                        · simp only [Act.put, List.setIfInBounds_toArray, List.set_cons_zero, List.set_cons_succ, i64_w, i32_w]
                          rfl
                        refine pure_ (i := 4) (N := some 84) (v := ?_) (a' := ?_) #[false, true, true, true, true, false, false, false] rfl rfl (any_of HT_.out (by kernel_rfl)) (fun _ _ _ h => h) (Or.inl ⟨by rfl, ?_⟩) ?_ ?_
                        rotate_left
                        · intro w'
                          go_simp
                          with_reducible rfl
                        rotate_left
                        · simp only [Act.put, List.setIfInBounds_toArray, List.set_cons_zero, List.set_cons_succ, i64_w, i32_w]
                          rfl
                        refine take_ (i := 0) (N := some 80) (v := ?_) (a' := ?_) #[true, true, true, true, true, false, false, false] rfl rfl (take_ofW HT_.out HW_.out (by kernel_rfl)) (fun _ _ _ h => h) (Or.inl ⟨by rfl, ?_⟩) hHeld ?_ ?_
                        rotate_left
                        · rintro w' ⟨s0, s1, s2, s3, s4, s5, s6⟩
                          go_simp
                          with_reducible rfl
                        rotate_left
                        · simp only [Act.put, List.setIfInBounds_toArray, List.set_cons_zero, List.set_cons_succ, i64_w, i32_w]
                          rfl
                        refine take_ (i := 5) (N := some 85) (v := ?_) (a' := ?_) #[true, true, true, true, true, true, false, false] rfl rfl (take_ofW HT_.out HW_.out (by kernel_rfl)) (fun _ _ _ h => h) (Or.inl ⟨by rfl, ?_⟩) hHeld ?_ ?_
                        rotate_left
                        · rintro w' ⟨s0, s1, s2, s3, s4, s5, s6⟩
                          go_simp
                          with_reducible rfl
                        rotate_left
                        · simp only [Act.put, List.setIfInBounds_toArray, List.set_cons_zero, List.set_cons_succ, i64_w, i32_w]
                          rfl
                        refine one_ (i := 6) (N := some 86) #[true, true, true, true, true, true, true, false] rfl rfl (one_of HT_.out (by kernel_rfl)) (by decide) (fun K hK => ?_)
                        refine goes_ Try.func23 (by kernel_rfl) rfl #[.agg #[.string x308000_1, .int .i64 x308001_1, .int .i64 x308002_1, .bool x308003_1], .int .i64 ((rd_T46 l1 x7_1).f1)] (by rfl) rfl rfl (by (try simp only [List.map_toArray, List.map_cons, List.map_nil]); first | done | rfl | (simp only [List.length_drop, List.length_take]; rfl)) ?_
                        with_reducible refine (wal_Crash.calls x308000_1 x308001_1 x308002_1 x308003_1 ((rd_T46 l1 x7_1).f1) t333 t334 t335 t336 _ A54.out).mono ?_
                        rintro e w57 ⟨rfl, hb⟩
                        refine ⟨_, rfl, ?_⟩
                        have n0_ := Aside0.mk (blk_below (g := gb305) (o := .cells #[.string t306, .int .i64 a0_1, .int .i64 a0_2, .bool a0_3] 36 (0, 0)) (by (with_reducible repeat (first | refine blk_drewN ?_ _ | refine blk_drew ?_ | refine blk_alloc ?_ _)); exact BK305.out) hb)
                        have n1_ := Aside0.mk (blk_below (g := gb307) (o := .cells #[.string x308000_1, .int .i64 x308001_1, .int .i64 x308002_1, .bool x308003_1] 36 (0, 0)) (by (with_reducible repeat (first | refine blk_drewN ?_ _ | refine blk_drew ?_ | refine blk_alloc ?_ _)); exact BK307.out) hb)
                        have n2_ := Aside0.mk (blk_below (g := gb308) (o := .cells #[.string x309000_1, .int .i64 x309001_1, .int .i64 x309002_1, .bool x309003_1] 36 (0, 0)) (by (with_reducible repeat (first | refine blk_drewN ?_ _ | refine blk_drew ?_ | refine blk_alloc ?_ _)); exact BK308.out) hb)
                        have n3_ := Aside0.mk (below_step (by repeat (first | (with_reducible first | exact HB.out | apply below_alloc | apply pw_below_drewN | apply below_drew1 | refine below_set ?_ GE305.out | refine below_set ?_ GE307.out | refine below_set ?_ GE308.out) | exact HB.out)) hb)
                        clear BK305
                        clear BK307
                        clear BK308
                        clear HB
                        have BK305 := n0_
                        have BK307 := n1_
                        have BK308 := n2_
                        have HB := n3_
                        clear n0_ n1_ n2_ n3_
                        (try clear hb)
                        (try clear hb2)
                        (try clear hk)
                        (try clear hi)
                        refine hK.out _ _ ⟨(blk_cell BK307.out 0).trans rfl, (blk_cell BK307.out 1).trans rfl, (blk_cell BK307.out 2).trans rfl, (blk_cell BK307.out 3).trans rfl, ((HB.out.cell (World.block_lt_of_cell? w _ hw332_0)).trans hw332_0), ((HB.out.cell (World.block_lt_of_cell? w _ hw332_1)).trans hw332_1), ((HB.out.cell (World.block_lt_of_cell? w _ hw332_2)).trans hw332_2)⟩ (fun hHeld => ?_)
                        clear hK K
                        refine norm_ (a' := ?_) ?_ ?_
                        rotate_left
                        · show Act.put _ (some 86) _ = _
                          simp only [Act.put, List.setIfInBounds_toArray, List.set_cons_zero, List.set_cons_succ, i64_w, i32_w]
                          rfl
                        refine last_ (i := 7) (N := none) #[true, true, true, true, true, true, true, true] rfl rfl (one_of HT_.out (by kernel_rfl)) (by decide) (fun K hK => ?_)
                        have hs58 : w57.cell? ⟨gb307, 0, none⟩ = some (.string x308000_1) := (blk_cell BK307.out 0).trans rfl
                        have hfs58 := blk_frozen BK307.out 0
                        have hns58_0 := NB305_307.out
                        have hns58_2 := NB308_307.out
                        have hms58_0 := NB307_305.out
                        have hms58_2 := NB307_308.out
                        have hs59 : w57.cell? ⟨gb307, 1, none⟩ = some (.int .i64 x308001_1) := (blk_cell BK307.out 1).trans rfl
                        have hfs59 := blk_frozen BK307.out 1
                        have hns59_0 := NB305_307.out
                        have hns59_2 := NB308_307.out
                        have hms59_0 := NB307_305.out
                        have hms59_2 := NB307_308.out
                        have hs60 : w57.cell? ⟨gb307, 2, none⟩ = some (.int .i64 x308002_1) := (blk_cell BK307.out 2).trans rfl
                        have hfs60 := blk_frozen BK307.out 2
                        have hns60_0 := NB305_307.out
                        have hns60_2 := NB308_307.out
                        have hms60_0 := NB307_305.out
                        have hms60_2 := NB307_308.out
                        have hs61 : w57.cell? ⟨gb307, 3, none⟩ = some (.bool x308003_1) := (blk_cell BK307.out 3).trans rfl
                        have hfs61 := blk_frozen BK307.out 3
                        have hns61_0 := NB305_307.out
                        have hns61_2 := NB308_307.out
                        have hms61_0 := NB307_305.out
                        have hms61_2 := NB307_308.out
                        refine skip_ (w1 := ?_) (by rfl) rfl ?_ ?_
                        rotate_left
                        · go_simp
                          rfl
                        refine hK.out _ _ ?_
                        clear hK K
                        refine done_ (done_of HT_.out (by kernel_rfl)) ?_
                        try go_wp2
                        have n0_ : Aside0 (((((w57.setCell ⟨gb307, 0, none⟩ (.string t333)).setCell ⟨gb307, 1, none⟩ (.int .i64 t334)).setCell ⟨gb307, 2, none⟩ (.int .i64 t335)).setCell ⟨gb307, 3, none⟩ (.bool t336)).heap[gb305]? = some (.cells #[.string t306, .int .i64 a0_1, .int .i64 a0_2, .bool a0_3] 36 (0, 0))) := ⟨by (with_reducible repeat (first | refine blk_drewN ?_ _ | refine blk_drew ?_ | refine blk_alloc ?_ _)); refine blk_far ?_ NB305_307.out _; (with_reducible repeat (first | refine blk_drewN ?_ _ | refine blk_drew ?_ | refine blk_alloc ?_ _)); refine blk_far ?_ NB305_307.out _; (with_reducible repeat (first | refine blk_drewN ?_ _ | refine blk_drew ?_ | refine blk_alloc ?_ _)); refine blk_far ?_ NB305_307.out _; (with_reducible repeat (first | refine blk_drewN ?_ _ | refine blk_drew ?_ | refine blk_alloc ?_ _)); refine blk_far ?_ NB305_307.out _; (with_reducible repeat (first | refine blk_drewN ?_ _ | refine blk_drew ?_ | refine blk_alloc ?_ _)); exact BK305.out⟩
                        have n1_ : Aside0 (((((w57.setCell ⟨gb307, 0, none⟩ (.string t333)).setCell ⟨gb307, 1, none⟩ (.int .i64 t334)).setCell ⟨gb307, 2, none⟩ (.int .i64 t335)).setCell ⟨gb307, 3, none⟩ (.bool t336)).heap[gb307]? = some (.cells #[.string t333, .int .i64 t334, .int .i64 t335, .bool t336] 36 (0, 0))) := ⟨by (with_reducible repeat (first | refine blk_drewN ?_ _ | refine blk_drew ?_ | refine blk_alloc ?_ _)); refine blk_put (cs := #[.string t333, .int .i64 t334, .int .i64 t335, .bool x308003_1]) ?_ 3 _ rfl; (with_reducible repeat (first | refine blk_drewN ?_ _ | refine blk_drew ?_ | refine blk_alloc ?_ _)); refine blk_put (cs := #[.string t333, .int .i64 t334, .int .i64 x308002_1, .bool x308003_1]) ?_ 2 _ rfl; (with_reducible repeat (first | refine blk_drewN ?_ _ | refine blk_drew ?_ | refine blk_alloc ?_ _)); refine blk_put (cs := #[.string t333, .int .i64 x308001_1, .int .i64 x308002_1, .bool x308003_1]) ?_ 1 _ rfl; (with_reducible repeat (first | refine blk_drewN ?_ _ | refine blk_drew ?_ | refine blk_alloc ?_ _)); refine blk_put (cs := #[.string x308000_1, .int .i64 x308001_1, .int .i64 x308002_1, .bool x308003_1]) ?_ 0 _ rfl; (with_reducible repeat (first | refine blk_drewN ?_ _ | refine blk_drew ?_ | refine blk_alloc ?_ _)); exact BK307.out⟩
                        have n2_ : Aside0 (((((w57.setCell ⟨gb307, 0, none⟩ (.string t333)).setCell ⟨gb307, 1, none⟩ (.int .i64 t334)).setCell ⟨gb307, 2, none⟩ (.int .i64 t335)).setCell ⟨gb307, 3, none⟩ (.bool t336)).heap[gb308]? = some (.cells #[.string x309000_1, .int .i64 x309001_1, .int .i64 x309002_1, .bool x309003_1] 36 (0, 0))) := ⟨by (with_reducible repeat (first | refine blk_drewN ?_ _ | refine blk_drew ?_ | refine blk_alloc ?_ _)); refine blk_far ?_ NB308_307.out _; (with_reducible repeat (first | refine blk_drewN ?_ _ | refine blk_drew ?_ | refine blk_alloc ?_ _)); refine blk_far ?_ NB308_307.out _; (with_reducible repeat (first | refine blk_drewN ?_ _ | refine blk_drew ?_ | refine blk_alloc ?_ _)); refine blk_far ?_ NB308_307.out _; (with_reducible repeat (first | refine blk_drewN ?_ _ | refine blk_drew ?_ | refine blk_alloc ?_ _)); refine blk_far ?_ NB308_307.out _; (with_reducible repeat (first | refine blk_drewN ?_ _ | refine blk_drew ?_ | refine blk_alloc ?_ _)); exact BK308.out⟩
                        have n3_ : Aside0 (Below w.heap.size w ((((w57.setCell ⟨gb307, 0, none⟩ (.string t333)).setCell ⟨gb307, 1, none⟩ (.int .i64 t334)).setCell ⟨gb307, 2, none⟩ (.int .i64 t335)).setCell ⟨gb307, 3, none⟩ (.bool t336))) := ⟨by repeat (first | (with_reducible first | exact HB.out | apply below_alloc | apply pw_below_drewN | apply below_drew1 | refine below_set ?_ GE305.out | refine below_set ?_ GE307.out | refine below_set ?_ GE308.out) | exact HB.out)⟩
                        (try clear BK305)
                        (try clear BK307)
                        (try clear BK308)
                        (try clear HB)
                        generalize ((((w57.setCell ⟨gb307, 0, none⟩ (.string t333)).setCell ⟨gb307, 1, none⟩ (.int .i64 t334)).setCell ⟨gb307, 2, none⟩ (.int .i64 t335)).setCell ⟨gb307, 3, none⟩ (.bool t336)) = w62 at n0_ n1_ n2_ n3_ ⊢
                        have BK305 := n0_
                        have BK307 := n1_
                        have BK308 := n2_
                        have HB := n3_
                        clear n0_ n1_ n2_ n3_
                        have n0_ := Aside0.mk (blk_drew BK305.out)
                        have n1_ := Aside0.mk (blk_drew BK307.out)
                        have n2_ := Aside0.mk (blk_drew BK308.out)
                        have n3_ := Aside0.mk (below_drew1 HB.out)
                        clear BK305
                        clear BK307
                        clear BK308
                        clear HB
                        have BK305 := n0_
                        have BK307 := n1_
                        have BK308 := n2_
                        have HB := n3_
                        clear n0_ n1_ n2_ n3_
                        have p337 : 0 ≤ (x7_1 : Int) := of_decide_eq_true (by first | (with_reducible assumption) | assumption)
                        have q337 : x7_1 < (l1.length : Int) := of_decide_eq_true (by first | (with_reducible assumption) | assumption)
                        obtain ⟨ad337, e337, hx337_0, hx337_1, hx337_2⟩ := at_T46 HR1.out x7_1 p337 q337
                        have hw337_2 := hx337_2
                        have hw337_1 := hx337_1
                        have hw337_0 := hx337_0
                        obtain rfl : ad309 = ad337 := (by injection e337)
                        replace hx337_0 := (HB.out.cell (World.block_lt_of_cell? w _ hx337_0)).trans hx337_0
                        replace hx337_1 := (HB.out.cell (World.block_lt_of_cell? w _ hx337_1)).trans hx337_1
                        replace hx337_2 := (HB.out.cell (World.block_lt_of_cell? w _ hx337_2)).trans hx337_2
                        replace p337 := eq_true p337
                        replace q337 := eq_true q337
                        refine start_ (n := 8) (S := fun w' => w'.cell? ⟨gb308, 0, none⟩ = some (.string x309000_1) ∧ w'.cell? ⟨gb308, 1, none⟩ = some (.int .i64 x309001_1) ∧ w'.cell? ⟨gb308, 2, none⟩ = some (.int .i64 x309002_1) ∧ w'.cell? ⟨gb308, 3, none⟩ = some (.bool x309003_1) ∧ w'.cell? (ad309.add ((x7_1).toNat * 3)) = some (.int .i64 ((rd_T46 l1 x7_1).f0)) ∧ w'.cell? ⟨(ad309.add ((x7_1).toNat * 3)).block, (ad309.add ((x7_1).toNat * 3)).off + 1, none⟩ = some (.int .i64 ((rd_T46 l1 x7_1).f1)) ∧ w'.cell? ⟨(ad309.add ((x7_1).toNat * 3)).block, (ad309.add ((x7_1).toNat * 3)).off + 2, none⟩ = some (.string ((rd_T46 l1 x7_1).f2))) (ds := [7]) #[false, false, false, false, false, false, false, false] (by kernel_rfl) rfl rfl ⟨(blk_cell BK308.out 0).trans rfl, (blk_cell BK308.out 1).trans rfl, (blk_cell BK308.out 2).trans rfl, (blk_cell BK308.out 3).trans rfl, ((HB.out.cell (World.block_lt_of_cell? w _ hw337_0)).trans hw337_0), ((HB.out.cell (World.block_lt_of_cell? w _ hw337_1)).trans hw337_1), ((HB.out.cell (World.block_lt_of_cell? w _ hw337_2)).trans hw337_2)⟩ (fun hHeld => ?_); refine with_tabW ddilaw16_WalPlays.tab20 ddilaw16_WalPlays.bits20 (fun HT_ HW_ => ?_)
                        generalize w62.drew = w63 at BK305 BK307 BK308 HB hx337_0 hx337_1 hx337_2 hHeld ⊢
                        refine pure_ (i := 1) (N := some 88) (v := ?_) (a' := ?_) #[false, true, false, false, false, false, false, false] rfl rfl (any_of HT_.out (by kernel_rfl)) (fun _ _ _ h => h) (Or.inl ⟨by rfl, ?_⟩) ?_ ?_
                        rotate_left
                        · intro w'
                          go_simp
                          with_reducible rfl
                        rotate_left
                        · simp only [Act.put, List.setIfInBounds_toArray, List.set_cons_zero, List.set_cons_succ, i64_w, i32_w]
                          rfl
                        refine pure_ (i := 2) (N := some 89) (v := ?_) (a' := ?_) #[false, true, true, false, false, false, false, false] rfl rfl (any_of HT_.out (by kernel_rfl)) (fun _ _ _ h => h) (Or.inl ⟨by rfl, ?_⟩) ?_ ?_
                        rotate_left
                        · intro w'
                          go_simp
                          with_reducible rfl
                        rotate_left
                        · simp only [Act.put, List.setIfInBounds_toArray, List.set_cons_zero, List.set_cons_succ, i64_w, i32_w]
                          rfl
                        refine pure_ (i := 3) (N := some 90) (v := ?_) (a' := ?_) #[false, true, true, true, false, false, false, false] rfl rfl (any_of HT_.out (by kernel_rfl)) (fun _ _ _ h => h) (Or.inl ⟨by rfl, ?_⟩) ?_ ?_
                        rotate_left
                        · intro w'
                          go_simp
                          with_reducible rfl
                        rotate_left
                        · simp only [Act.put, List.setIfInBounds_toArray, List.set_cons_zero, List.set_cons_succ, i64_w, i32_w]
                          rfl
                        refine pure_ (i := 4) (N := some 91) (v := ?_) (a' := ?_) #[false, true, true, true, true, false, false, false] rfl rfl (any_of HT_.out (by kernel_rfl)) (fun _ _ _ h => h) (Or.inl ⟨by rfl, ?_⟩) ?_ ?_
                        rotate_left
                        · intro w'
                          go_simp
                          with_reducible rfl
                        rotate_left
                        · simp only [Act.put, List.setIfInBounds_toArray, List.set_cons_zero, List.set_cons_succ, i64_w, i32_w]
                          rfl
                        refine take_ (i := 0) (N := some 87) (v := ?_) (a' := ?_) #[true, true, true, true, true, false, false, false] rfl rfl (take_ofW HT_.out HW_.out (by kernel_rfl)) (fun _ _ _ h => h) (Or.inl ⟨by rfl, ?_⟩) hHeld ?_ ?_
                        rotate_left
                        · rintro w' ⟨s0, s1, s2, s3, s4, s5, s6⟩
                          go_simp
                          with_reducible rfl
                        rotate_left
                        · simp only [Act.put, List.setIfInBounds_toArray, List.set_cons_zero, List.set_cons_succ, i64_w, i32_w]
                          rfl
                        refine take_ (i := 5) (N := some 92) (v := ?_) (a' := ?_) #[true, true, true, true, true, true, false, false] rfl rfl (take_ofW HT_.out HW_.out (by kernel_rfl)) (fun _ _ _ h => h) (Or.inl ⟨by rfl, ?_⟩) hHeld ?_ ?_
                        rotate_left
                        · rintro w' ⟨s0, s1, s2, s3, s4, s5, s6⟩
                          go_simp
                          with_reducible rfl
                        rotate_left
                        · simp only [Act.put, List.setIfInBounds_toArray, List.set_cons_zero, List.set_cons_succ, i64_w, i32_w]
                          rfl
                        refine one_ (i := 6) (N := some 93) #[true, true, true, true, true, true, true, false] rfl rfl (one_of HT_.out (by kernel_rfl)) (by decide) (fun K hK => ?_)
                        refine goes_ Try.func24 (by kernel_rfl) rfl #[.agg #[.string x309000_1, .int .i64 x309001_1, .int .i64 x309002_1, .bool x309003_1], .int .i64 ((rd_T46 l1 x7_1).f1)] (by rfl) rfl rfl (by (try simp only [List.map_toArray, List.map_cons, List.map_nil]); first | done | rfl | (simp only [List.length_drop, List.length_take]; rfl)) ?_
                        with_reducible refine (ddiref16_Crash.calls x309000_1 x309001_1 x309002_1 x309003_1 ((rd_T46 l1 x7_1).f1) t338 t339 t340 t341 _ A55.out).mono ?_
                        rintro e w64 ⟨rfl, hb⟩
                        refine ⟨_, rfl, ?_⟩
                        have n0_ := Aside0.mk (blk_below (g := gb305) (o := .cells #[.string t306, .int .i64 a0_1, .int .i64 a0_2, .bool a0_3] 36 (0, 0)) (by (with_reducible repeat (first | refine blk_drewN ?_ _ | refine blk_drew ?_ | refine blk_alloc ?_ _)); exact BK305.out) hb)
                        have n1_ := Aside0.mk (blk_below (g := gb307) (o := .cells #[.string t333, .int .i64 t334, .int .i64 t335, .bool t336] 36 (0, 0)) (by (with_reducible repeat (first | refine blk_drewN ?_ _ | refine blk_drew ?_ | refine blk_alloc ?_ _)); exact BK307.out) hb)
                        have n2_ := Aside0.mk (blk_below (g := gb308) (o := .cells #[.string x309000_1, .int .i64 x309001_1, .int .i64 x309002_1, .bool x309003_1] 36 (0, 0)) (by (with_reducible repeat (first | refine blk_drewN ?_ _ | refine blk_drew ?_ | refine blk_alloc ?_ _)); exact BK308.out) hb)
                        have n3_ := Aside0.mk (below_step (by repeat (first | (with_reducible first | exact HB.out | apply below_alloc | apply pw_below_drewN | apply below_drew1 | refine below_set ?_ GE305.out | refine below_set ?_ GE307.out | refine below_set ?_ GE308.out) | exact HB.out)) hb)
                        clear BK305
                        clear BK307
                        clear BK308
                        clear HB
                        have BK305 := n0_
                        have BK307 := n1_
                        have BK308 := n2_
                        have HB := n3_
                        clear n0_ n1_ n2_ n3_
                        (try clear hb)
                        (try clear hb2)
                        (try clear hk)
                        (try clear hi)
                        refine hK.out _ _ ⟨(blk_cell BK308.out 0).trans rfl, (blk_cell BK308.out 1).trans rfl, (blk_cell BK308.out 2).trans rfl, (blk_cell BK308.out 3).trans rfl, ((HB.out.cell (World.block_lt_of_cell? w _ hw337_0)).trans hw337_0), ((HB.out.cell (World.block_lt_of_cell? w _ hw337_1)).trans hw337_1), ((HB.out.cell (World.block_lt_of_cell? w _ hw337_2)).trans hw337_2)⟩ (fun hHeld => ?_)
                        clear hK K
                        refine norm_ (a' := ?_) ?_ ?_
                        rotate_left
                        · show Act.put _ (some 93) _ = _
                          simp only [Act.put, List.setIfInBounds_toArray, List.set_cons_zero, List.set_cons_succ, i64_w, i32_w]
                          rfl
                        refine last_ (i := 7) (N := none) #[true, true, true, true, true, true, true, true] rfl rfl (one_of HT_.out (by kernel_rfl)) (by decide) (fun K hK => ?_)
                        have hs65 : w64.cell? ⟨gb308, 0, none⟩ = some (.string x309000_1) := (blk_cell BK308.out 0).trans rfl
                        have hfs65 := blk_frozen BK308.out 0
                        have hns65_0 := NB305_308.out
                        have hns65_1 := NB307_308.out
                        have hms65_0 := NB308_305.out
                        have hms65_1 := NB308_307.out
                        have hs66 : w64.cell? ⟨gb308, 1, none⟩ = some (.int .i64 x309001_1) := (blk_cell BK308.out 1).trans rfl
                        have hfs66 := blk_frozen BK308.out 1
                        have hns66_0 := NB305_308.out
                        have hns66_1 := NB307_308.out
                        have hms66_0 := NB308_305.out
                        have hms66_1 := NB308_307.out
                        have hs67 : w64.cell? ⟨gb308, 2, none⟩ = some (.int .i64 x309002_1) := (blk_cell BK308.out 2).trans rfl
                        have hfs67 := blk_frozen BK308.out 2
                        have hns67_0 := NB305_308.out
                        have hns67_1 := NB307_308.out
                        have hms67_0 := NB308_305.out
                        have hms67_1 := NB308_307.out
                        have hs68 : w64.cell? ⟨gb308, 3, none⟩ = some (.bool x309003_1) := (blk_cell BK308.out 3).trans rfl
                        have hfs68 := blk_frozen BK308.out 3
                        have hns68_0 := NB305_308.out
                        have hns68_1 := NB307_308.out
                        have hms68_0 := NB308_305.out
                        have hms68_1 := NB308_307.out
                        refine skip_ (w1 := ?_) (by rfl) rfl ?_ ?_
                        rotate_left
                        · go_simp
                          rfl
                        refine hK.out _ _ ?_
                        clear hK K
                        refine done_ (done_of HT_.out (by kernel_rfl)) ?_
                        try go_wp2
                        go_meet
                        case rel => exact ⟨_, (0), (0), (([] : List ByteArray)), (([] : List ByteArray)), (t333), (t334), (t335), (t336), (t338), (t339), (t340), (t341), (by first | rfl | (simp; done) | (simp [*]; done)), (by first | rfl | (simp; done) | (simp [*]; done)), H', ⟨by have := HK1.out; have := HJ20.out; first | omega | exact Nat.le_refl _⟩, ⟨by first | exact Kd.R_nil _ _ _ _ _ | exact Kd.N_nil _ _ _ _ _ | exact Kd.V_nil _ _ _ _ _ | exact Kd.Q_nil _ _ _ _ _ | exact Kd.S_nil _ _ _ _ _⟩, ⟨by first | exact Kd.R_nil _ _ _ _ _ | exact Kd.N_nil _ _ _ _ _ | exact Kd.V_nil _ _ _ _ _ | exact Kd.Q_nil _ _ _ _ _ | exact Kd.S_nil _ _ _ _ _⟩, ⟨by (with_reducible repeat (first | refine blk_drewN ?_ _ | refine blk_drew ?_ | refine blk_alloc ?_ _)); refine blk_far ?_ NB305_308.out _; (with_reducible repeat (first | refine blk_drewN ?_ _ | refine blk_drew ?_ | refine blk_alloc ?_ _)); refine blk_far ?_ NB305_308.out _; (with_reducible repeat (first | refine blk_drewN ?_ _ | refine blk_drew ?_ | refine blk_alloc ?_ _)); refine blk_far ?_ NB305_308.out _; (with_reducible repeat (first | refine blk_drewN ?_ _ | refine blk_drew ?_ | refine blk_alloc ?_ _)); refine blk_far ?_ NB305_308.out _; (with_reducible repeat (first | refine blk_drewN ?_ _ | refine blk_drew ?_ | refine blk_alloc ?_ _)); exact BK305.out⟩, ⟨by (with_reducible repeat (first | refine blk_drewN ?_ _ | refine blk_drew ?_ | refine blk_alloc ?_ _)); refine blk_far ?_ NB307_308.out _; (with_reducible repeat (first | refine blk_drewN ?_ _ | refine blk_drew ?_ | refine blk_alloc ?_ _)); refine blk_far ?_ NB307_308.out _; (with_reducible repeat (first | refine blk_drewN ?_ _ | refine blk_drew ?_ | refine blk_alloc ?_ _)); refine blk_far ?_ NB307_308.out _; (with_reducible repeat (first | refine blk_drewN ?_ _ | refine blk_drew ?_ | refine blk_alloc ?_ _)); refine blk_far ?_ NB307_308.out _; (with_reducible repeat (first | refine blk_drewN ?_ _ | refine blk_drew ?_ | refine blk_alloc ?_ _)); exact BK307.out⟩, ⟨by (with_reducible repeat (first | refine blk_drewN ?_ _ | refine blk_drew ?_ | refine blk_alloc ?_ _)); refine blk_put (cs := #[.string t338, .int .i64 t339, .int .i64 t340, .bool x309003_1]) ?_ 3 _ rfl; (with_reducible repeat (first | refine blk_drewN ?_ _ | refine blk_drew ?_ | refine blk_alloc ?_ _)); refine blk_put (cs := #[.string t338, .int .i64 t339, .int .i64 x309002_1, .bool x309003_1]) ?_ 2 _ rfl; (with_reducible repeat (first | refine blk_drewN ?_ _ | refine blk_drew ?_ | refine blk_alloc ?_ _)); refine blk_put (cs := #[.string t338, .int .i64 x309001_1, .int .i64 x309002_1, .bool x309003_1]) ?_ 1 _ rfl; (with_reducible repeat (first | refine blk_drewN ?_ _ | refine blk_drew ?_ | refine blk_alloc ?_ _)); refine blk_put (cs := #[.string x309000_1, .int .i64 x309001_1, .int .i64 x309002_1, .bool x309003_1]) ?_ 0 _ rfl; (with_reducible repeat (first | refine blk_drewN ?_ _ | refine blk_drew ?_ | refine blk_alloc ?_ _)); exact BK308.out⟩, ⟨by repeat (first | (with_reducible first | exact HB.out | apply below_alloc | apply pw_below_drewN | apply below_drew1 | refine below_set ?_ GE305.out | refine below_set ?_ GE307.out | refine below_set ?_ GE308.out) | exact HB.out)⟩⟩
                      · rw [if_neg c53] at H
                        have c53b0 : (((rd_T46 l1 x7_1).f0) == 2) = false := beq_eq_false_iff_ne.mpr c53
                        have c53b1 : (((rd_T46 l1 x7_1).f0) != 2) = true := bne_iff_ne.mpr c53
                        by_cases c69 : ((rd_T46 l1 x7_1).f0) = 3
                        · rw [if_pos c69] at H
                          have c69b0 : (((rd_T46 l1 x7_1).f0) == 3) = true := beq_iff_eq.mpr c69
                          have c69b1 : (((rd_T46 l1 x7_1).f0) != 3) = false := bne_eq_false_iff_eq.mpr c69
                          clear c69
                          replace H := Option.bind_eq_some_iff.mp H
                          obtain ⟨⟨t342, t343, t344, t345, t346, t349⟩, A700, H⟩ := H
                          replace H : ((ddiref16_Open.f kj20 x309000_1 x309001_1 x309002_1 x309003_1).bind fun bt350 => (ddilaw16_WalPlays.j2 kj20 l1 x7_1 t349 bt350.2.2.2.2.2 t346 bt350.2.2.2.2.1 t342 t343 t344 t345 bt350.1 bt350.2.1 bt350.2.2.1 bt350.2.2.2.1)) = some r := H
                          have A70 := Aside0.mk A700
                          clear A700
                          replace H := Option.bind_eq_some_iff.mp H
                          obtain ⟨⟨t350, t351, t352, t353, t354, t357⟩, A710, H⟩ := H
                          replace H : (ddilaw16_WalPlays.j2 kj20 l1 x7_1 t349 t357 t346 t354 t342 t343 t344 t345 t350 t351 t352 t353) = some r := H
                          have A71 := Aside0.mk A710
                          clear A710
                          have H' := Aside0.mk H
                          clear H
                          have hnb72 := NB307_305.out
                          have hnc72 := NB305_307.out
                          have hnb73 := NB307_308.out
                          have hnc73 := NB308_307.out
                          have hcz74_0 : w28.cell? ⟨gb307, 0, none⟩ = some (.string x308000_1) := (blk_cell BK307.out 0).trans rfl
                          have hcz74_1 : w28.cell? ⟨gb307, 1, none⟩ = some (.int .i64 x308001_1) := (blk_cell BK307.out 1).trans rfl
                          have hcz74_2 : w28.cell? ⟨gb307, 2, none⟩ = some (.int .i64 x308002_1) := (blk_cell BK307.out 2).trans rfl
                          have hcz74_3 : w28.cell? ⟨gb307, 3, none⟩ = some (.bool x308003_1) := (blk_cell BK307.out 3).trans rfl
                          have hfz74_0 := blk_frozen BK307.out 0
                          have hfz74_1 := blk_frozen BK307.out 1
                          have hfz74_2 := blk_frozen BK307.out 2
                          have hfz74_3 := blk_frozen BK307.out 3
                          go_wp2_with (first | ((with_reducible refine gate_callee (f := 25) rfl ?_); refine goesL_ (some 98) rfl rfl Try.func25 (by kernel_rfl) rfl #[.agg #[.string x308000_1, .int .i64 x308001_1, .int .i64 x308002_1, .bool x308003_1]] rfl (by (try simp only [List.map_toArray, List.map_cons, List.map_nil]); first | done | rfl | (simp only [List.length_drop, List.length_take]; rfl)) ?_; (with_reducible refine (wal_Open.calls kj20 x308000_1 x308001_1 x308002_1 x308003_1 t342 t343 t344 t345 t346 t349 _ A70.out).mono ?_); rintro e w75 ⟨v347, rfl, ho0, hb⟩; refine ⟨_, rfl, ?_⟩; have n0_ := Aside0.mk (Kd.R_lower ho0 (below_size (by repeat (first | (with_reducible first | exact HB.out | apply below_alloc | apply pw_below_drewN | apply below_drew1 | refine below_set ?_ GE305.out | refine below_set ?_ GE307.out | refine below_set ?_ GE308.out) | exact HB.out)))); have n1_ := Aside0.mk (blk_below (g := gb305) (o := .cells #[.string t306, .int .i64 a0_1, .int .i64 a0_2, .bool a0_3] 36 (0, 0)) (by (with_reducible repeat (first | refine blk_drewN ?_ _ | refine blk_drew ?_ | refine blk_alloc ?_ _)); exact BK305.out) hb); have n2_ := Aside0.mk (blk_below (g := gb307) (o := .cells #[.string x308000_1, .int .i64 x308001_1, .int .i64 x308002_1, .bool x308003_1] 36 (0, 0)) (by (with_reducible repeat (first | refine blk_drewN ?_ _ | refine blk_drew ?_ | refine blk_alloc ?_ _)); exact BK307.out) hb); have n3_ := Aside0.mk (blk_below (g := gb308) (o := .cells #[.string x309000_1, .int .i64 x309001_1, .int .i64 x309002_1, .bool x309003_1] 36 (0, 0)) (by (with_reducible repeat (first | refine blk_drewN ?_ _ | refine blk_drew ?_ | refine blk_alloc ?_ _)); exact BK308.out) hb); have n4_ := Aside0.mk (below_step (by repeat (first | (with_reducible first | exact HB.out | apply below_alloc | apply pw_below_drewN | apply below_drew1 | refine below_set ?_ GE305.out | refine below_set ?_ GE307.out | refine below_set ?_ GE308.out) | exact HB.out)) hb); clear BK305; clear BK307; clear BK308; clear HB; have HO348 := n0_; have BK305 := n1_; have BK307 := n2_; have BK308 := n3_; have HB := n4_; clear n0_ n1_ n2_ n3_ n4_; (try clear hb); (try clear hb2); (try clear hk); (try clear hi); (try clear ho0); have hcz76_0 : w75.cell? ⟨gb307, 0, none⟩ = some (.string x308000_1) := (blk_cell BK307.out 0).trans rfl; have hcz76_1 : w75.cell? ⟨gb307, 1, none⟩ = some (.int .i64 x308001_1) := (blk_cell BK307.out 1).trans rfl; have hcz76_2 : w75.cell? ⟨gb307, 2, none⟩ = some (.int .i64 x308002_1) := (blk_cell BK307.out 2).trans rfl; have hcz76_3 : w75.cell? ⟨gb307, 3, none⟩ = some (.bool x308003_1) := (blk_cell BK307.out 3).trans rfl; have hfz76_0 := blk_frozen BK307.out 0; have hfz76_1 := blk_frozen BK307.out 1; have hfz76_2 := blk_frozen BK307.out 2; have hfz76_3 := blk_frozen BK307.out 3; have hnb77 := NB308_305.out; have hnc77 := NB305_308.out; have hcz78_0 : w75.cell? ⟨gb308, 0, none⟩ = some (.string x309000_1) := (blk_cell BK308.out 0).trans rfl; have hcz78_1 : w75.cell? ⟨gb308, 1, none⟩ = some (.int .i64 x309001_1) := (blk_cell BK308.out 1).trans rfl; have hcz78_2 : w75.cell? ⟨gb308, 2, none⟩ = some (.int .i64 x309002_1) := (blk_cell BK308.out 2).trans rfl; have hcz78_3 : w75.cell? ⟨gb308, 3, none⟩ = some (.bool x309003_1) := (blk_cell BK308.out 3).trans rfl; have hfz78_0 := blk_frozen BK308.out 0; have hfz78_1 := blk_frozen BK308.out 1; have hfz78_2 := blk_frozen BK308.out 2; have hfz78_3 := blk_frozen BK308.out 3) | ((with_reducible refine gate_callee (f := 26) rfl ?_); refine goesL_ (some 104) rfl rfl Try.func26 (by kernel_rfl) rfl #[.agg #[.string x309000_1, .int .i64 x309001_1, .int .i64 x309002_1, .bool x309003_1]] rfl (by (try simp only [List.map_toArray, List.map_cons, List.map_nil]); first | done | rfl | (simp only [List.length_drop, List.length_take]; rfl)) ?_; (with_reducible refine (ddiref16_Open.calls kj20 x309000_1 x309001_1 x309002_1 x309003_1 t350 t351 t352 t353 t354 t357 _ A71.out).mono ?_); rintro e w79 ⟨v355, rfl, ho0, hb⟩; refine ⟨_, rfl, ?_⟩; have n0_ := Aside0.mk (Kd.R_elder' (by (with_reducible repeat (first | apply Kd.R_alloc | apply Kd.R_drewN | apply Kd.R_drew)); exact (Kd.R_mono (Kd.R_far (p := ⟨gb307, 3, none⟩) (Kd.R_far (p := ⟨gb307, 2, none⟩) (Kd.R_far (p := ⟨gb307, 1, none⟩) (Kd.R_far (p := ⟨gb307, 0, none⟩) (Kd.R_types HO348.out BK307.out (by decide)) (fun _ hk => hk.2) (.string t342)) (fun _ hk => hk.2) (.int .i64 t343)) (fun _ hk => hk.2) (.int .i64 t344)) (fun _ hk => hk.2) (.bool t345)) (fun _ h_ => h_.1))) (Kd.R_base ho0) hb); have n1_ := Aside0.mk (Kd.R_lower (Kd.R_new' ho0 (Kd.R_lt (by (with_reducible repeat (first | apply Kd.R_alloc | apply Kd.R_drewN | apply Kd.R_drew)); exact (Kd.R_mono (Kd.R_far (p := ⟨gb307, 3, none⟩) (Kd.R_far (p := ⟨gb307, 2, none⟩) (Kd.R_far (p := ⟨gb307, 1, none⟩) (Kd.R_far (p := ⟨gb307, 0, none⟩) (Kd.R_types HO348.out BK307.out (by decide)) (fun _ hk => hk.2) (.string t342)) (fun _ hk => hk.2) (.int .i64 t343)) (fun _ hk => hk.2) (.int .i64 t344)) (fun _ hk => hk.2) (.bool t345)) (fun _ h_ => h_.1))))) (below_size (by repeat (first | (with_reducible first | exact HB.out | apply below_alloc | apply pw_below_drewN | apply below_drew1 | refine below_set ?_ GE305.out | refine below_set ?_ GE307.out | refine below_set ?_ GE308.out) | exact HB.out)))); have n2_ := Aside0.mk (blk_below (g := gb305) (o := .cells #[.string t306, .int .i64 a0_1, .int .i64 a0_2, .bool a0_3] 36 (0, 0)) (by (with_reducible repeat (first | refine blk_drewN ?_ _ | refine blk_drew ?_ | refine blk_alloc ?_ _)); refine blk_far ?_ NB305_307.out _; (with_reducible repeat (first | refine blk_drewN ?_ _ | refine blk_drew ?_ | refine blk_alloc ?_ _)); refine blk_far ?_ NB305_307.out _; (with_reducible repeat (first | refine blk_drewN ?_ _ | refine blk_drew ?_ | refine blk_alloc ?_ _)); refine blk_far ?_ NB305_307.out _; (with_reducible repeat (first | refine blk_drewN ?_ _ | refine blk_drew ?_ | refine blk_alloc ?_ _)); refine blk_far ?_ NB305_307.out _; (with_reducible repeat (first | refine blk_drewN ?_ _ | refine blk_drew ?_ | refine blk_alloc ?_ _)); exact BK305.out) hb); have n3_ := Aside0.mk (blk_below (g := gb307) (o := .cells #[.string t342, .int .i64 t343, .int .i64 t344, .bool t345] 36 (0, 0)) (by (with_reducible repeat (first | refine blk_drewN ?_ _ | refine blk_drew ?_ | refine blk_alloc ?_ _)); refine blk_put (cs := #[.string t342, .int .i64 t343, .int .i64 t344, .bool x308003_1]) ?_ 3 _ rfl; (with_reducible repeat (first | refine blk_drewN ?_ _ | refine blk_drew ?_ | refine blk_alloc ?_ _)); refine blk_put (cs := #[.string t342, .int .i64 t343, .int .i64 x308002_1, .bool x308003_1]) ?_ 2 _ rfl; (with_reducible repeat (first | refine blk_drewN ?_ _ | refine blk_drew ?_ | refine blk_alloc ?_ _)); refine blk_put (cs := #[.string t342, .int .i64 x308001_1, .int .i64 x308002_1, .bool x308003_1]) ?_ 1 _ rfl; (with_reducible repeat (first | refine blk_drewN ?_ _ | refine blk_drew ?_ | refine blk_alloc ?_ _)); refine blk_put (cs := #[.string x308000_1, .int .i64 x308001_1, .int .i64 x308002_1, .bool x308003_1]) ?_ 0 _ rfl; (with_reducible repeat (first | refine blk_drewN ?_ _ | refine blk_drew ?_ | refine blk_alloc ?_ _)); exact BK307.out) hb); have n4_ := Aside0.mk (blk_below (g := gb308) (o := .cells #[.string x309000_1, .int .i64 x309001_1, .int .i64 x309002_1, .bool x309003_1] 36 (0, 0)) (by (with_reducible repeat (first | refine blk_drewN ?_ _ | refine blk_drew ?_ | refine blk_alloc ?_ _)); refine blk_far ?_ NB308_307.out _; (with_reducible repeat (first | refine blk_drewN ?_ _ | refine blk_drew ?_ | refine blk_alloc ?_ _)); refine blk_far ?_ NB308_307.out _; (with_reducible repeat (first | refine blk_drewN ?_ _ | refine blk_drew ?_ | refine blk_alloc ?_ _)); refine blk_far ?_ NB308_307.out _; (with_reducible repeat (first | refine blk_drewN ?_ _ | refine blk_drew ?_ | refine blk_alloc ?_ _)); refine blk_far ?_ NB308_307.out _; (with_reducible repeat (first | refine blk_drewN ?_ _ | refine blk_drew ?_ | refine blk_alloc ?_ _)); exact BK308.out) hb); have n5_ := Aside0.mk (below_step (by repeat (first | (with_reducible first | exact HB.out | apply below_alloc | apply pw_below_drewN | apply below_drew1 | refine below_set ?_ GE305.out | refine below_set ?_ GE307.out | refine below_set ?_ GE308.out) | exact HB.out)) hb); clear HO348; clear BK305; clear BK307; clear BK308; clear HB; have HO348 := n0_; have HO356 := n1_; have BK305 := n2_; have BK307 := n3_; have BK308 := n4_; have HB := n5_; clear n0_ n1_ n2_ n3_ n4_ n5_; (try clear hb); (try clear hb2); (try clear hk); (try clear hi); (try clear ho0); have hcz80_0 : w79.cell? ⟨gb308, 0, none⟩ = some (.string x309000_1) := (blk_cell BK308.out 0).trans rfl; have hcz80_1 : w79.cell? ⟨gb308, 1, none⟩ = some (.int .i64 x309001_1) := (blk_cell BK308.out 1).trans rfl; have hcz80_2 : w79.cell? ⟨gb308, 2, none⟩ = some (.int .i64 x309002_1) := (blk_cell BK308.out 2).trans rfl; have hcz80_3 : w79.cell? ⟨gb308, 3, none⟩ = some (.bool x309003_1) := (blk_cell BK308.out 3).trans rfl; have hfz80_0 := blk_frozen BK308.out 0; have hfz80_1 := blk_frozen BK308.out 1; have hfz80_2 := blk_frozen BK308.out 2; have hfz80_3 := blk_frozen BK308.out 3))
                          go_meet
                          case rel => exact ⟨_, (t349), (t357), (t346), (t354), (t342), (t343), (t344), (t345), (t350), (t351), (t352), (t353), (by first | rfl | (simp; done) | (simp [*]; done)), (by first | rfl | (simp; done) | (simp [*]; done)), H', ⟨by have := HK1.out; have := HJ20.out; first | omega | exact Nat.le_refl _⟩, ⟨by (with_reducible repeat (first | apply Kd.R_alloc | apply Kd.R_drewN | apply Kd.R_drew)); exact Kd.R_mono (Kd.R_far (p := ⟨gb308, 3, none⟩) (Kd.R_far (p := ⟨gb308, 2, none⟩) (Kd.R_far (p := ⟨gb308, 1, none⟩) (Kd.R_far (p := ⟨gb308, 0, none⟩) (Kd.R_types HO348.out BK308.out (by decide)) (fun _ hk => hk.2) (.string t350)) (fun _ hk => hk.2) (.int .i64 t351)) (fun _ hk => hk.2) (.int .i64 t352)) (fun _ hk => hk.2) (.bool t353)) (fun _ hk => hk.1.2)⟩, ⟨by (with_reducible repeat (first | apply Kd.R_alloc | apply Kd.R_drewN | apply Kd.R_drew)); exact Kd.R_mono (Kd.R_far (p := ⟨gb308, 3, none⟩) (Kd.R_far (p := ⟨gb308, 2, none⟩) (Kd.R_far (p := ⟨gb308, 1, none⟩) (Kd.R_far (p := ⟨gb308, 0, none⟩) (Kd.R_types HO356.out BK308.out (by decide)) (fun _ hk => hk.2) (.string t350)) (fun _ hk => hk.2) (.int .i64 t351)) (fun _ hk => hk.2) (.int .i64 t352)) (fun _ hk => hk.2) (.bool t353)) (fun _ hk => hk.1.2)⟩, ⟨by (with_reducible repeat (first | refine blk_drewN ?_ _ | refine blk_drew ?_ | refine blk_alloc ?_ _)); refine blk_far ?_ NB305_308.out _; (with_reducible repeat (first | refine blk_drewN ?_ _ | refine blk_drew ?_ | refine blk_alloc ?_ _)); refine blk_far ?_ NB305_308.out _; (with_reducible repeat (first | refine blk_drewN ?_ _ | refine blk_drew ?_ | refine blk_alloc ?_ _)); refine blk_far ?_ NB305_308.out _; (with_reducible repeat (first | refine blk_drewN ?_ _ | refine blk_drew ?_ | refine blk_alloc ?_ _)); refine blk_far ?_ NB305_308.out _; (with_reducible repeat (first | refine blk_drewN ?_ _ | refine blk_drew ?_ | refine blk_alloc ?_ _)); exact BK305.out⟩, ⟨by (with_reducible repeat (first | refine blk_drewN ?_ _ | refine blk_drew ?_ | refine blk_alloc ?_ _)); refine blk_far ?_ NB307_308.out _; (with_reducible repeat (first | refine blk_drewN ?_ _ | refine blk_drew ?_ | refine blk_alloc ?_ _)); refine blk_far ?_ NB307_308.out _; (with_reducible repeat (first | refine blk_drewN ?_ _ | refine blk_drew ?_ | refine blk_alloc ?_ _)); refine blk_far ?_ NB307_308.out _; (with_reducible repeat (first | refine blk_drewN ?_ _ | refine blk_drew ?_ | refine blk_alloc ?_ _)); refine blk_far ?_ NB307_308.out _; (with_reducible repeat (first | refine blk_drewN ?_ _ | refine blk_drew ?_ | refine blk_alloc ?_ _)); exact BK307.out⟩, ⟨by (with_reducible repeat (first | refine blk_drewN ?_ _ | refine blk_drew ?_ | refine blk_alloc ?_ _)); refine blk_put (cs := #[.string t350, .int .i64 t351, .int .i64 t352, .bool x309003_1]) ?_ 3 _ rfl; (with_reducible repeat (first | refine blk_drewN ?_ _ | refine blk_drew ?_ | refine blk_alloc ?_ _)); refine blk_put (cs := #[.string t350, .int .i64 t351, .int .i64 x309002_1, .bool x309003_1]) ?_ 2 _ rfl; (with_reducible repeat (first | refine blk_drewN ?_ _ | refine blk_drew ?_ | refine blk_alloc ?_ _)); refine blk_put (cs := #[.string t350, .int .i64 x309001_1, .int .i64 x309002_1, .bool x309003_1]) ?_ 1 _ rfl; (with_reducible repeat (first | refine blk_drewN ?_ _ | refine blk_drew ?_ | refine blk_alloc ?_ _)); refine blk_put (cs := #[.string x309000_1, .int .i64 x309001_1, .int .i64 x309002_1, .bool x309003_1]) ?_ 0 _ rfl; (with_reducible repeat (first | refine blk_drewN ?_ _ | refine blk_drew ?_ | refine blk_alloc ?_ _)); exact BK308.out⟩, ⟨by repeat (first | (with_reducible first | exact HB.out | apply below_alloc | apply pw_below_drewN | apply below_drew1 | refine below_set ?_ GE305.out | refine below_set ?_ GE307.out | refine below_set ?_ GE308.out) | exact HB.out)⟩⟩
                        · rw [if_neg c69] at H
                          have c69b0 : (((rd_T46 l1 x7_1).f0) == 3) = false := beq_eq_false_iff_ne.mpr c69
                          have c69b1 : (((rd_T46 l1 x7_1).f0) != 3) = true := bne_iff_ne.mpr c69
                          replace H := Option.bind_eq_some_iff.mp H
                          obtain ⟨⟨t358, t359, t360, t361, t362⟩, A810, H⟩ := H
                          replace H : ((ddiref16_Append.f kj20 x309000_1 x309001_1 x309002_1 x309003_1 t310).bind fun bt363 => (ddilaw16_WalPlays.j2 kj20 l1 x7_1 t362 bt363.2.2.2.2 ([] : List ByteArray) ([] : List ByteArray) t358 t359 t360 t361 bt363.1 bt363.2.1 bt363.2.2.1 bt363.2.2.2.1)) = some r := H
                          have A81 := Aside0.mk A810
                          clear A810
                          replace H := Option.bind_eq_some_iff.mp H
                          obtain ⟨⟨t363, t364, t365, t366, t367⟩, A820, H⟩ := H
                          replace H : (ddilaw16_WalPlays.j2 kj20 l1 x7_1 t362 t367 ([] : List ByteArray) ([] : List ByteArray) t358 t359 t360 t361 t363 t364 t365 t366) = some r := H
                          have A82 := Aside0.mk A820
                          clear A820
                          have H' := Aside0.mk H
                          clear H
                          have hnb83 := NB307_305.out
                          have hnc83 := NB305_307.out
                          have hnb84 := NB307_308.out
                          have hnc84 := NB308_307.out
                          have hcz85_0 : w28.cell? ⟨gb307, 0, none⟩ = some (.string x308000_1) := (blk_cell BK307.out 0).trans rfl
                          have hcz85_1 : w28.cell? ⟨gb307, 1, none⟩ = some (.int .i64 x308001_1) := (blk_cell BK307.out 1).trans rfl
                          have hcz85_2 : w28.cell? ⟨gb307, 2, none⟩ = some (.int .i64 x308002_1) := (blk_cell BK307.out 2).trans rfl
                          have hcz85_3 : w28.cell? ⟨gb307, 3, none⟩ = some (.bool x308003_1) := (blk_cell BK307.out 3).trans rfl
                          have hfz85_0 := blk_frozen BK307.out 0
                          have hfz85_1 := blk_frozen BK307.out 1
                          have hfz85_2 := blk_frozen BK307.out 2
                          have hfz85_3 := blk_frozen BK307.out 3
                          go_wp2_with (first | ((with_reducible refine gate_callee (f := 27) rfl ?_); refine goesL_ (some 43) rfl rfl Try.func27 (by kernel_rfl) rfl #[.agg #[.string x308000_1, .int .i64 x308001_1, .int .i64 x308002_1, .bool x308003_1], .string t310] rfl (by (try simp only [List.map_toArray, List.map_cons, List.map_nil]); first | done | rfl | (simp only [List.length_drop, List.length_take]; rfl)) ?_; (with_reducible refine (wal_Append.calls kj20 x308000_1 x308001_1 x308002_1 x308003_1 t310 t358 t359 t360 t361 t362 _ A81.out).mono ?_); rintro e w86 ⟨rfl, hb⟩; refine ⟨_, rfl, ?_⟩; have n0_ := Aside0.mk (blk_below (g := gb305) (o := .cells #[.string t306, .int .i64 a0_1, .int .i64 a0_2, .bool a0_3] 36 (0, 0)) (by (with_reducible repeat (first | refine blk_drewN ?_ _ | refine blk_drew ?_ | refine blk_alloc ?_ _)); exact BK305.out) hb); have n1_ := Aside0.mk (blk_below (g := gb307) (o := .cells #[.string x308000_1, .int .i64 x308001_1, .int .i64 x308002_1, .bool x308003_1] 36 (0, 0)) (by (with_reducible repeat (first | refine blk_drewN ?_ _ | refine blk_drew ?_ | refine blk_alloc ?_ _)); exact BK307.out) hb); have n2_ := Aside0.mk (blk_below (g := gb308) (o := .cells #[.string x309000_1, .int .i64 x309001_1, .int .i64 x309002_1, .bool x309003_1] 36 (0, 0)) (by (with_reducible repeat (first | refine blk_drewN ?_ _ | refine blk_drew ?_ | refine blk_alloc ?_ _)); exact BK308.out) hb); have n3_ := Aside0.mk (below_step (by repeat (first | (with_reducible first | exact HB.out | apply below_alloc | apply pw_below_drewN | apply below_drew1 | refine below_set ?_ GE305.out | refine below_set ?_ GE307.out | refine below_set ?_ GE308.out) | exact HB.out)) hb); clear BK305; clear BK307; clear BK308; clear HB; have BK305 := n0_; have BK307 := n1_; have BK308 := n2_; have HB := n3_; clear n0_ n1_ n2_ n3_; (try clear hb); (try clear hb2); (try clear hk); (try clear hi); have hcz87_0 : w86.cell? ⟨gb307, 0, none⟩ = some (.string x308000_1) := (blk_cell BK307.out 0).trans rfl; have hcz87_1 : w86.cell? ⟨gb307, 1, none⟩ = some (.int .i64 x308001_1) := (blk_cell BK307.out 1).trans rfl; have hcz87_2 : w86.cell? ⟨gb307, 2, none⟩ = some (.int .i64 x308002_1) := (blk_cell BK307.out 2).trans rfl; have hcz87_3 : w86.cell? ⟨gb307, 3, none⟩ = some (.bool x308003_1) := (blk_cell BK307.out 3).trans rfl; have hfz87_0 := blk_frozen BK307.out 0; have hfz87_1 := blk_frozen BK307.out 1; have hfz87_2 := blk_frozen BK307.out 2; have hfz87_3 := blk_frozen BK307.out 3; have hnb88 := NB308_305.out; have hnc88 := NB305_308.out; have hcz89_0 : w86.cell? ⟨gb308, 0, none⟩ = some (.string x309000_1) := (blk_cell BK308.out 0).trans rfl; have hcz89_1 : w86.cell? ⟨gb308, 1, none⟩ = some (.int .i64 x309001_1) := (blk_cell BK308.out 1).trans rfl; have hcz89_2 : w86.cell? ⟨gb308, 2, none⟩ = some (.int .i64 x309002_1) := (blk_cell BK308.out 2).trans rfl; have hcz89_3 : w86.cell? ⟨gb308, 3, none⟩ = some (.bool x309003_1) := (blk_cell BK308.out 3).trans rfl; have hfz89_0 := blk_frozen BK308.out 0; have hfz89_1 := blk_frozen BK308.out 1; have hfz89_2 := blk_frozen BK308.out 2; have hfz89_3 := blk_frozen BK308.out 3) | ((with_reducible refine gate_callee (f := 28) rfl ?_); refine goesL_ (some 49) rfl rfl Try.func28 (by kernel_rfl) rfl #[.agg #[.string x309000_1, .int .i64 x309001_1, .int .i64 x309002_1, .bool x309003_1], .string t310] rfl (by (try simp only [List.map_toArray, List.map_cons, List.map_nil]); first | done | rfl | (simp only [List.length_drop, List.length_take]; rfl)) ?_; (with_reducible refine (ddiref16_Append.calls kj20 x309000_1 x309001_1 x309002_1 x309003_1 t310 t363 t364 t365 t366 t367 _ A82.out).mono ?_); rintro e w90 ⟨rfl, hb⟩; refine ⟨_, rfl, ?_⟩; have n0_ := Aside0.mk (blk_below (g := gb305) (o := .cells #[.string t306, .int .i64 a0_1, .int .i64 a0_2, .bool a0_3] 36 (0, 0)) (by (with_reducible repeat (first | refine blk_drewN ?_ _ | refine blk_drew ?_ | refine blk_alloc ?_ _)); refine blk_far ?_ NB305_307.out _; (with_reducible repeat (first | refine blk_drewN ?_ _ | refine blk_drew ?_ | refine blk_alloc ?_ _)); refine blk_far ?_ NB305_307.out _; (with_reducible repeat (first | refine blk_drewN ?_ _ | refine blk_drew ?_ | refine blk_alloc ?_ _)); refine blk_far ?_ NB305_307.out _; (with_reducible repeat (first | refine blk_drewN ?_ _ | refine blk_drew ?_ | refine blk_alloc ?_ _)); refine blk_far ?_ NB305_307.out _; (with_reducible repeat (first | refine blk_drewN ?_ _ | refine blk_drew ?_ | refine blk_alloc ?_ _)); exact BK305.out) hb); have n1_ := Aside0.mk (blk_below (g := gb307) (o := .cells #[.string t358, .int .i64 t359, .int .i64 t360, .bool t361] 36 (0, 0)) (by (with_reducible repeat (first | refine blk_drewN ?_ _ | refine blk_drew ?_ | refine blk_alloc ?_ _)); refine blk_put (cs := #[.string t358, .int .i64 t359, .int .i64 t360, .bool x308003_1]) ?_ 3 _ rfl; (with_reducible repeat (first | refine blk_drewN ?_ _ | refine blk_drew ?_ | refine blk_alloc ?_ _)); refine blk_put (cs := #[.string t358, .int .i64 t359, .int .i64 x308002_1, .bool x308003_1]) ?_ 2 _ rfl; (with_reducible repeat (first | refine blk_drewN ?_ _ | refine blk_drew ?_ | refine blk_alloc ?_ _)); refine blk_put (cs := #[.string t358, .int .i64 x308001_1, .int .i64 x308002_1, .bool x308003_1]) ?_ 1 _ rfl; (with_reducible repeat (first | refine blk_drewN ?_ _ | refine blk_drew ?_ | refine blk_alloc ?_ _)); refine blk_put (cs := #[.string x308000_1, .int .i64 x308001_1, .int .i64 x308002_1, .bool x308003_1]) ?_ 0 _ rfl; (with_reducible repeat (first | refine blk_drewN ?_ _ | refine blk_drew ?_ | refine blk_alloc ?_ _)); exact BK307.out) hb); have n2_ := Aside0.mk (blk_below (g := gb308) (o := .cells #[.string x309000_1, .int .i64 x309001_1, .int .i64 x309002_1, .bool x309003_1] 36 (0, 0)) (by (with_reducible repeat (first | refine blk_drewN ?_ _ | refine blk_drew ?_ | refine blk_alloc ?_ _)); refine blk_far ?_ NB308_307.out _; (with_reducible repeat (first | refine blk_drewN ?_ _ | refine blk_drew ?_ | refine blk_alloc ?_ _)); refine blk_far ?_ NB308_307.out _; (with_reducible repeat (first | refine blk_drewN ?_ _ | refine blk_drew ?_ | refine blk_alloc ?_ _)); refine blk_far ?_ NB308_307.out _; (with_reducible repeat (first | refine blk_drewN ?_ _ | refine blk_drew ?_ | refine blk_alloc ?_ _)); refine blk_far ?_ NB308_307.out _; (with_reducible repeat (first | refine blk_drewN ?_ _ | refine blk_drew ?_ | refine blk_alloc ?_ _)); exact BK308.out) hb); have n3_ := Aside0.mk (below_step (by repeat (first | (with_reducible first | exact HB.out | apply below_alloc | apply pw_below_drewN | apply below_drew1 | refine below_set ?_ GE305.out | refine below_set ?_ GE307.out | refine below_set ?_ GE308.out) | exact HB.out)) hb); clear BK305; clear BK307; clear BK308; clear HB; have BK305 := n0_; have BK307 := n1_; have BK308 := n2_; have HB := n3_; clear n0_ n1_ n2_ n3_; (try clear hb); (try clear hb2); (try clear hk); (try clear hi); have hcz91_0 : w90.cell? ⟨gb308, 0, none⟩ = some (.string x309000_1) := (blk_cell BK308.out 0).trans rfl; have hcz91_1 : w90.cell? ⟨gb308, 1, none⟩ = some (.int .i64 x309001_1) := (blk_cell BK308.out 1).trans rfl; have hcz91_2 : w90.cell? ⟨gb308, 2, none⟩ = some (.int .i64 x309002_1) := (blk_cell BK308.out 2).trans rfl; have hcz91_3 : w90.cell? ⟨gb308, 3, none⟩ = some (.bool x309003_1) := (blk_cell BK308.out 3).trans rfl; have hfz91_0 := blk_frozen BK308.out 0; have hfz91_1 := blk_frozen BK308.out 1; have hfz91_2 := blk_frozen BK308.out 2; have hfz91_3 := blk_frozen BK308.out 3))
                          go_meet
                          case rel => exact ⟨_, (t362), (t367), (([] : List ByteArray)), (([] : List ByteArray)), (t358), (t359), (t360), (t361), (t363), (t364), (t365), (t366), (by first | rfl | (simp; done) | (simp [*]; done)), (by first | rfl | (simp; done) | (simp [*]; done)), H', ⟨by have := HK1.out; have := HJ20.out; first | omega | exact Nat.le_refl _⟩, ⟨by first | exact Kd.R_nil _ _ _ _ _ | exact Kd.N_nil _ _ _ _ _ | exact Kd.V_nil _ _ _ _ _ | exact Kd.Q_nil _ _ _ _ _ | exact Kd.S_nil _ _ _ _ _⟩, ⟨by first | exact Kd.R_nil _ _ _ _ _ | exact Kd.N_nil _ _ _ _ _ | exact Kd.V_nil _ _ _ _ _ | exact Kd.Q_nil _ _ _ _ _ | exact Kd.S_nil _ _ _ _ _⟩, ⟨by (with_reducible repeat (first | refine blk_drewN ?_ _ | refine blk_drew ?_ | refine blk_alloc ?_ _)); refine blk_far ?_ NB305_308.out _; (with_reducible repeat (first | refine blk_drewN ?_ _ | refine blk_drew ?_ | refine blk_alloc ?_ _)); refine blk_far ?_ NB305_308.out _; (with_reducible repeat (first | refine blk_drewN ?_ _ | refine blk_drew ?_ | refine blk_alloc ?_ _)); refine blk_far ?_ NB305_308.out _; (with_reducible repeat (first | refine blk_drewN ?_ _ | refine blk_drew ?_ | refine blk_alloc ?_ _)); refine blk_far ?_ NB305_308.out _; (with_reducible repeat (first | refine blk_drewN ?_ _ | refine blk_drew ?_ | refine blk_alloc ?_ _)); exact BK305.out⟩, ⟨by (with_reducible repeat (first | refine blk_drewN ?_ _ | refine blk_drew ?_ | refine blk_alloc ?_ _)); refine blk_far ?_ NB307_308.out _; (with_reducible repeat (first | refine blk_drewN ?_ _ | refine blk_drew ?_ | refine blk_alloc ?_ _)); refine blk_far ?_ NB307_308.out _; (with_reducible repeat (first | refine blk_drewN ?_ _ | refine blk_drew ?_ | refine blk_alloc ?_ _)); refine blk_far ?_ NB307_308.out _; (with_reducible repeat (first | refine blk_drewN ?_ _ | refine blk_drew ?_ | refine blk_alloc ?_ _)); refine blk_far ?_ NB307_308.out _; (with_reducible repeat (first | refine blk_drewN ?_ _ | refine blk_drew ?_ | refine blk_alloc ?_ _)); exact BK307.out⟩, ⟨by (with_reducible repeat (first | refine blk_drewN ?_ _ | refine blk_drew ?_ | refine blk_alloc ?_ _)); refine blk_put (cs := #[.string t363, .int .i64 t364, .int .i64 t365, .bool x309003_1]) ?_ 3 _ rfl; (with_reducible repeat (first | refine blk_drewN ?_ _ | refine blk_drew ?_ | refine blk_alloc ?_ _)); refine blk_put (cs := #[.string t363, .int .i64 t364, .int .i64 x309002_1, .bool x309003_1]) ?_ 2 _ rfl; (with_reducible repeat (first | refine blk_drewN ?_ _ | refine blk_drew ?_ | refine blk_alloc ?_ _)); refine blk_put (cs := #[.string t363, .int .i64 x309001_1, .int .i64 x309002_1, .bool x309003_1]) ?_ 1 _ rfl; (with_reducible repeat (first | refine blk_drewN ?_ _ | refine blk_drew ?_ | refine blk_alloc ?_ _)); refine blk_put (cs := #[.string x309000_1, .int .i64 x309001_1, .int .i64 x309002_1, .bool x309003_1]) ?_ 0 _ rfl; (with_reducible repeat (first | refine blk_drewN ?_ _ | refine blk_drew ?_ | refine blk_alloc ?_ _)); exact BK308.out⟩, ⟨by repeat (first | (with_reducible first | exact HB.out | apply below_alloc | apply pw_below_drewN | apply below_drew1 | refine below_set ?_ GE305.out | refine below_set ?_ GE307.out | refine below_set ?_ GE308.out) | exact HB.out)⟩⟩
                case rest =>
                  clear HC27
                  try clear c1
                  try clear c2
                  try clear p2
                  try clear c3
                  try clear p3
                  try clear q3
                  try clear hx3
                  try clear c4
                  try clear c5
                  try clear c6
                  try clear c7
                  try clear c8
                  try clear c10
                  try clear c19
                  try clear c20
                  try clear c21
                  try clear c22
                  try clear c22b0
                  try clear c23
                  try clear c24
                  try clear c24b0
                  try clear c25
                  try clear c25b0
                  try clear c26
                  try clear c27
                  try clear c28
                  try clear c29
                  try clear c29b0
                  try clear c29b1
                  try clear p30
                  try clear q30
                  try clear hx30
                  try clear p31
                  try clear q31
                  try clear hx31
                  try clear c32
                  try clear c33
                  try clear p33
                  try clear q33
                  try clear hx33
                  try clear c37
                  try clear c41
                  try clear c41b0
                  try clear c41b1
                  try clear c44
                  try clear c45
                  try clear c49
                  try clear c53
                  try clear c53b0
                  try clear c53b1
                  try clear c69
                  try clear c69b0
                  try clear c69b1
                  try clear c72
                  try clear c73
                  try clear c77
                  try clear c83
                  try clear c84
                  try clear c88
                  try clear hcz34_0
                  try clear hcz34_1
                  try clear hcz34_2
                  try clear hcz34_3
                  try clear hcz36_0
                  try clear hcz36_1
                  try clear hcz36_2
                  try clear hcz36_3
                  try clear hcz38_0
                  try clear hcz38_1
                  try clear hcz38_2
                  try clear hcz38_3
                  try clear hcz40_0
                  try clear hcz40_1
                  try clear hcz40_2
                  try clear hcz40_3
                  try clear hcz46_0
                  try clear hcz46_1
                  try clear hcz46_2
                  try clear hcz46_3
                  try clear hcz48_0
                  try clear hcz48_1
                  try clear hcz48_2
                  try clear hcz48_3
                  try clear hcz50_0
                  try clear hcz50_1
                  try clear hcz50_2
                  try clear hcz50_3
                  try clear hcz52_0
                  try clear hcz52_1
                  try clear hcz52_2
                  try clear hcz52_3
                  try clear hcz5_0
                  try clear hcz5_1
                  try clear hcz5_2
                  try clear hcz5_3
                  try clear hcz74_0
                  try clear hcz74_1
                  try clear hcz74_2
                  try clear hcz74_3
                  try clear hcz76_0
                  try clear hcz76_1
                  try clear hcz76_2
                  try clear hcz76_3
                  try clear hcz78_0
                  try clear hcz78_1
                  try clear hcz78_2
                  try clear hcz78_3
                  try clear hcz7_0
                  try clear hcz7_1
                  try clear hcz7_2
                  try clear hcz7_3
                  try clear hcz80_0
                  try clear hcz80_1
                  try clear hcz80_2
                  try clear hcz80_3
                  try clear hcz85_0
                  try clear hcz85_1
                  try clear hcz85_2
                  try clear hcz85_3
                  try clear hcz87_0
                  try clear hcz87_1
                  try clear hcz87_2
                  try clear hcz87_3
                  try clear hcz89_0
                  try clear hcz89_1
                  try clear hcz89_2
                  try clear hcz89_3
                  try clear hcz91_0
                  try clear hcz91_1
                  try clear hcz91_2
                  try clear hcz91_3
                  try clear hfz34_0
                  try clear hfz34_1
                  try clear hfz34_2
                  try clear hfz34_3
                  try clear hfz36_0
                  try clear hfz36_1
                  try clear hfz36_2
                  try clear hfz36_3
                  try clear hfz38_0
                  try clear hfz38_1
                  try clear hfz38_2
                  try clear hfz38_3
                  try clear hfz40_0
                  try clear hfz40_1
                  try clear hfz40_2
                  try clear hfz40_3
                  try clear hfz46_0
                  try clear hfz46_1
                  try clear hfz46_2
                  try clear hfz46_3
                  try clear hfz48_0
                  try clear hfz48_1
                  try clear hfz48_2
                  try clear hfz48_3
                  try clear hfz50_0
                  try clear hfz50_1
                  try clear hfz50_2
                  try clear hfz50_3
                  try clear hfz52_0
                  try clear hfz52_1
                  try clear hfz52_2
                  try clear hfz52_3
                  try clear hfz5_0
                  try clear hfz5_1
                  try clear hfz5_2
                  try clear hfz5_3
                  try clear hfz74_0
                  try clear hfz74_1
                  try clear hfz74_2
                  try clear hfz74_3
                  try clear hfz76_0
                  try clear hfz76_1
                  try clear hfz76_2
                  try clear hfz76_3
                  try clear hfz78_0
                  try clear hfz78_1
                  try clear hfz78_2
                  try clear hfz78_3
                  try clear hfz7_0
                  try clear hfz7_1
                  try clear hfz7_2
                  try clear hfz7_3
                  try clear hfz80_0
                  try clear hfz80_1
                  try clear hfz80_2
                  try clear hfz80_3
                  try clear hfz85_0
                  try clear hfz85_1
                  try clear hfz85_2
                  try clear hfz85_3
                  try clear hfz87_0
                  try clear hfz87_1
                  try clear hfz87_2
                  try clear hfz87_3
                  try clear hfz89_0
                  try clear hfz89_1
                  try clear hfz89_2
                  try clear hfz89_3
                  try clear hfz91_0
                  try clear hfz91_1
                  try clear hfz91_2
                  try clear hfz91_3
                  try clear hx309_0
                  try clear hx309_1
                  try clear hx309_2
                  try clear hx311_0
                  try clear hx311_1
                  try clear hx311_2
                  try clear hx332_0
                  try clear hx332_1
                  try clear hx332_2
                  try clear hx337_0
                  try clear hx337_1
                  try clear hx337_2
                  try clear p2
                  try clear p309
                  try clear p311
                  try clear p332
                  try clear p337
                  try clear q309
                  try clear q311
                  try clear q332
                  try clear q337
                  obtain ⟨kq, x9_26, x10_26, x11_26, x12_26, x308000_26, x308001_26, x308002_26, x308003_26, x309000_26, x309001_26, x309002_26, x309003_26, rfl, rfl, HA, HJ26, HO_11, HO_12, BK305, BK307, BK308, HB⟩ := hcut
                  cases kq with
                  | zero => exact absurd HA.out (by simp [ddilaw16_WalPlays.j2])
                  | succ kj26 =>
                    have H := HA.out
                    clear HA
                    simp only [ddilaw16_WalPlays.j2] at H
                    have HC92 := Aside0.mk H
                    clear H
                    go_upto_region 24 with (fail)
                    go_cut [121] (fun v121 wc => ∃ (kq : Nat) (x121_91 : Bool), v121 = .bool x121_91 ∧ Aside0 (ddilaw16_WalPlays.j3 kq l1 x7_1 x121_91 x308000_26 x308001_26 x308002_26 x308003_26 x309000_26 x309001_26 x309002_26 x309003_26 = some r) ∧ Aside0 (kq ≤ kj26) ∧ Aside0 (wc.heap[gb305]? = some (.cells #[.string t306, .int .i64 a0_1, .int .i64 a0_2, .bool a0_3] 36 (0, 0))) ∧ Aside0 (wc.heap[gb307]? = some (.cells #[.string x308000_26, .int .i64 x308001_26, .int .i64 x308002_26, .bool x308003_26] 36 (0, 0))) ∧ Aside0 (wc.heap[gb308]? = some (.cells #[.string x309000_26, .int .i64 x309001_26, .int .i64 x309002_26, .bool x309003_26] 36 (0, 0))) ∧ Aside0 (Below w.heap.size w wc))
                    case first =>
                      have H := HC92.out
                      clear HC92
                      by_cases c93 : (!(x308000_26.toList == x309000_26.toList) || (!(x308001_26 == x309001_26) || (!(x308002_26 == x309002_26) || (!(x308003_26 == x309003_26))))) = true
                      · rw [if_pos c93] at H
                        have c93b0 : (!(x308000_26.toList == x309000_26.toList) || (!(x308001_26 == x309001_26) || (!(x308002_26 == x309002_26) || (!(x308003_26 == x309003_26))))) = true := c93
                        clear c93
                        (first | rw [c93b0] | (simp only [i64_w, i32_w]; rw [c93b0]) | skip)
                        have H' := Aside0.mk H
                        clear H
                        have hnb94 := NB307_305.out
                        have hnc94 := NB305_307.out
                        have hnb95 := NB307_308.out
                        have hnc95 := NB308_307.out
                        have hcz96_0 : wc.cell? ⟨gb307, 0, none⟩ = some (.string x308000_26) := (blk_cell BK307.out 0).trans rfl
                        have hcz96_1 : wc.cell? ⟨gb307, 1, none⟩ = some (.int .i64 x308001_26) := (blk_cell BK307.out 1).trans rfl
                        have hcz96_2 : wc.cell? ⟨gb307, 2, none⟩ = some (.int .i64 x308002_26) := (blk_cell BK307.out 2).trans rfl
                        have hcz96_3 : wc.cell? ⟨gb307, 3, none⟩ = some (.bool x308003_26) := (blk_cell BK307.out 3).trans rfl
                        have hfz96_0 := blk_frozen BK307.out 0
                        have hfz96_1 := blk_frozen BK307.out 1
                        have hfz96_2 := blk_frozen BK307.out 2
                        have hfz96_3 := blk_frozen BK307.out 3
                        have hnb97 := NB308_305.out
                        have hnc97 := NB305_308.out
                        have hcz98_0 : wc.cell? ⟨gb308, 0, none⟩ = some (.string x309000_26) := (blk_cell BK308.out 0).trans rfl
                        have hcz98_1 : wc.cell? ⟨gb308, 1, none⟩ = some (.int .i64 x309001_26) := (blk_cell BK308.out 1).trans rfl
                        have hcz98_2 : wc.cell? ⟨gb308, 2, none⟩ = some (.int .i64 x309002_26) := (blk_cell BK308.out 2).trans rfl
                        have hcz98_3 : wc.cell? ⟨gb308, 3, none⟩ = some (.bool x309003_26) := (blk_cell BK308.out 3).trans rfl
                        have hfz98_0 := blk_frozen BK308.out 0
                        have hfz98_1 := blk_frozen BK308.out 1
                        have hfz98_2 := blk_frozen BK308.out 2
                        have hfz98_3 := blk_frozen BK308.out 3
                        go_wp2
                        go_meet
                        case rel => exact ⟨_, (true), (by first | rfl | (simp; done) | (simp [*]; done)), H', ⟨by have := HK1.out; have := HJ20.out; have := HJ26.out; first | omega | exact Nat.le_refl _⟩, ⟨by (with_reducible repeat (first | refine blk_drewN ?_ _ | refine blk_drew ?_ | refine blk_alloc ?_ _)); exact BK305.out⟩, ⟨by (with_reducible repeat (first | refine blk_drewN ?_ _ | refine blk_drew ?_ | refine blk_alloc ?_ _)); exact BK307.out⟩, ⟨by (with_reducible repeat (first | refine blk_drewN ?_ _ | refine blk_drew ?_ | refine blk_alloc ?_ _)); exact BK308.out⟩, ⟨by repeat (first | (with_reducible first | exact HB.out | apply below_alloc | apply pw_below_drewN | apply below_drew1 | refine below_set ?_ GE305.out | refine below_set ?_ GE307.out | refine below_set ?_ GE308.out) | exact HB.out)⟩⟩
                      · rw [if_neg c93] at H
                        have c93b0 : (!(x308000_26.toList == x309000_26.toList) || (!(x308001_26 == x309001_26) || (!(x308002_26 == x309002_26) || (!(x308003_26 == x309003_26))))) = false := by simpa using c93
                        clear c93
                        (first | rw [c93b0] | (simp only [i64_w, i32_w]; rw [c93b0]) | skip)
                        by_cases c99 : x9_26 = x10_26
                        · rw [if_pos c99] at H
                          have c99b0 : (x9_26 == x10_26) = true := beq_iff_eq.mpr c99
                          have c99b1 : (x9_26 != x10_26) = false := bne_eq_false_iff_eq.mpr c99
                          clear c99
                          replace H := Option.bind_eq_some_iff.mp H
                          obtain ⟨t368, A1000, H⟩ := H
                          replace H : (ddilaw16_WalPlays.j3 kj26 l1 x7_1 (!t368) x308000_26 x308001_26 x308002_26 x308003_26 x309000_26 x309001_26 x309002_26 x309003_26) = some r := H
                          have A100 := Aside0.mk A1000
                          clear A1000
                          have H' := Aside0.mk H
                          clear H
                          have hnb101 := NB307_305.out
                          have hnc101 := NB305_307.out
                          have hnb102 := NB307_308.out
                          have hnc102 := NB308_307.out
                          have hcz103_0 : wc.cell? ⟨gb307, 0, none⟩ = some (.string x308000_26) := (blk_cell BK307.out 0).trans rfl
                          have hcz103_1 : wc.cell? ⟨gb307, 1, none⟩ = some (.int .i64 x308001_26) := (blk_cell BK307.out 1).trans rfl
                          have hcz103_2 : wc.cell? ⟨gb307, 2, none⟩ = some (.int .i64 x308002_26) := (blk_cell BK307.out 2).trans rfl
                          have hcz103_3 : wc.cell? ⟨gb307, 3, none⟩ = some (.bool x308003_26) := (blk_cell BK307.out 3).trans rfl
                          have hfz103_0 := blk_frozen BK307.out 0
                          have hfz103_1 := blk_frozen BK307.out 1
                          have hfz103_2 := blk_frozen BK307.out 2
                          have hfz103_3 := blk_frozen BK307.out 3
                          have hnb104 := NB308_305.out
                          have hnc104 := NB305_308.out
                          have hcz105_0 : wc.cell? ⟨gb308, 0, none⟩ = some (.string x309000_26) := (blk_cell BK308.out 0).trans rfl
                          have hcz105_1 : wc.cell? ⟨gb308, 1, none⟩ = some (.int .i64 x309001_26) := (blk_cell BK308.out 1).trans rfl
                          have hcz105_2 : wc.cell? ⟨gb308, 2, none⟩ = some (.int .i64 x309002_26) := (blk_cell BK308.out 2).trans rfl
                          have hcz105_3 : wc.cell? ⟨gb308, 3, none⟩ = some (.bool x309003_26) := (blk_cell BK308.out 3).trans rfl
                          have hfz105_0 := blk_frozen BK308.out 0
                          have hfz105_1 := blk_frozen BK308.out 1
                          have hfz105_2 := blk_frozen BK308.out 2
                          have hfz105_3 := blk_frozen BK308.out 3
                          obtain ⟨Ao106, co106, eo106⟩ := Kd.R_slice HO_11.out
                          subst eo106
                          obtain ⟨Ao107, co107, eo107⟩ := Kd.R_slice HO_12.out
                          subst eo107
                          go_wp2_with (first | (go_at_call 18; (with_reducible refine (ddilaw16_texts.calls kj26 _ _ x11_26 _ _ x12_26 t368 _ ?side1 ?side2 ?side3 ?side4 A100.out).mono ?_); (case side1 => repeat (first | exact (Kd.R_reads' HO_11.out).2.2 | (with_reducible refine Kd.C_alloc ?_ _) | (with_reducible refine Kd.C_drewN ?_ _) | (with_reducible refine Kd.C_drew ?_))); (case side2 => exact (Kd.R_reads' HO_11.out).2.1); (case side3 => repeat (first | exact (Kd.R_reads' HO_12.out).2.2 | (with_reducible refine Kd.C_alloc ?_ _) | (with_reducible refine Kd.C_drewN ?_ _) | (with_reducible refine Kd.C_drew ?_))); (case side4 => exact (Kd.R_reads' HO_12.out).2.1); rintro e w' ⟨rfl, ⟨nd, rfl⟩⟩))
                          go_meet
                          case rel => exact ⟨_, (!t368), (by first | rfl | (simp; done) | (simp [*]; done)), H', ⟨by have := HK1.out; have := HJ20.out; have := HJ26.out; first | omega | exact Nat.le_refl _⟩, ⟨by (with_reducible repeat (first | refine blk_drewN ?_ _ | refine blk_drew ?_ | refine blk_alloc ?_ _)); exact BK305.out⟩, ⟨by (with_reducible repeat (first | refine blk_drewN ?_ _ | refine blk_drew ?_ | refine blk_alloc ?_ _)); exact BK307.out⟩, ⟨by (with_reducible repeat (first | refine blk_drewN ?_ _ | refine blk_drew ?_ | refine blk_alloc ?_ _)); exact BK308.out⟩, ⟨by repeat (first | (with_reducible first | exact HB.out | apply below_alloc | apply pw_below_drewN | apply below_drew1 | refine below_set ?_ GE305.out | refine below_set ?_ GE307.out | refine below_set ?_ GE308.out) | exact HB.out)⟩⟩
                        · rw [if_neg c99] at H
                          have c99b0 : (x9_26 == x10_26) = false := beq_eq_false_iff_ne.mpr c99
                          have c99b1 : (x9_26 != x10_26) = true := bne_iff_ne.mpr c99
                          have H' := Aside0.mk H
                          clear H
                          have hnb108 := NB307_305.out
                          have hnc108 := NB305_307.out
                          have hnb109 := NB307_308.out
                          have hnc109 := NB308_307.out
                          have hcz110_0 : wc.cell? ⟨gb307, 0, none⟩ = some (.string x308000_26) := (blk_cell BK307.out 0).trans rfl
                          have hcz110_1 : wc.cell? ⟨gb307, 1, none⟩ = some (.int .i64 x308001_26) := (blk_cell BK307.out 1).trans rfl
                          have hcz110_2 : wc.cell? ⟨gb307, 2, none⟩ = some (.int .i64 x308002_26) := (blk_cell BK307.out 2).trans rfl
                          have hcz110_3 : wc.cell? ⟨gb307, 3, none⟩ = some (.bool x308003_26) := (blk_cell BK307.out 3).trans rfl
                          have hfz110_0 := blk_frozen BK307.out 0
                          have hfz110_1 := blk_frozen BK307.out 1
                          have hfz110_2 := blk_frozen BK307.out 2
                          have hfz110_3 := blk_frozen BK307.out 3
                          have hnb111 := NB308_305.out
                          have hnc111 := NB305_308.out
                          have hcz112_0 : wc.cell? ⟨gb308, 0, none⟩ = some (.string x309000_26) := (blk_cell BK308.out 0).trans rfl
                          have hcz112_1 : wc.cell? ⟨gb308, 1, none⟩ = some (.int .i64 x309001_26) := (blk_cell BK308.out 1).trans rfl
                          have hcz112_2 : wc.cell? ⟨gb308, 2, none⟩ = some (.int .i64 x309002_26) := (blk_cell BK308.out 2).trans rfl
                          have hcz112_3 : wc.cell? ⟨gb308, 3, none⟩ = some (.bool x309003_26) := (blk_cell BK308.out 3).trans rfl
                          have hfz112_0 := blk_frozen BK308.out 0
                          have hfz112_1 := blk_frozen BK308.out 1
                          have hfz112_2 := blk_frozen BK308.out 2
                          have hfz112_3 := blk_frozen BK308.out 3
                          go_wp2
                          go_meet
                          case rel => exact ⟨_, (true), (by first | rfl | (simp; done) | (simp [*]; done)), H', ⟨by have := HK1.out; have := HJ20.out; have := HJ26.out; first | omega | exact Nat.le_refl _⟩, ⟨by (with_reducible repeat (first | refine blk_drewN ?_ _ | refine blk_drew ?_ | refine blk_alloc ?_ _)); exact BK305.out⟩, ⟨by (with_reducible repeat (first | refine blk_drewN ?_ _ | refine blk_drew ?_ | refine blk_alloc ?_ _)); exact BK307.out⟩, ⟨by (with_reducible repeat (first | refine blk_drewN ?_ _ | refine blk_drew ?_ | refine blk_alloc ?_ _)); exact BK308.out⟩, ⟨by repeat (first | (with_reducible first | exact HB.out | apply below_alloc | apply pw_below_drewN | apply below_drew1 | refine below_set ?_ GE305.out | refine below_set ?_ GE307.out | refine below_set ?_ GE308.out) | exact HB.out)⟩⟩
                    case rest =>
                      clear HC92
                      try clear c1
                      try clear c2
                      try clear p2
                      try clear c3
                      try clear p3
                      try clear q3
                      try clear hx3
                      try clear c4
                      try clear c5
                      try clear c6
                      try clear c7
                      try clear c8
                      try clear c9
                      try clear c10
                      try clear c11
                      try clear c19
                      try clear c20
                      try clear c21
                      try clear c22
                      try clear c22b0
                      try clear c23
                      try clear c24
                      try clear c24b0
                      try clear c25
                      try clear c25b0
                      try clear c26
                      try clear c27
                      try clear c28
                      try clear c29
                      try clear c29b0
                      try clear c29b1
                      try clear p30
                      try clear q30
                      try clear hx30
                      try clear p31
                      try clear q31
                      try clear hx31
                      try clear c32
                      try clear c33
                      try clear p33
                      try clear q33
                      try clear hx33
                      try clear c37
                      try clear c41
                      try clear c41b0
                      try clear c41b1
                      try clear c44
                      try clear c45
                      try clear c49
                      try clear c53
                      try clear c53b0
                      try clear c53b1
                      try clear c69
                      try clear c69b0
                      try clear c69b1
                      try clear c72
                      try clear c73
                      try clear c77
                      try clear c83
                      try clear c84
                      try clear c88
                      try clear c93
                      try clear c93b0
                      try clear c94
                      try clear c95
                      try clear c97
                      try clear c99
                      try clear c99b0
                      try clear c99b1
                      try clear c101
                      try clear c102
                      try clear c104
                      try clear c108
                      try clear c109
                      try clear c111
                      try clear hcz103_0
                      try clear hcz103_1
                      try clear hcz103_2
                      try clear hcz103_3
                      try clear hcz105_0
                      try clear hcz105_1
                      try clear hcz105_2
                      try clear hcz105_3
                      try clear hcz110_0
                      try clear hcz110_1
                      try clear hcz110_2
                      try clear hcz110_3
                      try clear hcz112_0
                      try clear hcz112_1
                      try clear hcz112_2
                      try clear hcz112_3
                      try clear hcz34_0
                      try clear hcz34_1
                      try clear hcz34_2
                      try clear hcz34_3
                      try clear hcz36_0
                      try clear hcz36_1
                      try clear hcz36_2
                      try clear hcz36_3
                      try clear hcz38_0
                      try clear hcz38_1
                      try clear hcz38_2
                      try clear hcz38_3
                      try clear hcz40_0
                      try clear hcz40_1
                      try clear hcz40_2
                      try clear hcz40_3
                      try clear hcz46_0
                      try clear hcz46_1
                      try clear hcz46_2
                      try clear hcz46_3
                      try clear hcz48_0
                      try clear hcz48_1
                      try clear hcz48_2
                      try clear hcz48_3
                      try clear hcz50_0
                      try clear hcz50_1
                      try clear hcz50_2
                      try clear hcz50_3
                      try clear hcz52_0
                      try clear hcz52_1
                      try clear hcz52_2
                      try clear hcz52_3
                      try clear hcz5_0
                      try clear hcz5_1
                      try clear hcz5_2
                      try clear hcz5_3
                      try clear hcz74_0
                      try clear hcz74_1
                      try clear hcz74_2
                      try clear hcz74_3
                      try clear hcz76_0
                      try clear hcz76_1
                      try clear hcz76_2
                      try clear hcz76_3
                      try clear hcz78_0
                      try clear hcz78_1
                      try clear hcz78_2
                      try clear hcz78_3
                      try clear hcz7_0
                      try clear hcz7_1
                      try clear hcz7_2
                      try clear hcz7_3
                      try clear hcz80_0
                      try clear hcz80_1
                      try clear hcz80_2
                      try clear hcz80_3
                      try clear hcz85_0
                      try clear hcz85_1
                      try clear hcz85_2
                      try clear hcz85_3
                      try clear hcz87_0
                      try clear hcz87_1
                      try clear hcz87_2
                      try clear hcz87_3
                      try clear hcz89_0
                      try clear hcz89_1
                      try clear hcz89_2
                      try clear hcz89_3
                      try clear hcz91_0
                      try clear hcz91_1
                      try clear hcz91_2
                      try clear hcz91_3
                      try clear hcz96_0
                      try clear hcz96_1
                      try clear hcz96_2
                      try clear hcz96_3
                      try clear hcz98_0
                      try clear hcz98_1
                      try clear hcz98_2
                      try clear hcz98_3
                      try clear hfz103_0
                      try clear hfz103_1
                      try clear hfz103_2
                      try clear hfz103_3
                      try clear hfz105_0
                      try clear hfz105_1
                      try clear hfz105_2
                      try clear hfz105_3
                      try clear hfz110_0
                      try clear hfz110_1
                      try clear hfz110_2
                      try clear hfz110_3
                      try clear hfz112_0
                      try clear hfz112_1
                      try clear hfz112_2
                      try clear hfz112_3
                      try clear hfz34_0
                      try clear hfz34_1
                      try clear hfz34_2
                      try clear hfz34_3
                      try clear hfz36_0
                      try clear hfz36_1
                      try clear hfz36_2
                      try clear hfz36_3
                      try clear hfz38_0
                      try clear hfz38_1
                      try clear hfz38_2
                      try clear hfz38_3
                      try clear hfz40_0
                      try clear hfz40_1
                      try clear hfz40_2
                      try clear hfz40_3
                      try clear hfz46_0
                      try clear hfz46_1
                      try clear hfz46_2
                      try clear hfz46_3
                      try clear hfz48_0
                      try clear hfz48_1
                      try clear hfz48_2
                      try clear hfz48_3
                      try clear hfz50_0
                      try clear hfz50_1
                      try clear hfz50_2
                      try clear hfz50_3
                      try clear hfz52_0
                      try clear hfz52_1
                      try clear hfz52_2
                      try clear hfz52_3
                      try clear hfz5_0
                      try clear hfz5_1
                      try clear hfz5_2
                      try clear hfz5_3
                      try clear hfz74_0
                      try clear hfz74_1
                      try clear hfz74_2
                      try clear hfz74_3
                      try clear hfz76_0
                      try clear hfz76_1
                      try clear hfz76_2
                      try clear hfz76_3
                      try clear hfz78_0
                      try clear hfz78_1
                      try clear hfz78_2
                      try clear hfz78_3
                      try clear hfz7_0
                      try clear hfz7_1
                      try clear hfz7_2
                      try clear hfz7_3
                      try clear hfz80_0
                      try clear hfz80_1
                      try clear hfz80_2
                      try clear hfz80_3
                      try clear hfz85_0
                      try clear hfz85_1
                      try clear hfz85_2
                      try clear hfz85_3
                      try clear hfz87_0
                      try clear hfz87_1
                      try clear hfz87_2
                      try clear hfz87_3
                      try clear hfz89_0
                      try clear hfz89_1
                      try clear hfz89_2
                      try clear hfz89_3
                      try clear hfz91_0
                      try clear hfz91_1
                      try clear hfz91_2
                      try clear hfz91_3
                      try clear hfz96_0
                      try clear hfz96_1
                      try clear hfz96_2
                      try clear hfz96_3
                      try clear hfz98_0
                      try clear hfz98_1
                      try clear hfz98_2
                      try clear hfz98_3
                      try clear hx309_0
                      try clear hx309_1
                      try clear hx309_2
                      try clear hx311_0
                      try clear hx311_1
                      try clear hx311_2
                      try clear hx332_0
                      try clear hx332_1
                      try clear hx332_2
                      try clear hx337_0
                      try clear hx337_1
                      try clear hx337_2
                      try clear p2
                      try clear p3
                      try clear p30
                      try clear p309
                      try clear p31
                      try clear p311
                      try clear p33
                      try clear p332
                      try clear p337
                      try clear q3
                      try clear q30
                      try clear q309
                      try clear q31
                      try clear q311
                      try clear q33
                      try clear q332
                      try clear q337
                      obtain ⟨kq, x121_91, rfl, HA, HJ91, BK305, BK307, BK308, HB⟩ := hcut
                      cases kq with
                      | zero => exact absurd HA.out (by simp [ddilaw16_WalPlays.j3])
                      | succ kj91 =>
                        have H := HA.out
                        clear HA
                        simp only [ddilaw16_WalPlays.j3] at H
                        by_cases c113 : x121_91 = true
                        · subst c113
                          have H1 : (some false) = some r := by rw [if_pos rfl] at H; exact H
                          clear H
                          have H := H1
                          clear H1
                          obtain rfl := Option.some.inj H
                          go_wp2
                          go_ret
                          exact ⟨by first | rfl | (simp [errW_none, errW_some] <;> rfl) | (simp [*, errW_none, errW_some] <;> rfl), by repeat (first | (with_reducible first | exact HB.out | apply below_alloc | apply pw_below_drewN | apply below_drew1 | refine below_set ?_ GE305.out | refine below_set ?_ GE307.out | refine below_set ?_ GE308.out) | exact HB.out)⟩
                        · replace c113 := Bool.eq_false_iff.mpr c113
                          subst c113
                          have H1 : (ddilaw16_WalPlays.l0 kj91 l1 (wrap64 (x7_1 + 1)) x308000_26 x308001_26 x308002_26 x308003_26 x309000_26 x309001_26 x309002_26 x309003_26) = some r := by rw [if_neg (show ¬ (false = true) by decide)] at H; exact H
                          clear H
                          have H := H1
                          clear H1
                          have H' := Aside0.mk H
                          clear H
                          go_wp2
                          go_roundg kj91
                          case measure => have := HK1.out; have := HJ20.out; have := HJ26.out; have := HJ91.out; omega
                          case rel => exact ⟨(wrap64 (x7_1 + 1)), (x308000_26), (x308001_26), (x308002_26), (x308003_26), (x309000_26), (x309001_26), (x309002_26), (x309003_26), (by first | rfl | (simp; done) | (simp [*]; done)), H', ⟨by have := HK1.out; have := HJ20.out; have := HJ26.out; have := HJ91.out; omega⟩, ⟨by (with_reducible repeat (first | refine blk_drewN ?_ _ | refine blk_drew ?_ | refine blk_alloc ?_ _)); exact BK305.out⟩, ⟨by (with_reducible repeat (first | refine blk_drewN ?_ _ | refine blk_drew ?_ | refine blk_alloc ?_ _)); exact BK307.out⟩, ⟨by (with_reducible repeat (first | refine blk_drewN ?_ _ | refine blk_drew ?_ | refine blk_alloc ?_ _)); exact BK308.out⟩, ⟨by repeat (first | (with_reducible first | exact HB.out | apply below_alloc | apply pw_below_drewN | apply below_drew1 | refine below_set ?_ GE305.out | refine below_set ?_ GE307.out | refine below_set ?_ GE308.out) | exact HB.out)⟩⟩
              · rw [if_neg c25] at H
                exact absurd H (by simp)
            · rw [if_neg c24] at H
              exact absurd H (by simp)
          · replace c23 := Bool.eq_false_iff.mpr c23
            subst c23
            have H1 : ((ddilaw16_awake.f kj20).bind fun t369 => (some t369)) = some r := by rw [if_neg (show ¬ (false = true) by decide)] at H; exact H
            clear H
            have H := H1
            clear H1
            replace H := Option.bind_eq_some_iff.mp H
            obtain ⟨t369, A1140, H⟩ := H
            replace H : (some t369) = some r := H
            have A114 := Aside0.mk A1140
            clear A1140
            obtain rfl := Option.some.inj H
            go_wp2_with (first | ((with_reducible refine gate_callee (f := 15) rfl ?_); refine goesL_ (some 122) rfl rfl Try.func15 (by kernel_rfl) rfl #[] rfl (by (try simp only [List.map_toArray, List.map_cons, List.map_nil]); first | done | rfl | (simp only [List.length_drop, List.length_take]; rfl)) ?_; (with_reducible refine (ddilaw16_awake.calls kj20  t369 _ A114.out).mono ?_); rintro e w115 ⟨rfl, hb⟩; refine ⟨_, rfl, ?_⟩; have n0_ := Aside0.mk (blk_below (g := gb305) (o := .cells #[.string t306, .int .i64 a0_1, .int .i64 a0_2, .bool a0_3] 36 (0, 0)) (by (with_reducible repeat (first | refine blk_drewN ?_ _ | refine blk_drew ?_ | refine blk_alloc ?_ _)); exact BK305.out) hb); have n1_ := Aside0.mk (blk_below (g := gb307) (o := .cells #[.string x308000_1, .int .i64 x308001_1, .int .i64 x308002_1, .bool x308003_1] 36 (0, 0)) (by (with_reducible repeat (first | refine blk_drewN ?_ _ | refine blk_drew ?_ | refine blk_alloc ?_ _)); exact BK307.out) hb); have n2_ := Aside0.mk (blk_below (g := gb308) (o := .cells #[.string x309000_1, .int .i64 x309001_1, .int .i64 x309002_1, .bool x309003_1] 36 (0, 0)) (by (with_reducible repeat (first | refine blk_drewN ?_ _ | refine blk_drew ?_ | refine blk_alloc ?_ _)); exact BK308.out) hb); have n3_ := Aside0.mk (below_step (by repeat (first | (with_reducible first | exact HB.out | apply below_alloc | apply pw_below_drewN | apply below_drew1 | refine below_set ?_ GE305.out | refine below_set ?_ GE307.out | refine below_set ?_ GE308.out) | exact HB.out)) hb); clear BK305; clear BK307; clear BK308; clear HB; have BK305 := n0_; have BK307 := n1_; have BK308 := n2_; have HB := n3_; clear n0_ n1_ n2_ n3_; (try clear hb); (try clear hb2); (try clear hk); (try clear hi)))
            go_ret
            exact ⟨by first | rfl | (simp [errW_none, errW_some] <;> rfl) | (simp [*, errW_none, errW_some] <;> rfl), by repeat (first | (with_reducible first | exact HB.out | apply below_alloc | apply pw_below_drewN | apply below_drew1 | refine below_set ?_ GE305.out | refine below_set ?_ GE307.out | refine below_set ?_ GE308.out) | exact HB.out)⟩

def okS36 (x : S36) : Prop := x.f0.size ≤ 140737488351232 ∧ ((Lit.int .i64 x.f1).wf = true ∧ ((Lit.int .i64 x.f2).wf = true ∧ True))
theorem oS36 : XO.Opens Try.prog 36 k36 okS36 := XO.Opens.imp_ (XO.Opens.struct Try.underlying36 (by kernel_rfl) (XO.OpensF.cons rfl (by kernel_rfl) (XO.Opens.string Try.underlying9) (XO.OpensF.cons rfl (by kernel_rfl) (XO.Opens.int Try.underlying3) (XO.OpensF.cons rfl (by kernel_rfl) (XO.Opens.int Try.underlying3) (XO.OpensF.last rfl (by kernel_rfl) (XO.Opens.bool Try.underlying4))))) (fun x : S36 => (x.f0, x.f1, x.f2, x.f3)) (fun p => ⟨p.1, p.2.1, p.2.2.1, p.2.2.2⟩) (fun _ => rfl)) (fun _ h => h)
def okS46 (x : S46) : Prop := (Lit.int .i64 x.f0).wf = true ∧ ((Lit.int .i64 x.f1).wf = true ∧ x.f2.size ≤ 140737488351232)
theorem oS46 : XO.Opens Try.prog 46 k46 okS46 := XO.Opens.imp_ (XO.Opens.struct Try.underlying46 (by kernel_rfl) (XO.OpensF.cons rfl (by kernel_rfl) (XO.Opens.int Try.underlying3) (XO.OpensF.cons rfl (by kernel_rfl) (XO.Opens.int Try.underlying3) (XO.OpensF.last rfl (by kernel_rfl) (XO.Opens.string Try.underlying9)))) (fun x : S46 => (x.f0, x.f1, x.f2)) (fun p => ⟨p.1, p.2.1, p.2.2⟩) (fun _ => rfl)) (fun _ h => h)
/-- THE ONE PURE STATEMENT of ddilaw16_WalPlays: ours. -/
def ddilaw16_WalPlays.Pure : Prop := ∀ (a0_0 : ByteArray) (a0_1 : Int) (a0_2 : Int) (a0_3 : Bool) (l1 : List (S46)), okS36 (⟨a0_0, a0_1, a0_2, a0_3⟩ : S36) → (l1.length * 32 ≤ 140737488351232 ∧ l1.length ≤ maxLen ∧ ∀ y0_ ∈ l1, okS46 y0_) → ∃ k, ddilaw16_WalPlays.f k a0_0 a0_1 a0_2 a0_3 l1 = some true
theorem ddilaw16_WalPlays.walk (P : ddilaw16_WalPlays.Pure) (a0_0 : ByteArray) (a0_1 : Int) (a0_2 : Int) (a0_3 : Bool) (A1 : Option Addr) (c1 : Nat) (l1 : List (S46)) (w : World) (hr1 : Kd.C k46 w A1 l1.length l1) (hc1 : l1.length ≤ c1) (w0 : okS36 (⟨a0_0, a0_1, a0_2, a0_3⟩ : S36)) (w1 : (l1.length * 32 ≤ 140737488351232 ∧ l1.length ≤ maxLen ∧ ∀ y0_ ∈ l1, okS46 y0_)) :
    Calls Try.prog 8 #[.agg #[.string a0_0, .int .i64 a0_1, .int .i64 a0_2, .bool a0_3], .slice A1 l1.length c1] w fun e w' => e = .returned (.bool true) ∧ Below w.heap.size w w' := by
  obtain ⟨k, h⟩ := P a0_0 a0_1 a0_2 a0_3 l1 w0 w1
  refine (ddilaw16_WalPlays.calls k a0_0 a0_1 a0_2 a0_3 A1 c1 l1 true w hr1 hc1 h).mono ?_
  rintro e w' ⟨rfl, hd⟩
  exact ⟨rfl, hd⟩

end Go.Proofs.Ytmeamllhhgcpgaa.QA
