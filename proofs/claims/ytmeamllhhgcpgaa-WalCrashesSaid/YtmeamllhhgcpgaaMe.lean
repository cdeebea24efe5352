/- What Write, Sync, Crash, Open and Append of package wal and of its reference come to, in plain Lean (no condition). -/
import Derived.Test.YtmeamllhhgcpgaaMd
import Derived.Test.YtmeamllhhgcpgaaQAx14
namespace Go.Proofs.Ytmeamllhhgcpgaa.Ma
open Go.RowKit Go.Proofs.YtmeamllhhgcpgaaW.PrintWords Go.Proofs.YtmeamllhhgcpgaaW.PrintLast Go.Proofs.YtmeamllhhgcpgaaW.PrintMore Go.Proofs.Ytmeamllhhgcpgaa.XP Go.Proofs.Ytmeamllhhgcpgaa.QA

/-- A disk and an error. -/
abbrev R5 := ByteArray × Int × Int × Bool × Int
def bu (d : ByteArray) (y f : Int) (w : Bool) : R5 := if f = 0 then (d, y, f, true, 27) else if f > 0 then (d, y, wrap64 (f - 1), w, 0) else (d, y, f, w, 0)
def wr (d : ByteArray) (y f : Int) (w : Bool) (s : ByteArray) : R5 :=
  if w = true then (d, y, f, w, 27) else if 1048576 < d.size + s.size then (d, y, f, w, 9)
  else if f = 0 then (d, y, f, true, 27) else if f > 0 then (d ++ s, y, wrap64 (f - 1), w, 0) else (d ++ s, y, f, w, 0)
def sy (d : ByteArray) (y f : Int) (w : Bool) : R5 :=
  if w = true then (d, y, f, w, 27) else if f = 0 then (d, y, f, true, 27) else if f > 0 then (d, (d.size : Int), wrap64 (f - 1), w, 0) else (d, (d.size : Int), f, w, 0)
def ap (d : ByteArray) (y f : Int) (w : Bool) (p : List UInt8) : R5 :=
  if (wr d y f w (mkB (frm p))).2.2.2.2 = 0 then sy (wr d y f w (mkB (frm p))).1 (wr d y f w (mkB (frm p))).2.1 (wr d y f w (mkB (frm p))).2.2.1 (wr d y f w (mkB (frm p))).2.2.2.1 else wr d y f w (mkB (frm p))
def crashN (d : ByteArray) (y keep : Int) : Nat := min y.toNat d.size + min keep.toNat (d.size - min y.toNat d.size)
theorem crashN_le (d : ByteArray) (y keep : Int) : crashN d y keep ≤ d.size := by unfold crashN; omega

theorem bu_w (d : ByteArray) (y f : Int) (w : Bool) : wal_burn.f d y f w = some (bu d y f w) := by
  unfold wal_burn.f bu
  split
  · rfl
  · split <;> rfl
theorem bu_r (d : ByteArray) (y f : Int) (w : Bool) : ddiref16_burn.f d y f w = some (bu d y f w) := by
  unfold ddiref16_burn.f bu
  split
  · rfl
  · split <;> rfl
theorem wr_r (d : ByteArray) (y f : Int) (w : Bool) (s : ByteArray) (hd : d.size ≤ 1099511627776) (hs : s.size ≤ 1099511627776) : ddiref16_Write.f d y f w s = some (wr d y f w s) := by
  unfold ddiref16_Write.f wr
  rw [wrap_id (by omega) (by omega)]
  by_cases h1 : w = true
  · rw [if_pos h1, if_pos h1]
  · rw [if_neg h1, if_neg h1]
    by_cases h2 : 1048576 < d.size + s.size
    · rw [if_pos (by omega), if_pos h2]
    · rw [if_neg (by omega), if_neg h2, bu_r]
      unfold bu
      by_cases h3 : f = 0
      · simp [h3]
      · by_cases h4 : f > 0
        · simp only [if_neg h3, if_pos h4, Option.bind_some, if_true]
          rw [if_pos (by omega)]
        · simp only [if_neg h3, if_neg h4, Option.bind_some, if_true]
          rw [if_pos (by omega)]
theorem wr_w (d : ByteArray) (y f : Int) (w : Bool) (s : ByteArray) (hd : d.size ≤ 1099511627776) (hs : s.size ≤ 1099511627776) : Ev (fun k => wal_Write.f k d y f w s) (wr d y f w s) := by
  unfold wal_Write.f wr
  rw [wrap_id (by omega) (by omega)]
  by_cases h1 : w = true
  · simp only [if_pos h1]
    exact Ev_const rfl
  · simp only [if_neg h1]
    have hbad : Ev (fun k => wal_Write.j0 k s true d y f w) (d, y, f, w, 9) := Ev_shift 1 (f := fun _ => some _) (fun k => by rw [wal_Write.j0, if_pos rfl]) (Ev_const rfl)
    by_cases h0 : 1048576 < d.size
    · simp only [if_pos (show (d.size : Int) > 1048576 by omega), if_pos (show 1048576 < d.size + s.size by omega)]
      exact hbad
    · simp only [if_neg (show ¬ (d.size : Int) > 1048576 by omega)]
      by_cases h2 : 1048576 < d.size + s.size
      · simp only [decide_eq_true (show (s.size : Int) > 1048576 - (d.size : Int) by omega), if_pos h2]
        exact hbad
      · simp only [decide_eq_false (show ¬ (s.size : Int) > 1048576 - (d.size : Int) by omega), if_neg h2]
        refine Ev_shift 1 (f := fun _ => some _) (fun k => ?_) (Ev_const rfl)
        rw [wal_Write.j0, if_neg (by decide), bu_w]
        unfold bu
        by_cases h3 : f = 0
        · simp [h3]
        · by_cases h4 : f > 0
          · simp only [if_neg h3, if_pos h4, Option.bind_some, if_true]
            rw [if_pos (by omega)]
          · simp only [if_neg h3, if_neg h4, Option.bind_some, if_true]
            rw [if_pos (by omega)]
theorem sy_w (d : ByteArray) (y f : Int) (w : Bool) : wal_Sync.f d y f w = some (sy d y f w) := by
  unfold wal_Sync.f sy
  by_cases h1 : w = true
  · rw [if_pos h1, if_pos h1]
  · rw [if_neg h1, if_neg h1, bu_w]
    unfold bu
    by_cases h3 : f = 0
    · simp [h3]
    · by_cases h4 : f > 0 <;> simp [h3, h4]
theorem sy_r (d : ByteArray) (y f : Int) (w : Bool) : ddiref16_Sync.f d y f w = some (sy d y f w) := by
  unfold ddiref16_Sync.f sy
  by_cases h1 : w = true
  · rw [if_pos h1, if_pos h1]
  · rw [if_neg h1, if_neg h1, bu_r]
    unfold bu
    by_cases h3 : f = 0
    · simp [h3]
    · by_cases h4 : f > 0 <;> simp [h3, h4]
theorem crash_num (d : ByteArray) (y keep : Int) (hd : d.size ≤ 1099511627776) : wrap64 ((mn (mx y 0) (d.size : Int)) + (mn (mx keep 0) (wrap64 ((d.size : Int) - (mn (mx y 0) (d.size : Int)))))) = ((crashN d y keep : Nat) : Int) := by
  have h1 : mn (mx y 0) (d.size : Int) = ((min y.toNat d.size : Nat) : Int) := by unfold mn mx; split <;> split <;> omega
  rw [h1, wrap_id (x := (d.size : Int) - _) (by omega) (by omega)]
  have h2 : mn (mx keep 0) ((d.size : Int) - ((min y.toNat d.size : Nat) : Int)) = ((min keep.toNat (d.size - min y.toNat d.size) : Nat) : Int) := by unfold mn mx; split <;> split <;> omega
  rw [h2, wrap_id (by omega) (by omega)]
  unfold crashN
  omega
theorem crash_w (d : ByteArray) (y f : Int) (w : Bool) (keep : Int) (hd : d.size ≤ 1099511627776) : wal_Crash.f d y f w keep = some (mkB (d.data.toList.take (crashN d y keep)), ((crashN d y keep : Nat) : Int), -1, false) := by
  have hc := crashN_le d y keep
  unfold wal_Crash.f
  rw [crash_num d y keep hd, if_pos (by omega), if_pos (by omega)]
  congr 2
  apply data_inj
  rw [data_ext, data_mkB, Int.toNat_natCast, List.drop_zero, Nat.sub_zero]
theorem crash_r (d : ByteArray) (y f : Int) (w : Bool) (keep : Int) (hd : d.size ≤ 1099511627776) : ddiref16_Crash.f d y f w keep = some (mkB (d.data.toList.take (crashN d y keep)), ((crashN d y keep : Nat) : Int), -1, false) := by
  have := crash_w d y f w keep hd
  unfold wal_Crash.f at this
  unfold ddiref16_Crash.f
  exact this
theorem scanF_le : ∀ (f : Nat) (l : List UInt8), (scanF f l).2 ≤ l.length
  | 0, _ => Nat.zero_le _
  | f + 1, l => by
    simp only [scanF]
    split
    · exact Nat.zero_le _
    · rename_i p hp
      have := scanF_le f (l.drop (8 + p.length))
      have h2 := (readOne_len hp).1
      rw [List.length_drop] at this
      show 8 + p.length + (scanF f (l.drop (8 + p.length))).2 ≤ l.length
      omega
theorem scan_le (l : List UInt8) : (scan l).2 ≤ l.length := scanF_le _ _
/-- A disk, payloads and an error: what Open comes to. -/
def op (d : ByteArray) (y f : Int) (w : Bool) : ByteArray × Int × Int × Bool × List ByteArray × Int :=
  if w = true then (d, y, f, w, [], 27) else (mkB (d.data.toList.take (scan d.data.toList).2), ((scan d.data.toList).2 : Int), f, w, (scan d.data.toList).1.map mkB, 0)
theorem op_w (d : ByteArray) (y f : Int) (w : Bool) (hd : d.size ≤ 1099511627776) : Ev (fun k => wal_Open.f k d y f w) (op d y f w) := by
  have hz := size_data d
  have hl := scan_le d.data.toList
  unfold wal_Open.f op
  by_cases h1 : w = true
  · simp only [if_pos h1]
    exact Ev_const rfl
  · simp only [if_neg h1]
    refine Ev.bind (wscan_ev d hd) ?_
    simp only [if_pos (show (0 : Int) ≤ (((scan d.data.toList).2 : Nat) : Int) by omega), if_pos (show (((scan d.data.toList).2 : Nat) : Int) ≤ (d.size : Int) by omega)]
    refine Ev_const ?_
    congr 2
    apply data_inj
    rw [data_ext, data_mkB, Int.toNat_natCast, List.drop_zero, Nat.sub_zero]
theorem op_r (d : ByteArray) (y f : Int) (w : Bool) (hd : d.size ≤ 1099511627776) : Ev (fun k => ddiref16_Open.f k d y f w) (op d y f w) := by
  have hz := size_data d
  have hl := scan_le d.data.toList
  unfold ddiref16_Open.f op
  by_cases h1 : w = true
  · simp only [if_pos h1]
    exact Ev_const rfl
  · simp only [if_neg h1]
    refine Ev.bind (rscan_ev d hd) ?_
    simp only [if_pos (show (0 : Int) ≤ (((scan d.data.toList).2 : Nat) : Int) by omega), if_pos (show (((scan d.data.toList).2 : Nat) : Int) ≤ (d.size : Int) by omega)]
    refine Ev_const ?_
    congr 2
    apply data_inj
    rw [data_ext, data_mkB, Int.toNat_natCast, List.drop_zero, Nat.sub_zero]
theorem ap_w (d : ByteArray) (y f : Int) (w : Bool) (s : ByteArray) (hd : d.size ≤ 1099511627776) (hs : s.size ≤ 32768) : Ev (fun k => wal_Append.f k d y f w s) (ap d y f w s.data.toList) := by
  have hz := size_data s
  unfold wal_Append.f ap
  refine Ev.bind (frame_ev s hs) ?_
  simp only [if_true]
  refine Ev.bind (wr_w d y f w _ hd (by rw [size_mkB, frm_length]; omega)) ?_
  by_cases h : (wr d y f w (mkB (frm s.data.toList))).2.2.2.2 = 0
  · simp only [if_pos h, sy_w, Option.bind_some]
    exact Ev_const rfl
  · simp only [if_neg h]
    exact Ev_const rfl
theorem ap_r (d : ByteArray) (y f : Int) (w : Bool) (s : ByteArray) (hd : d.size ≤ 1099511627776) (hs : s.size ≤ 32768) : Ev (fun k => ddiref16_Append.f k d y f w s) (ap d y f w s.data.toList) := by
  have hz := size_data s
  unfold ddiref16_Append.f ap
  refine Ev.bind (rframe_ev s hs) ?_
  simp only [if_true]
  rw [wr_r d y f w _ hd (by rw [size_mkB, frm_length]; omega)]
  simp only [Option.bind_some]
  by_cases h : (wr d y f w (mkB (frm s.data.toList))).2.2.2.2 = 0
  · simp only [if_pos h, sy_r, Option.bind_some]
    exact Ev_const rfl
  · simp only [if_neg h]
    exact Ev_const rfl
theorem wr_size (d : ByteArray) (y f : Int) (w : Bool) (s : ByteArray) : (wr d y f w s).1.size ≤ d.size + s.size := by
  unfold wr
  split
  · exact Nat.le_add_right _ _
  · split
    · exact Nat.le_add_right _ _
    · split
      · exact Nat.le_add_right _ _
      · split
        · exact Nat.le_of_eq ByteArray.size_append
        · exact Nat.le_of_eq ByteArray.size_append
theorem sy_data (d : ByteArray) (y f : Int) (w : Bool) : (sy d y f w).1 = d := by
  unfold sy
  split
  · rfl
  · split
    · rfl
    · split <;> rfl
theorem ap_size (d : ByteArray) (y f : Int) (w : Bool) (p : List UInt8) : (ap d y f w p).1.size ≤ d.size + 8 + p.length := by
  have h := wr_size d y f w (mkB (frm p))
  rw [size_mkB, frm_length] at h
  unfold ap
  split
  · rw [sy_data]; omega
  · omega
end Go.Proofs.Ytmeamllhhgcpgaa.Ma
