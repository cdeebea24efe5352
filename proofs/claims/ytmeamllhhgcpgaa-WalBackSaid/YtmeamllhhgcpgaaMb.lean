/- The log's frames and what is read of them: what the printed functions come to, in plain Lean (no condition). -/
import Derived.Test.YtmeamllhhgcpgaaMa
import Derived.Test.YtmeamllhhgcpgaaQAx8
namespace Go.Proofs.Ytmeamllhhgcpgaa.Ma
open Go.RowKit Go.Proofs.YtmeamllhhgcpgaaW.PrintWords Go.Proofs.YtmeamllhhgcpgaaW.PrintLast Go.Proofs.YtmeamllhhgcpgaaW.PrintMore Go.Proofs.Ytmeamllhhgcpgaa.XP Go.Proofs.Ytmeamllhhgcpgaa.QA

/-- A number as four bytes, and back. -/
def be4 (n : Nat) : List UInt8 := [UInt8.ofNat (n / 16777216), UInt8.ofNat (n / 65536), UInt8.ofNat (n / 256), UInt8.ofNat n]
def num4 : List UInt8 → Nat
  | a :: b :: c :: d :: _ => a.toNat * 16777216 + b.toNat * 65536 + c.toNat * 256 + d.toNat
  | _ => 0
/-- The frame of a payload. -/
def frm (p : List UInt8) : List UInt8 := be4 p.length ++ be4 (sum (be4 p.length ++ p)) ++ p
def mkB (l : List UInt8) : ByteArray := ⟨l.toArray⟩
theorem data_mkB (l : List UInt8) : (mkB l).data.toList = l := rfl
theorem mkB_data (s : ByteArray) : mkB s.data.toList = s := data_inj (data_mkB _)
theorem size_mkB (l : List UInt8) : (mkB l).size = l.length := by rw [size_data, data_mkB]
theorem be4_length (n : Nat) : (be4 n).length = 4 := rfl
theorem frm_length (p : List UInt8) : (frm p).length = 8 + p.length := by simp [frm, be4_length]; omega
theorem num4_lt (l : List UInt8) : num4 l < 4294967296 := by
  unfold num4
  split
  · rename_i a b c d _
    have := a.toNat_lt
    have := b.toNat_lt
    have := c.toNat_lt
    have := d.toNat_lt
    omega
  · omega
theorem num4_be4 (n : Nat) (h : n < 4294967296) (l : List UInt8) : num4 (be4 n ++ l) = n := by
  simp only [be4, List.cons_append, List.nil_append, num4, UInt8.toNat_ofNat']
  omega
theorem be4_num4 (l : List UInt8) (h : 4 ≤ l.length) : be4 (num4 l) = l.take 4 := by
  match l, h with
  | a :: b :: c :: d :: m, _ =>
    have h1 := a.toNat_lt
    have h2 := b.toNat_lt
    have h3 := c.toNat_lt
    have h4 := d.toNat_lt
    have e : ∀ (n : Nat) (x : UInt8), n % 256 = x.toNat → UInt8.ofNat n = x := fun n x hx => UInt8.toNat_inj.1 (by rw [UInt8.toNat_ofNat']; exact hx)
    simp only [be4, num4, List.take_succ_cons, List.take_zero]
    rw [e _ a (by omega), e _ b (by omega), e _ c (by omega), e _ d (by omega)]
theorem be4_inj {a b : Nat} (ha : a < 4294967296) (hb : b < 4294967296) (h : be4 a = be4 b) : a = b := by
  have := num4_be4 a ha []
  rw [h, num4_be4 b hb []] at this
  exact this.symm

theorem nums4 (n : Nat) : strOfNums ([((n : Int) / 16777216) % 256, ((n : Int) / 65536) % 256, ((n : Int) / 256) % 256, (n : Int) % 256] : List Int) = mkB (be4 n) := by
  apply data_inj
  rw [strOfNums_data, data_mkB]
  have e : ∀ (m : Nat), UInt8.ofNat ((m : Int) % 256).toNat = UInt8.ofNat m := fun m => UInt8.toNat_inj.1 (by rw [UInt8.toNat_ofNat', UInt8.toNat_ofNat']; omega)
  simp only [List.map_cons, List.map_nil, be4]
  have e1 := e (n / 16777216)
  have e2 := e (n / 65536)
  have e3 := e (n / 256)
  have e4 := e n
  rw [show ((n / 16777216 : Nat) : Int) = (n : Int) / 16777216 from rfl] at e1
  rw [show ((n / 65536 : Nat) : Int) = (n : Int) / 65536 from rfl] at e2
  rw [show ((n / 256 : Nat) : Int) = (n : Int) / 256 from rfl] at e3
  rw [e1, e2, e3, e4]
theorem bytes4_eq (n : Nat) : wal_bytes4.f (n : Int) = some (mkB (be4 n)) := by rw [wal_bytes4.f, nums4]
theorem four_eq (n : Nat) : ddiref16_four.f (n : Int) = some (mkB (be4 n)) := by rw [ddiref16_four.f, nums4]

theorem frame_ev (s : ByteArray) (h : s.size ≤ 32768) : Ev (fun k => wal_Frame.f k s) (mkB (frm s.data.toList), 0) := by
  have hz := size_data s
  have h1 : (s.size : Int) % 4294967296 = ((s.data.toList.length : Nat) : Int) := by omega
  have hc := checksum_ev [mkB (be4 s.data.toList.length), s] (by simp) (by
    intro x hx
    rcases List.mem_cons.1 hx with rfl | hx
    · rw [size_mkB, be4_length]; omega
    · rw [List.mem_singleton.1 hx]; omega)
  have hf : (([mkB (be4 s.data.toList.length), s] : List ByteArray).map (·.data.toList)).flatten = be4 s.data.toList.length ++ s.data.toList := by simp [data_mkB]
  rw [hf] at hc
  unfold wal_Frame.f
  simp only [if_neg (show ¬ (s.size : Int) > 32768 by omega), h1, bytes4_eq, Option.bind_some]
  refine Ev.bind hc (Ev_const ?_)
  simp only [bytes4_eq, Option.bind_some]
  have hs4 : (mkB (be4 s.data.toList.length) ++ mkB (be4 (sum (be4 s.data.toList.length ++ s.data.toList)))).size = 8 := by
    rw [size_data, data_app, data_mkB, data_mkB]; rfl
  rw [if_pos (by rw [size_mkB, size_mkB, be4_length, be4_length]; omega), if_pos (by rw [hs4]; omega)]
  congr 2
theorem rframe_ev (s : ByteArray) (h : s.size ≤ 32768) : Ev (fun k => ddiref16_Frame.f k s) (mkB (frm s.data.toList), 0) := by
  have hz := size_data s
  have h1 : (s.size : Int) = ((s.data.toList.length : Nat) : Int) := by omega
  have hl : (mkB (be4 s.data.toList.length) ++ s).data.toList = be4 s.data.toList.length ++ s.data.toList := by rw [data_app, data_mkB]
  have hl4 : (mkB (be4 s.data.toList.length) ++ s).size = 4 + s.data.toList.length := by rw [size_data, hl, List.length_append, be4_length]
  have hc := refsum_ev (mkB (be4 s.data.toList.length) ++ s) (by omega)
  rw [hl] at hc
  have hlt := sum_lt (be4 s.data.toList.length ++ s.data.toList)
  unfold ddiref16_Frame.f
  simp only [if_neg (show ¬ (s.size : Int) > 32768 by omega)]
  rw [h1]
  simp only [four_eq, Option.bind_some]
  rw [size_mkB, be4_length]
  simp only [if_pos (show 4 + s.size ≤ 9223372036854775807 by omega)]
  refine Ev.bind hc (Ev_const ?_)
  rw [wrap_id (by omega) (by omega)]
  simp only [four_eq, Option.bind_some]
  have hs4 : (mkB (be4 s.data.toList.length) ++ mkB (be4 (sum (be4 s.data.toList.length ++ s.data.toList)))).size = 8 := by
    rw [size_data, data_app, data_mkB, data_mkB]; rfl
  rw [if_pos (by rw [size_mkB, be4_length]; omega), if_pos (by rw [hs4]; omega)]
  congr 2
theorem frame_big (s : ByteArray) (h : 32768 < s.size) (k : Nat) : wal_Frame.f k s = some ((⟨#[]⟩ : ByteArray), 9) := by
  unfold wal_Frame.f
  rw [if_pos (by omega)]
theorem rframe_big (s : ByteArray) (h : 32768 < s.size) (k : Nat) : ddiref16_Frame.f k s = some ((⟨#[]⟩ : ByteArray), 9) := by
  unfold ddiref16_Frame.f
  rw [if_pos (by omega)]
theorem awake_ev : Ev (fun k => ddilaw16_awake.f k) true := Ev.of (ddilaw16_awake.mono) (k := 300) (by decide +kernel)
theorem walsum_ev (s : ByteArray) (hs : s.size ≤ 9223372036854775806) : Ev (fun k => wal_Sum.f k s) ((sum s.data.toList : Nat) : Int) := by
  have hc := checksum_ev [s] (by simp) (by intro x hx; rw [List.mem_singleton.1 hx]; exact hs)
  simp only [List.map_cons, List.map_nil, List.flatten_cons, List.flatten_nil, List.append_nil] at hc
  unfold wal_Sum.f
  exact Ev.bind hc (Ev_const rfl)
theorem cut_eq (s : ByteArray) (n : Nat) : ddilaw16_cut.f s (n : Int) = some (mkB (s.data.toList.take n)) := by
  have hz := size_data s
  unfold ddilaw16_cut.f
  have hm : mn (s.size : Int) (n : Int) = ((min s.size n : Nat) : Int) := by unfold mn; split <;> omega
  rw [hm, if_pos (by omega), if_pos (by omega)]
  congr 1
  apply data_inj
  rw [data_ext, data_mkB, List.drop_zero, Int.toNat_natCast]
  rw [hz]
  rcases Nat.le_total s.data.toList.length n with h | h
  · rw [Nat.min_eq_left h, Nat.sub_zero, List.take_of_length_le h, List.take_length]
  · rw [Nat.min_eq_right h, Nat.sub_zero]

theorem sums_j0 (s : ByteArray) (h : s.size ≤ 3000 ∨ 32768 < s.size) : Ev (fun k => ddilaw16_WalSums.j0 k s) true := by
  refine Ev_shift 1 (f := fun k => (wal_Frame.f k s).bind _) (fun k => by rw [ddilaw16_WalSums.j0]) ?_
  rcases h with h | h
  · refine Ev.bind (frame_ev s (by omega)) (Ev.bind (rframe_ev s (by omega)) ?_)
    simp only [if_true, if_neg (show ¬ (s.size : Int) > 3000 by omega)]
    refine Ev.bind (walsum_ev s (by omega)) (Ev.bind (refsum_ev s (by omega)) ?_)
    simp only [if_true]
    exact Ev.bind awake_ev (Ev_const rfl)
  · simp only [frame_big s h, rframe_big s h, Option.bind_some, if_true, if_pos (show (s.size : Int) > 3000 by omega)]
    exact Ev.bind awake_ev (Ev_const rfl)
theorem walSums : ddilaw16_WalSums.Pure := by
  intro s hs
  refine Ev.rounds (?_ : Ev (fun k => ddilaw16_WalSums.f k s) true)
  unfold ddilaw16_WalSums.f
  by_cases h : (s.size : Int) ≤ 32768
  · simp only [if_pos h]
    have := cut_eq s 3000
    rw [show ((3000 : Nat) : Int) = 3000 from rfl] at this
    simp only [this, Option.bind_some]
    exact sums_j0 _ (.inl (by rw [size_mkB, List.length_take]; omega))
  · simp only [if_neg h]
    exact sums_j0 s (.inr (by omega))
end Go.Proofs.Ytmeamllhhgcpgaa.Ma
