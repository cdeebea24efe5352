/- What is complete at the beginning of any bytes is read by the program as by the reference, in plain Lean (no condition). -/
import Derived.Test.YtmeamllhhgcpgaaMc
import Derived.Test.YtmeamllhhgcpgaaQAx10
namespace Go.Proofs.Ytmeamllhhgcpgaa.Ma
open Go.RowKit Go.Proofs.YtmeamllhhgcpgaaW.PrintWords Go.Proofs.YtmeamllhhgcpgaaW.PrintLast Go.Proofs.YtmeamllhhgcpgaaW.PrintMore Go.Proofs.Ytmeamllhhgcpgaa.XP Go.Proofs.Ytmeamllhhgcpgaa.QA

/-! ### lists of texts -/
theorem rd_get (l : List ByteArray) (p : Nat) (h : p < l.length) : rdOf ByteArray.empty l (p : Int) = l[p] := by
  simp [rdOf, List.getD_eq_getElem?_getD, List.getElem?_eq_getElem h]
theorem toList_iff (a b : ByteArray) : a.toList = b.toList ↔ a = b := ⟨toList_inj, fun h => by rw [h]⟩
theorem texts_from (a b : List ByteArray) (hl : a.length = b.length) (hm : a.length ≤ 4611686018427387904) : ∀ (d p : Nat), p + d = a.length →
    Ev (fun k => ddilaw16_texts.l0 k a b (a.length : Int) (p : Int)) (decide (a.drop p = b.drop p)) := by
  intro d
  induction d with
  | zero =>
    intro p hp
    rw [List.drop_of_length_le (by omega), List.drop_of_length_le (by omega)]
    exact Ev_shift 1 (f := fun _ => some true) (fun k => by rw [ddilaw16_texts.l0, if_neg (by omega)]) (Ev_const (by simp))
  | succ d ih =>
    intro p hp
    have h1 : p < a.length := by omega
    have h2 : p < b.length := by omega
    rw [List.drop_eq_getElem_cons h1, List.drop_eq_getElem_cons h2]
    by_cases he : a[p] = b[p]
    · refine Ev_shift 1 (f := fun k => ddilaw16_texts.l0 k a b (a.length : Int) ((p + 1 : Nat) : Int)) (fun k => by
        rw [ddilaw16_texts.l0, if_pos (by omega), if_pos (by omega), if_pos (by omega), if_pos (by omega), rd_get a p h1, rd_get b p h2, if_pos (by rw [he]), wrap_id (by omega) (by omega)]
        rfl) ?_
      have e : (a[p] :: a.drop (p + 1) = b[p] :: b.drop (p + 1)) ↔ (a.drop (p + 1) = b.drop (p + 1)) := ⟨fun h => (List.cons.inj h).2, fun h => by rw [h, he]⟩
      rw [decide_eq_decide.2 e]
      exact ih (p + 1) (by omega)
    · refine Ev_shift 1 (f := fun _ => some false) (fun k => by
        rw [ddilaw16_texts.l0, if_pos (by omega), if_pos (by omega), if_pos (by omega), if_pos (by omega), rd_get a p h1, rd_get b p h2, if_neg (by rw [toList_iff]; exact he)]) (Ev_const (by rw [decide_eq_false (fun h => he (List.cons.inj h).1)]))
theorem texts_ev (a b : List ByteArray) (hm : a.length ≤ 4611686018427387904) : Ev (fun k => ddilaw16_texts.f k a b) (decide (a = b)) := by
  unfold ddilaw16_texts.f
  by_cases hl : a.length = b.length
  · simp only [if_pos (show (a.length : Int) = (b.length : Int) by omega)]
    have := texts_from a b hl hm a.length 0 (by omega)
    simpa using this
  · simp only [if_neg (show ¬ (a.length : Int) = (b.length : Int) by omega)]
    exact Ev_const (by simp; intro e; exact hl (by rw [e]))
theorem texts_same (a : List ByteArray) (hm : a.length ≤ 4611686018427387904) : Ev (fun k => ddilaw16_texts.f k a a) true := by
  have := texts_ev a a hm
  simpa using this

/-! ### the reference reads -/
theorem chain (b0 b1 b2 b3 : Nat) (h0 : b0 < 256) (h1 : b1 < 256) (h2 : b2 < 256) (h3 : b3 < 256) :
    wrap64 ((wrap64 ((wrap64 ((wrap64 ((wrap64 (b0 : Int)) * 16777216)) + (wrap64 ((wrap64 (b1 : Int)) * 65536)))) + (wrap64 ((wrap64 (b2 : Int)) * 256)))) + (wrap64 (b3 : Int))) = ((b0 * 16777216 + b1 * 65536 + b2 * 256 + b3 : Nat) : Int) := by
  rw [wrap_id (x := (b0 : Int)) (by omega) (by omega), wrap_id (x := (b1 : Int)) (by omega) (by omega), wrap_id (x := (b2 : Int)) (by omega) (by omega), wrap_id (x := (b3 : Int)) (by omega) (by omega),
    wrap_id (x := (b0 : Int) * 16777216) (by omega) (by omega), wrap_id (x := (b1 : Int) * 65536) (by omega) (by omega), wrap_id (x := (b2 : Int) * 256) (by omega) (by omega)]
  rw [wrap_id (x := (b0 : Int) * 16777216 + (b1 : Int) * 65536) (by omega) (by omega), wrap_id (x := (b0 : Int) * 16777216 + (b1 : Int) * 65536 + (b2 : Int) * 256) (by omega) (by omega), wrap_id (by omega) (by omega)]
  omega
theorem num4_drop (l : List UInt8) (p : Nat) (h : p + 4 ≤ l.length) : num4 (l.drop p) = (l[p]).toNat * 16777216 + (l[p + 1]).toNat * 65536 + (l[p + 2]).toNat * 256 + (l[p + 3]).toNat := by
  rw [List.drop_eq_getElem_cons (show p < l.length by omega), List.drop_eq_getElem_cons (show p + 1 < l.length by omega), List.drop_eq_getElem_cons (show p + 2 < l.length by omega), List.drop_eq_getElem_cons (show p + 3 < l.length by omega)]
  rfl
theorem frame_iff (l : List UInt8) (h8 : 8 ≤ l.length) (hn : 8 + num4 l ≤ l.length) :
    l.take (8 + num4 l) = frm ((l.drop 8).take (num4 l)) ↔ num4 (l.drop 4) = sum (l.take 4 ++ (l.drop 8).take (num4 l)) := by
  have hp : ((l.drop 8).take (num4 l)).length = num4 l := by rw [List.length_take, List.length_drop]; omega
  have hb := be4_num4 l (by omega)
  have hb2 := be4_num4 (l.drop 4) (by rw [List.length_drop]; omega)
  have hsl := sum_lt (l.take 4 ++ (l.drop 8).take (num4 l))
  have ht : l.take (8 + num4 l) = l.take 4 ++ be4 (num4 (l.drop 4)) ++ (l.drop 8).take (num4 l) := by
    rw [hb2, show 8 + num4 l = 4 + (4 + num4 l) from by omega, List.take_add, List.take_add, List.drop_drop, List.append_assoc]
  rw [ht, frm, hp, hb]
  constructor
  · intro h
    have h1 := List.append_cancel_right h
    have h2 := List.append_cancel_left h1
    exact be4_inj (num4_lt _) hsl h2
  · intro h
    rw [h]
/-- One round where a frame may begin: n is what its first four bytes say. -/
theorem rscan_round (s : ByteArray) (hs : s.size ≤ 1099511627776) (p n : Nat) (hp : p + 8 ≤ s.size) (hN : num4 (s.data.toList.drop p) = n) (acc : List ByteArray) (k : Nat) :
    ddiref16_Scan.l0 (k + 1) s acc (p : Int) = if (n : Int) > 32768 then ddiref16_Scan.j1 k s acc p (n : Int) true else ddiref16_Scan.j1 k s acc p (n : Int) (decide ((s.size : Int) - (p : Int) - 8 < (n : Int))) := by
  have hz := size_data s
  have g0 := bt_get s p (by omega)
  have g1 := bt_get s (p + 1) (by omega)
  have g2 := bt_get s (p + 2) (by omega)
  have g3 := bt_get s (p + 3) (by omega)
  have hn4 := num4_drop s.data.toList p (by omega)
  have hc := chain (s.data.toList[p]).toNat (s.data.toList[p + 1]).toNat (s.data.toList[p + 2]).toNat (s.data.toList[p + 3]).toNat (UInt8.toNat_lt _) (UInt8.toNat_lt _) (UInt8.toNat_lt _) (UInt8.toNat_lt _)
  rw [← hn4, hN, ← g0, ← g1, ← g2, ← g3] at hc
  clear g0 g1 g2 g3 hn4 hN
  have w1 : wrap64 ((p : Int) + 1) = ((p + 1 : Nat) : Int) := by rw [wrap_id (by omega) (by omega)]; omega
  have w2 : wrap64 ((p : Int) + 2) = ((p + 2 : Nat) : Int) := by rw [wrap_id (by omega) (by omega)]; omega
  have w3 : wrap64 ((p : Int) + 3) = ((p + 3 : Nat) : Int) := by rw [wrap_id (by omega) (by omega)]; omega
  have w8 : wrap64 ((s.size : Int) - (p : Int)) = (s.size : Int) - (p : Int) := wrap_id (by omega) (by omega)
  have w88 : wrap64 ((s.size : Int) - (p : Int) - 8) = (s.size : Int) - (p : Int) - 8 := wrap_id (by omega) (by omega)
  have i8 : (s.size : Int) - (p : Int) ≥ 8 := by omega
  have i0 : (0 : Int) ≤ (p : Int) := by omega
  have i1 : (p : Int) < (s.size : Int) := by omega
  have i2 : (0 : Int) ≤ ((p + 1 : Nat) : Int) := by omega
  have i3 : ((p + 1 : Nat) : Int) < (s.size : Int) := by omega
  have i4 : (0 : Int) ≤ ((p + 2 : Nat) : Int) := by omega
  have i5 : ((p + 2 : Nat) : Int) < (s.size : Int) := by omega
  have i6 : (0 : Int) ≤ ((p + 3 : Nat) : Int) := by omega
  have i7 : ((p + 3 : Nat) : Int) < (s.size : Int) := by omega
  rw [ddiref16_Scan.l0, w1, w2, w3, w8, w88, hc, if_pos i8, if_pos i0, if_pos i1, if_pos i2, if_pos i3, if_pos i4, if_pos i5, if_pos i6, if_pos i7]
theorem rscan_stop (s : ByteArray) (p n : Int) (acc : List ByteArray) : Ev (fun k => ddiref16_Scan.j1 k s acc p n true) (acc, p) := Ev_shift 1 (f := fun _ => some _) (fun k => by rw [ddiref16_Scan.j1, if_pos rfl]) (Ev_const rfl)
theorem rscan_take (s : ByteArray) (hs : s.size ≤ 1099511627776) (p n : Nat) (hp : p + 8 + n ≤ s.size) (acc : List ByteArray) (ha : acc.length ≤ p) (k : Nat) :
    ddiref16_Scan.j1 (k + 1) s acc p (n : Int) false = (ddiref16_Frame.f k (s.extract (p + 8) (p + 8 + n))).bind fun bt => if (s.extract p (p + 8 + n)).toList = bt.1.toList then ddiref16_Scan.l0 k s (acc ++ [s.extract (p + 8) (p + 8 + n)]) ((p + (8 + n) : Nat) : Int) else some (acc, (p : Int)) := by
  have v1 : wrap64 ((p : Int) + 8) = ((p + 8 : Nat) : Int) := by rw [wrap_id (by omega) (by omega)]; omega
  have v2 : wrap64 (((p + 8 : Nat) : Int) + (n : Int)) = ((p + 8 + n : Nat) : Int) := by rw [wrap_id (by omega) (by omega)]; omega
  have i1 : (0 : Int) ≤ ((p + 8 : Nat) : Int) := by omega
  have i2 : ((p + 8 : Nat) : Int) ≤ ((p + 8 + n : Nat) : Int) := by omega
  have i3 : ((p + 8 + n : Nat) : Int) ≤ (s.size : Int) := by omega
  have i4 : (0 : Int) ≤ (p : Int) := by omega
  have i5 : (p : Int) ≤ ((p + 8 + n : Nat) : Int) := by omega
  have i6 : acc.length < 8796093022208 := by omega
  rw [ddiref16_Scan.j1, v1, v2, if_neg (by decide), if_pos i1, if_pos i2, if_pos i3, Int.toNat_natCast, Int.toNat_natCast, Int.toNat_natCast]
  rw [show p + (8 + n) = p + 8 + n from by omega]
  simp only [if_pos i4, if_pos i5, if_pos i6]
theorem rscan_from (s : ByteArray) (hs : s.size ≤ 1099511627776) : ∀ (d p : Nat), s.data.toList.length - p ≤ d → p ≤ s.data.toList.length → ∀ acc : List ByteArray, acc.length ≤ p →
    Ev (fun k => ddiref16_Scan.l0 k s acc (p : Int)) (acc ++ (scan (s.data.toList.drop p)).1.map mkB, ((p + (scan (s.data.toList.drop p)).2 : Nat) : Int)) := by
  intro d
  have hz := size_data s
  induction d with
  | zero =>
    intro p hd hp acc ha
    rw [scan_none (l := s.data.toList.drop p) (by unfold readOne; rw [if_pos (by rw [List.length_drop]; omega)])]
    exact Ev_shift 1 (f := fun _ => some (acc, (p : Int))) (fun k => by rw [ddiref16_Scan.l0, if_neg (by rw [wrap_id (by omega) (by omega)]; omega)]) (Ev_const (by simp))
  | succ d ih =>
    intro p hd hp acc ha
    have hdl : (s.data.toList.drop p).length = s.data.toList.length - p := List.length_drop
    by_cases h8 : s.data.toList.length < p + 8
    · rw [scan_none (l := s.data.toList.drop p) (by unfold readOne; rw [if_pos (by omega)])]
      exact Ev_shift 1 (f := fun _ => some (acc, (p : Int))) (fun k => by rw [ddiref16_Scan.l0, if_neg (by rw [wrap_id (by omega) (by omega)]; omega)]) (Ev_const (by simp))
    · obtain ⟨n, hN⟩ : ∃ n, num4 (s.data.toList.drop p) = n := ⟨_, rfl⟩
      have fi := frame_iff (s.data.toList.drop p) (by omega)
      rw [hN] at fi
      refine Ev_shift 1 (rscan_round s hs p n (by omega) hN acc) ?_
      by_cases hbad : 32768 < n ∨ (s.data.toList.drop p).length < 8 + n
      · rw [scan_none (l := s.data.toList.drop p) (by unfold readOne; rw [if_neg (by omega), hN, if_pos hbad])]
        simp only [List.map_nil, List.append_nil, Nat.add_zero]
        rw [hdl] at hbad
        by_cases hb : 32768 < n
        · simp only [if_pos (show (n : Int) > 32768 by omega)]
          exact rscan_stop s p n acc
        · simp only [if_neg (show ¬ (n : Int) > 32768 by omega), decide_eq_true (show (s.size : Int) - (p : Int) - 8 < (n : Int) by omega)]
          exact rscan_stop s p n acc
      · have hbad' := hbad
        rw [hdl] at hbad'
        simp only [if_neg (show ¬ (n : Int) > 32768 by omega), decide_eq_false (show ¬ ((s.size : Int) - (p : Int) - 8 < (n : Int)) by omega)]
        have x1 : (s.extract (p + 8) (p + 8 + n)).data.toList = ((s.data.toList.drop p).drop 8).take n := by
          rw [data_ext, List.drop_drop]; congr 1; omega
        have x2 : (s.extract p (p + 8 + n)).data.toList = (s.data.toList.drop p).take (8 + n) := by
          rw [data_ext]; congr 1; omega
        have hlen : (((s.data.toList.drop p).drop 8).take n).length = n := by rw [List.length_take, List.length_drop]; omega
        have hfe := rframe_ev (s.extract (p + 8) (p + 8 + n)) (by rw [size_data, x1, hlen]; omega)
        rw [x1] at hfe
        refine Ev_shift 1 (rscan_take s hs p n (by omega) acc ha) (Ev.bind hfe ?_)
        simp only [toList_iff]
        have hro : readOne (s.data.toList.drop p) = if num4 ((s.data.toList.drop p).drop 4) = sum ((s.data.toList.drop p).take 4 ++ ((s.data.toList.drop p).drop 8).take n) then some (((s.data.toList.drop p).drop 8).take n) else none := by
          unfold readOne
          rw [if_neg (by omega), hN, if_neg hbad]
        by_cases hq : num4 ((s.data.toList.drop p).drop 4) = sum ((s.data.toList.drop p).take 4 ++ ((s.data.toList.drop p).drop 8).take n)
        · have he : s.extract p (p + 8 + n) = mkB (frm (((s.data.toList.drop p).drop 8).take n)) := data_inj (by rw [x2, data_mkB]; exact (fi (by omega)).2 hq)
          simp only [if_pos he]
          rw [if_pos hq] at hro
          have hs2 := scan_some hro
          have hdd : (s.data.toList.drop p).drop (8 + n) = s.data.toList.drop (p + (8 + n)) := List.drop_drop
          rw [hlen, hdd] at hs2
          have := ih (p + (8 + n)) (by omega) (by omega) (acc ++ [s.extract (p + 8) (p + 8 + n)]) (by simp; omega)
          have hm : mkB (((s.data.toList.drop p).drop 8).take n) = s.extract (p + 8) (p + 8 + n) := by rw [← x1, mkB_data]
          simp only [List.append_assoc, List.singleton_append] at this
          rw [hs2]
          simp only [List.map_cons, hm]
          rw [show p + (8 + n + (scan (s.data.toList.drop (p + (8 + n)))).2) = p + (8 + n) + (scan (s.data.toList.drop (p + (8 + n)))).2 from by omega]
          exact this
        · have he : ¬ s.extract p (p + 8 + n) = mkB (frm (((s.data.toList.drop p).drop 8).take n)) := fun e => hq ((fi (by omega)).1 (by rw [← x2, e, data_mkB]))
          simp only [if_neg he]
          rw [if_neg hq] at hro
          rw [scan_none hro]
          exact Ev_const (by simp)
theorem rscan_ev (s : ByteArray) (hs : s.size ≤ 1099511627776) : Ev (fun k => ddiref16_Scan.f k s) ((scan s.data.toList).1.map mkB, ((scan s.data.toList).2 : Int)) := by
  have := rscan_from s hs s.data.toList.length 0 (by omega) (by omega) [] (by simp)
  simp only [List.drop_zero, List.nil_append, Nat.zero_add] at this
  exact this
theorem scanF_len : ∀ (f : Nat) (l : List UInt8), (scanF f l).1.length ≤ f
  | 0, _ => Nat.le_refl _
  | f + 1, l => by
    simp only [scanF]
    split
    · simp
    · have := scanF_len f (l.drop (8 + (‹List UInt8›).length))
      simp only [List.length_cons]
      omega
theorem walScans : ddilaw16_WalScans.Pure := by
  intro s hs
  refine Ev.rounds (?_ : Ev (fun k => ddilaw16_WalScans.f k s) true)
  unfold ddilaw16_WalScans.f
  have := cut_eq s 3000
  rw [show ((3000 : Nat) : Int) = 3000 from rfl] at this
  simp only [this, Option.bind_some]
  have hc : (mkB (s.data.toList.take 3000)).size ≤ 3000 := by rw [size_mkB, List.length_take]; omega
  refine Ev.bind (wscan_ev _ (by omega)) (Ev.bind (rscan_ev _ (by omega)) (Ev.bind (texts_same _ ?_) ?_))
  · have := scanF_len (s.data.toList.take 3000).length (s.data.toList.take 3000)
    rw [size_mkB] at hc
    rw [List.length_map, data_mkB, scan]
    omega
  · simp only [if_true]
    exact Ev.bind awake_ev (Ev_const rfl)
end Go.Proofs.Ytmeamllhhgcpgaa.Ma
