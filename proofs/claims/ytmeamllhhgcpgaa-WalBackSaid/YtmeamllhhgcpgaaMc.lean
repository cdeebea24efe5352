/- What is read at the beginning of any bytes: what the printed functions come to, in plain Lean (no condition). -/
import Derived.Test.YtmeamllhhgcpgaaMb
namespace Go.Proofs.Ytmeamllhhgcpgaa.Ma
open Go.RowKit Go.Proofs.YtmeamllhhgcpgaaW.PrintWords Go.Proofs.YtmeamllhhgcpgaaW.PrintLast Go.Proofs.YtmeamllhhgcpgaaW.PrintMore Go.Proofs.Ytmeamllhhgcpgaa.XP Go.Proofs.Ytmeamllhhgcpgaa.QA

/-- The payload of the frame at the beginning. -/
def readOne (l : List UInt8) : Option (List UInt8) :=
  if l.length < 8 then none
  else if 32768 < num4 l ∨ l.length < 8 + num4 l then none
  else if num4 (l.drop 4) = sum (l.take 4 ++ (l.drop 8).take (num4 l)) then some ((l.drop 8).take (num4 l)) else none
/-- The payloads at the beginning, and how many bytes they take. -/
def scanF : Nat → List UInt8 → List (List UInt8) × Nat
  | 0, _ => ([], 0)
  | f + 1, l => match readOne l with
    | none => ([], 0)
    | some p => (p :: (scanF f (l.drop (8 + p.length))).1, 8 + p.length + (scanF f (l.drop (8 + p.length))).2)
def scan (l : List UInt8) : List (List UInt8) × Nat := scanF l.length l
theorem readOne_len {l p : List UInt8} (h : readOne l = some p) : 8 + p.length ≤ l.length ∧ p.length = num4 l ∧ p.length ≤ 32768 := by
  unfold readOne at h
  split at h
  · cases h
  · split at h
    · cases h
    · split at h
      · injection h with h
        subst h
        rename_i h1 h2 _
        have : ((l.drop 8).take (num4 l)).length = num4 l := by rw [List.length_take, List.length_drop]; omega
        rw [this]
        omega
      · cases h
/-- More rounds read the same. -/
theorem scanF_more : ∀ (f g : Nat) (l : List UInt8), l.length ≤ f → l.length ≤ g → scanF f l = scanF g l := by
  intro f
  induction f with
  | zero =>
    intro g l hf hg
    have : l = [] := List.eq_nil_of_length_eq_zero (by omega)
    subst this
    cases g <;> rfl
  | succ f ih =>
    intro g l hf hg
    cases g with
    | zero =>
      have : l = [] := List.eq_nil_of_length_eq_zero (by omega)
      subst this
      rfl
    | succ g =>
      simp only [scanF]
      cases h : readOne l with
      | none => rfl
      | some p =>
        have hp := (readOne_len h).1
        have := ih g (l.drop (8 + p.length)) (by rw [List.length_drop]; omega) (by rw [List.length_drop]; omega)
        simp only [this]
theorem scan_none {l : List UInt8} (h : readOne l = none) : scan l = ([], 0) := by
  unfold scan
  cases l with
  | nil => rfl
  | cons a l => simp only [List.length_cons, scanF, h]
theorem scan_some {l p : List UInt8} (h : readOne l = some p) : scan l = (p :: (scan (l.drop (8 + p.length))).1, 8 + p.length + (scan (l.drop (8 + p.length))).2) := by
  have hp := (readOne_len h).1
  unfold scan
  cases l with
  | nil => simp at hp
  | cons a l =>
    have hd : ((a :: l).drop (8 + p.length)).length ≤ l.length := by rw [List.length_drop, List.length_cons]; omega
    rw [List.length_cons, scanF, h]
    simp only
    rw [scanF_more l.length ((a :: l).drop (8 + p.length)).length _ hd (Nat.le_refl _)]

theorem num4_get (s : ByteArray) (h : 4 ≤ s.data.toList.length) : wal_number4.f s = some ((num4 s.data.toList : Nat) : Int) := by
  have hz := size_data s
  unfold wal_number4.f
  rw [if_pos (by omega), if_pos (by omega), if_pos (by omega), if_pos (by omega)]
  have b0 := bt_get s 0 (by omega)
  have b1 := bt_get s 1 (by omega)
  have b2 := bt_get s 2 (by omega)
  have b3 := bt_get s 3 (by omega)
  match hl : s.data.toList, h with
  | a :: b :: c :: d :: m, _ =>
    simp only [hl] at b0 b1 b2 b3
    have h1 := a.toNat_lt
    have h2 := b.toNat_lt
    have h3 := c.toNat_lt
    have h4 := d.toNat_lt
    simp only [List.getElem_cons_zero, List.getElem_cons_succ] at b0 b1 b2 b3
    rw [show bt s 0 = (a.toNat : Int) from b0, show bt s 1 = (b.toNat : Int) from b1, show bt s 2 = (c.toNat : Int) from b2, show bt s 3 = (d.toNat : Int) from b3]
    have e0 : ((a.toNat : Int) % 4294967296 * 16777216) % 4294967296 = ((a.toNat * 16777216 : Nat) : Int) := by omega
    have e1 : ((b.toNat : Int) % 4294967296 * 65536) % 4294967296 = ((b.toNat * 65536 : Nat) : Int) := by omega
    have e2 : ((c.toNat : Int) % 4294967296 * 256) % 4294967296 = ((c.toNat * 256 : Nat) : Int) := by omega
    have e3 : (d.toNat : Int) % 4294967296 = ((d.toNat : Nat) : Int) := by omega
    rw [e0, e1, e2, e3]
    have o1 : a.toNat * 16777216 ||| b.toNat * 65536 = a.toNat * 16777216 + b.toNat * 65536 := by
      have := Nat.two_pow_add_eq_or_of_lt (i := 24) (b := b.toNat * 65536) (by omega) a.toNat
      rw [show 2 ^ 24 * a.toNat = a.toNat * 16777216 from by omega] at this
      exact this.symm
    have o2 : (a.toNat * 16777216 + b.toNat * 65536) ||| c.toNat * 256 = a.toNat * 16777216 + b.toNat * 65536 + c.toNat * 256 := by
      have := Nat.two_pow_add_eq_or_of_lt (i := 16) (b := c.toNat * 256) (by omega) (a.toNat * 256 + b.toNat)
      rw [show 2 ^ 16 * (a.toNat * 256 + b.toNat) = a.toNat * 16777216 + b.toNat * 65536 from by omega] at this
      exact this.symm
    have o3 : (a.toNat * 16777216 + b.toNat * 65536 + c.toNat * 256) ||| d.toNat = a.toNat * 16777216 + b.toNat * 65536 + c.toNat * 256 + d.toNat := by
      have := Nat.two_pow_add_eq_or_of_lt (i := 8) (b := d.toNat) (by omega) (a.toNat * 65536 + b.toNat * 256 + c.toNat)
      rw [show 2 ^ 8 * (a.toNat * 65536 + b.toNat * 256 + c.toNat) = a.toNat * 16777216 + b.toNat * 65536 + c.toNat * 256 from by omega] at this
      exact this.symm
    rw [n32_or _ _ (by omega) (by omega), o1, n32_or _ _ (by omega) (by omega), o2, n32_or _ _ (by omega) (by omega), o3]
    rfl

/-- What next comes to. -/
theorem next_ev (s : ByteArray) (hs : s.size ≤ 140737488355328) : ∃ b ok, Ev (fun k => wal_next.f k s) (b, ok) ∧ (ok = true → readOne s.data.toList = some b.data.toList) ∧ (ok = false → readOne s.data.toList = none) := by
  have hz := size_data s
  by_cases h8 : s.data.toList.length < 8
  · refine ⟨⟨#[]⟩, false, ?_, fun h => (by cases h), fun _ => by unfold readOne; rw [if_pos h8]⟩
    unfold wal_next.f
    simp only [if_pos (show (s.size : Int) < 8 by omega)]
    exact Ev_const rfl
  · have hnl := num4_lt s.data.toList
    by_cases hbad : 32768 < num4 s.data.toList ∨ s.data.toList.length < 8 + num4 s.data.toList
    · refine ⟨⟨#[]⟩, false, ?_, fun h => (by cases h), fun _ => by unfold readOne; rw [if_neg h8, if_pos hbad]⟩
      unfold wal_next.f
      simp only [if_neg (show ¬ (s.size : Int) < 8 by omega), num4_get s (by omega), Option.bind_some]
      have hj : Ev (fun k => wal_next.j0 k s (num4 s.data.toList : Nat) true) ((⟨#[]⟩ : ByteArray), false) :=
        Ev_shift 1 (f := fun _ => some _) (fun k => by rw [wal_next.j0, if_pos rfl]) (Ev_const rfl)
      by_cases hb : 32768 < num4 s.data.toList
      · simp only [if_pos (show ((num4 s.data.toList : Nat) : Int) > 32768 by omega)]
        exact hj
      · simp only [if_neg (show ¬ ((num4 s.data.toList : Nat) : Int) > 32768 by omega)]
        rw [wrap_id (by omega) (by omega), wrap_id (by omega) (by omega), decide_eq_true (by omega)]
        exact hj
    · have hext : (s.extract 8 (8 + num4 s.data.toList)).data.toList = (s.data.toList.drop 8).take (num4 s.data.toList) := by rw [data_ext]; congr 1; omega
      have hext4 : (s.extract 0 4).data.toList = s.data.toList.take 4 := by rw [data_ext, List.drop_zero]
      have hextd : (s.extract 4 s.size).data.toList = s.data.toList.drop 4 := by rw [data_ext, List.take_of_length_le (by rw [List.length_drop]; omega)]
      have hc := checksum_ev [s.extract 0 4, s.extract 8 (8 + num4 s.data.toList)] (by simp) (by
        intro x hx
        rcases List.mem_cons.1 hx with rfl | hx
        · rw [size_data, hext4, List.length_take]; omega
        · rw [List.mem_singleton.1 hx, size_data, hext, List.length_take]; omega)
      have hfl : (([s.extract 0 4, s.extract 8 (8 + num4 s.data.toList)] : List ByteArray).map (·.data.toList)).flatten = s.data.toList.take 4 ++ (s.data.toList.drop 8).take (num4 s.data.toList) := by simp only [List.map_cons, List.map_nil, List.flatten_cons, List.flatten_nil, List.append_nil, hext, hext4]
      rw [hfl] at hc
      refine ⟨s.extract 8 (8 + num4 s.data.toList), ((num4 (s.data.toList.drop 4) : Nat) : Int) == ((sum (s.data.toList.take 4 ++ (s.data.toList.drop 8).take (num4 s.data.toList)) : Nat) : Int), ?_, fun h => ?_, fun h => ?_⟩
      · unfold wal_next.f
        simp only [if_neg (show ¬ (s.size : Int) < 8 by omega), num4_get s (by omega), Option.bind_some, if_neg (show ¬ ((num4 s.data.toList : Nat) : Int) > 32768 by omega)]
        rw [wrap_id (by omega) (by omega), wrap_id (by omega) (by omega), decide_eq_false (by omega)]
        refine Ev_shift 1 (f := fun k => wal_next.j0 (k + 1) s (num4 s.data.toList : Nat) false) (fun k => rfl) ?_
        simp only [wal_next.j0]
        have hw : wrap64 (8 + wrap64 (num4 s.data.toList : Nat)) = ((8 + num4 s.data.toList : Nat) : Int) := by
          rw [wrap_id (x := ((num4 s.data.toList : Nat) : Int)) (by omega) (by omega), wrap_id (by omega) (by omega)]
          omega
        rw [hw]
        have hb : wal_number4.f (s.extract 4 s.size) = some ((num4 (s.data.toList.drop 4) : Nat) : Int) := by
          have := num4_get (s.extract 4 s.size) (by rw [hextd, List.length_drop]; omega)
          rwa [hextd] at this
        simp only [if_neg (show ¬ (false = true) by decide), if_pos (show (8 : Int) ≤ ((8 + num4 s.data.toList : Nat) : Int) by omega), if_pos (show ((8 + num4 s.data.toList : Nat) : Int) ≤ (s.size : Int) by omega),
          if_pos (show (4 : Int) ≤ (s.size : Int) by omega), hb, Option.bind_some, Int.toNat_natCast]
        exact Ev.bind hc (Ev_const rfl)
      · rw [beq_iff_eq] at h
        unfold readOne
        rw [if_neg h8, if_neg hbad, if_pos (by omega), hext]
      · rw [beq_eq_false_iff_ne] at h
        unfold readOne
        rw [if_neg h8, if_neg hbad, if_neg (by omega)]
/-- What Scan comes to, from any place on. -/
theorem scan_from (s : ByteArray) (hs : s.size ≤ 1099511627776) : ∀ (d p : Nat), s.data.toList.length - p ≤ d → p ≤ s.data.toList.length → ∀ acc : List ByteArray, acc.length ≤ p →
    Ev (fun k => wal_Scan.l0 k s acc (p : Int)) (acc ++ (scan (s.data.toList.drop p)).1.map mkB, ((p + (scan (s.data.toList.drop p)).2 : Nat) : Int)) := by
  intro d
  have hz := size_data s
  induction d with
  | zero =>
    intro p hd hp acc ha
    have hd0 : s.data.toList.drop p = [] := List.drop_of_length_le (by omega)
    have hext : (s.extract p s.size).data.toList = s.data.toList.drop p := by rw [data_ext, List.take_of_length_le (by rw [List.length_drop]; omega)]
    obtain ⟨b, ok, hev, h1, h2⟩ := next_ev (s.extract p s.size) (by rw [size_data, hext, List.length_drop]; omega)
    rw [hext, hd0] at h1
    have hok : ok = false := by
      cases ok with
      | false => rfl
      | true => exact absurd (h1 rfl) (by simp [readOne])
    subst hok
    rw [hd0, scan_none (by simp [readOne])]
    refine Ev_shift 1 (f := fun k => (wal_next.f k (s.extract p s.size)).bind _) (fun k => by rw [wal_Scan.l0, if_pos (by omega), if_pos (by omega), Int.toNat_natCast]) (Ev.bind hev ?_)
    simp only [if_neg (show ¬ (false = true) by decide)]
    exact Ev_const (by simp)
  | succ d ih =>
    intro p hd hp acc ha
    have hext : (s.extract p s.size).data.toList = s.data.toList.drop p := by rw [data_ext, List.take_of_length_le (by rw [List.length_drop]; omega)]
    obtain ⟨b, ok, hev, h1, h2⟩ := next_ev (s.extract p s.size) (by rw [size_data, hext, List.length_drop]; omega)
    rw [hext] at h1 h2
    refine Ev_shift 1 (f := fun k => (wal_next.f k (s.extract p s.size)).bind _) (fun k => by rw [wal_Scan.l0, if_pos (by omega), if_pos (by omega), Int.toNat_natCast]) (Ev.bind hev ?_)
    cases ok with
    | false =>
      rw [scan_none (h2 rfl)]
      simp only [if_neg (show ¬ (false = true) by decide)]
      exact Ev_const (by simp)
    | true =>
      have hr := h1 rfl
      have hl := readOne_len hr
      rw [List.length_drop] at hl
      have hbz := size_data b
      rw [scan_some hr]
      simp only [if_true, if_pos (show acc.length < 8796093022208 by omega)]
      rw [wrap_id (x := 8 + (b.size : Int)) (by omega) (by omega), wrap_id (by omega) (by omega), show (p : Int) + (8 + (b.size : Int)) = ((p + (8 + b.data.toList.length) : Nat) : Int) from by omega]
      have := ih (p + (8 + b.data.toList.length)) (by omega) (by omega) (acc ++ [b]) (by simp; omega)
      rw [List.drop_drop]
      simp only [List.append_assoc, List.singleton_append] at this
      simp only [List.map_cons, mkB_data]
      rw [show p + (8 + b.data.toList.length + (scan (s.data.toList.drop (p + (8 + b.data.toList.length)))).2) = p + (8 + b.data.toList.length) + (scan (s.data.toList.drop (p + (8 + b.data.toList.length)))).2 from by omega]
      exact this
theorem wscan_ev (s : ByteArray) (hs : s.size ≤ 1099511627776) : Ev (fun k => wal_Scan.f k s) ((scan s.data.toList).1.map mkB, ((scan s.data.toList).2 : Int)) := by
  have := scan_from s (by omega) s.data.toList.length 0 (by omega) (by omega) [] (by simp)
  simp only [List.drop_zero, List.nil_append, Nat.zero_add] at this
  exact this
end Go.Proofs.Ytmeamllhhgcpgaa.Ma
