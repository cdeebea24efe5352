/- Frames one behind the other, whole or cut: what is read of them, in plain Lean (no condition). -/
import Derived.Test.YtmeamllhhgcpgaaMc
namespace Go.Proofs.Ytmeamllhhgcpgaa.Ma
open Go.RowKit Go.Proofs.Ytmeamllhhgcpgaa.XP Go.Proofs.Ytmeamllhhgcpgaa.QA

def fs (ps : List (List UInt8)) : List UInt8 := (ps.map frm).flatten
theorem fs_nil : fs [] = [] := rfl
theorem fs_cons (p : List UInt8) (ps : List (List UInt8)) : fs (p :: ps) = frm p ++ fs ps := by simp [fs]
theorem fs_append (ps qs : List (List UInt8)) : fs (ps ++ qs) = fs ps ++ fs qs := by simp [fs]
theorem num4_frm (p t : List UInt8) (h : p.length ≤ 32768) : num4 (frm p ++ t) = p.length := by
  unfold frm
  rw [List.append_assoc, List.append_assoc]
  exact num4_be4 _ (by omega) _
theorem readOne_frm (p t : List UInt8) (h : p.length ≤ 32768) : readOne (frm p ++ t) = some p := by
  have hn := num4_frm p t h
  have hl : (frm p ++ t).length = 8 + p.length + t.length := by rw [List.length_append, frm_length]
  have h4 : (frm p ++ t).take 4 = be4 p.length := by
    unfold frm
    rw [List.append_assoc, List.append_assoc, List.take_left' (be4_length _)]
  have hd4 : (frm p ++ t).drop 4 = be4 (sum (be4 p.length ++ p)) ++ (p ++ t) := by
    unfold frm
    rw [List.append_assoc, List.append_assoc, List.drop_left' (be4_length _)]
  have hd8 : (frm p ++ t).drop 8 = p ++ t := by
    rw [show 8 = 4 + 4 from rfl, ← List.drop_drop, hd4, List.drop_left' (be4_length _)]
  have hp : ((frm p ++ t).drop 8).take (num4 (frm p ++ t)) = p := by rw [hd8, hn, List.take_left' rfl]
  unfold readOne
  rw [if_neg (by omega), if_neg (by omega), hp, h4, hd4, if_pos (num4_be4 _ (sum_lt _) _)]
theorem readOne_cut (p : List UInt8) (q : Nat) (h : p.length ≤ 32768) (hq : q < 8 + p.length) : readOne ((frm p).take q) = none := by
  have hl : ((frm p).take q).length = q := by rw [List.length_take, frm_length]; omega
  unfold readOne
  by_cases h8 : q < 8
  · rw [if_pos (by omega)]
  · have hn : num4 ((frm p).take q) = p.length := by
      unfold frm
      rw [List.append_assoc, show q = 4 + (q - 4) from by omega, List.take_append, List.take_of_length_le (by rw [be4_length]; omega)]
      exact num4_be4 _ (by omega) _
    rw [if_neg (by omega), if_pos (by omega)]
theorem scan_frames : ∀ (ps : List (List UInt8)) (t : List UInt8), (∀ p ∈ ps, p.length ≤ 32768) → readOne t = none → scan (fs ps ++ t) = (ps, (fs ps).length)
  | [], t, _, h => by rw [fs_nil, List.nil_append, scan_none h]; rfl
  | p :: ps, t, hp, h => by
    have h1 := readOne_frm p (fs ps ++ t) (hp p (by simp))
    have ih := scan_frames ps t (fun q hq => hp q (by simp [hq])) h
    rw [fs_cons, List.append_assoc, scan_some h1]
    have hd : (frm p ++ (fs ps ++ t)).drop (8 + p.length) = fs ps ++ t := by rw [← frm_length, List.drop_left' rfl]
    rw [hd, ih]
    simp only [List.length_append, frm_length]
theorem readOne_nil : readOne [] = none := by simp [readOne]
/-- Cut at q: the frames that are whole. -/
theorem scan_cut : ∀ (ps : List (List UInt8)) (q : Nat), (∀ p ∈ ps, p.length ≤ 32768) → q ≤ (fs ps).length → ∃ wh, wh ≤ ps.length ∧ (∀ i, i < wh → (fs (ps.take (i + 1))).length ≤ q) ∧ (∀ i, wh ≤ i → i < ps.length → q < (fs (ps.take (i + 1))).length) ∧
    scan ((fs ps).take q) = (ps.take wh, (fs (ps.take wh)).length) ∧ (fs (ps.take wh)).length ≤ q
  | [], q, _, hq => by
    refine ⟨0, Nat.le_refl _, fun i hi => by omega, fun i _ hi => by simp at hi, ?_, by simp [fs_nil]⟩
    rw [fs_nil, List.take_nil, scan_none readOne_nil]
    rfl
  | p :: ps, q, hp, hq => by
    have h0 := hp p (by simp)
    rw [fs_cons, List.length_append, frm_length] at hq
    by_cases hs : q < 8 + p.length
    · refine ⟨0, Nat.zero_le _, fun i hi => by omega, fun i _ hi => ?_, ?_, by simp [fs_nil]⟩
      · rw [List.take_succ_cons, fs_cons, List.length_append, frm_length]
        omega
      · rw [fs_cons, List.take_append_of_le_length (by rw [frm_length]; omega), scan_none (readOne_cut p q h0 hs)]
        rfl
    · obtain ⟨wh, h1, h2, h3, h4, h5⟩ := scan_cut ps (q - (8 + p.length)) (fun r hr => hp r (by simp [hr])) (by omega)
      refine ⟨wh + 1, by simp; omega, fun i hi => ?_, fun i hi hl => ?_, ?_, ?_⟩
      · rw [List.take_succ_cons, fs_cons, List.length_append, frm_length]
        cases i with
        | zero => simp [fs_nil]; omega
        | succ i => have := h2 i (by omega); omega
      · cases i with
        | zero => omega
        | succ i =>
          have := h3 i (by omega) (by simpa using hl)
          rw [List.take_succ_cons, fs_cons, List.length_append, frm_length]
          omega
      · have ht : (fs (p :: ps)).take q = frm p ++ (fs ps).take (q - (8 + p.length)) := by
          rw [fs_cons, List.take_append, List.take_of_length_le (by rw [frm_length]; omega), frm_length]
        have hd : (frm p ++ (fs ps).take (q - (8 + p.length))).drop (8 + p.length) = (fs ps).take (q - (8 + p.length)) := by rw [← frm_length, List.drop_left' rfl]
        rw [ht, scan_some (readOne_frm p _ h0), hd, h4, List.take_succ_cons, fs_cons, List.length_append, frm_length]
      · rw [List.take_succ_cons, fs_cons, List.length_append, frm_length]
        omega
theorem fs_len_le : ∀ (ps : List (List UInt8)) (n : Nat), (∀ p ∈ ps, p.length ≤ n) → (fs ps).length ≤ ps.length * (8 + n)
  | [], n, _ => by simp [fs_nil]
  | p :: ps, n, h => by
    have := fs_len_le ps n (fun q hq => h q (by simp [hq]))
    have h0 := h p (by simp)
    rw [fs_cons, List.length_append, frm_length, List.length_cons, Nat.add_mul]
    omega
end Go.Proofs.Ytmeamllhhgcpgaa.Ma
