/- Domain names: Valid of the program and of the reference. -/
import Derived.Test.YtpcjablkjaiapaaDoorQAd1
import Derived.Test.YtpcjablkjaiapaaDoorQAd2
import Derived.Test.YtpcjablkjaiapaaDoorCdo
namespace Go.Proofs.YtpcjablkjaiapaaDoor.Cm
open Go.RowKit Go.Proofs.YtpcjablkjaiapaaDoorW.PrintWords Go.Proofs.YtpcjablkjaiapaaDoorW.PrintLast Go.Proofs.YtpcjablkjaiapaaDoorW.PrintMore Go.Proofs.YtpcjablkjaiapaaDoor.XP Go.Proofs.YtpcjablkjaiapaaDoor.QA
set_option linter.unusedVariables false
set_option linter.unusedSimpArgs false
/-- A domain name, by its bytes. -/
def nameB (l : List UInt8) : Bool := decide (l = [46]) || (decide (2 ≤ l.length ∧ l.length ≤ 254) && (decide (l.getLast? = some 46) && oks true (pcs [] l.dropLast)))
theorem wsub1 (n : Nat) (h : 1 ≤ n) (h2 : n ≤ 140737488351232) : wrap64 ((n : Int) - 1) = ((n - 1 : Nat) : Int) := by
  rw [wrap_id (by omega) (by omega)]
  omega
theorem suffix_val (s : ByteArray) (hs : s.size ≤ 1000000) : strings_HasSuffix.f s sep1 = some (decide (s.data.toList.getLast? = some 46)) := by
  have hsz := size_data s
  unfold strings_HasSuffix.f stringslite_HasSuffix.f
  have h1 : sep1.size = 1 := rfl
  rw [h1]
  by_cases h0 : 1 ≤ s.size
  · have hw : wrap64 ((s.size : Int) - ((1 : Nat) : Int)) = ((s.size - 1 : Nat) : Int) := by rw [wrap_id (by omega) (by omega)]; omega
    rw [if_pos (by omega), hw, if_pos (by omega), if_pos (by omega), Int.toNat_natCast, Option.bind_some, toL, toL]
    have hi : s.size - 1 < s.data.toList.length := by omega
    have e : (s.extract (s.size - 1) s.size).data.toList = [s.data.toList[s.size - 1]] := by
      rw [data_ext, List.drop_eq_getElem_cons hi, List.drop_eq_nil_of_le (by omega), List.take_of_length_le (by simp; omega)]
    rw [e, List.getLast?_eq_getElem?, ← hsz, List.getElem?_eq_getElem hi]
    congr 1
    rw [Bool.eq_iff_iff, beq_iff_eq, decide_eq_true_eq]
    show [_] = [46] ↔ _
    simp
  · have : s.data.toList = [] := List.length_eq_zero_iff.1 (by omega)
    rw [if_neg (by omega), Option.bind_some, this]
    rfl
theorem pcs_small : ∀ (l cur : List UInt8) (x : List UInt8), x ∈ pcs cur l → x.length ≤ cur.length + l.length
  | [], cur, x, h => by simp [pcs] at h; subst h; simp
  | c :: r, cur, x, h => by
    rw [pcs] at h
    split at h
    · rcases List.mem_cons.1 h with h | h
      · subst h; simp
      · have := pcs_small r [] x h; simp at this ⊢; omega
    · have := pcs_small r _ x h; simp at this ⊢; omega
theorem name_ev (s : ByteArray) (hs : s.size ≤ 140737488351232) : Ev (fun k => dname_Valid.f k s) (nameB s.data.toList) := by
  have hsz := size_data s
  unfold dname_Valid.f nameB
  rw [toL]
  by_cases h46 : s.data.toList = [46]
  · simp only [if_pos h46, h46, decide_true, Bool.true_or]
    exact Ev_const rfl
  · simp only [h46, if_false, decide_false, Bool.false_or]
    by_cases hbig : (s.size : Int) ≥ 255
    · simp only [if_pos hbig]
      have : decide (2 ≤ s.data.toList.length ∧ s.data.toList.length ≤ 254) = false := decide_eq_false (by omega)
      rw [this, Bool.false_and]
      exact Ev_shift 1 (f := fun _ => some false) (fun k => by rw [dname_Valid.j0, if_pos rfl]) (Ev_const rfl)
    · simp only [if_neg hbig]
      have hsf := suffix_val s (by omega)
      simp only [show (⟨#[46]⟩ : ByteArray) = sep1 from rfl, hsf, Option.bind_some]
      cases hl : decide (s.data.toList.getLast? = some 46) with
      | false =>
        rw [Bool.false_and, Bool.and_false]
        exact Ev_shift 1 (f := fun _ => some false) (fun k => by rw [dname_Valid.j0]; rfl) (Ev_const rfl)
      | true =>
        have hl' := of_decide_eq_true hl
        have hn2 : 2 ≤ s.data.toList.length := by
          cases hd : s.data.toList with
          | nil => rw [hd] at hl'; cases hl'
          | cons c r =>
            cases r with
            | nil =>
              rw [hd] at hl'
              have hl2 : c = 46 := by simpa using hl'
              exact absurd (by rw [hd, hl2]) h46
            | cons => simp
        have : decide (2 ≤ s.data.toList.length ∧ s.data.toList.length ≤ 254) = true := decide_eq_true (by omega)
        rw [this, Bool.true_and, Bool.true_and]
        refine Ev_shift 1 (fun k => by rw [dname_Valid.j0, Bool.not_true, if_neg (by decide), wsub1 s.size (by rw [hsz]; omega) hs, if_pos (by omega), if_pos (by omega), Int.toNat_natCast]) ?_
        have he : (s.extract 0 (s.size - 1)).data.toList = s.data.toList.dropLast := by
          rw [data_ext, List.drop_zero, Nat.sub_zero, List.dropLast_eq_take, hsz]
        have hes : (s.extract 0 (s.size - 1)).size ≤ 254 := by rw [size_data, he, List.length_dropLast]; omega
        have hsp := split_ev (s.extract 0 (s.size - 1)) (by omega)
        rw [he] at hsp
        refine Ev.bind hsp ?_
        have hdl : s.data.toList.dropLast.length ≤ 254 := by rw [List.length_dropLast]; omega
        have := labels_from (pcs [] s.data.toList.dropLast) (by have := pcs_len s.data.toList.dropLast []; have := dots_le s.data.toList.dropLast; omega) (fun x hx => by have := pcs_small _ _ x hx; simp at this; omega) _ 0 rfl
        exact this
end Go.Proofs.YtpcjablkjaiapaaDoor.Cm
