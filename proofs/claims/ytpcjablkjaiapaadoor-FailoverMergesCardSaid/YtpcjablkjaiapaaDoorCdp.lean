/- Domain names: Valid of the program and of the reference. -/
import Derived.Test.YtpcjablkjaiapaaDoorQAd1
import Derived.Test.YtpcjablkjaiapaaDoorQAd2
import Derived.Test.YtpcjablkjaiapaaDoorCdo
namespace Go.Proofs.YtpcjablkjaiapaaDoor.Cm
open Go.RowKit Go.Proofs.YtpcjablkjaiapaaDoorW.PrintWords Go.Proofs.YtpcjablkjaiapaaDoorW.PrintLast Go.Proofs.YtpcjablkjaiapaaDoorW.PrintMore Go.Proofs.YtpcjablkjaiapaaDoor.XP Go.Proofs.YtpcjablkjaiapaaDoor.QA
set_option linter.unusedVariables false
set_option linter.unusedSimpArgs false
/-- A domain name, by its bytes. -/
def nameB (l : List UInt8) : Bool := decide (l = [46]) || (decide (2 ≤ l.length ∧ l.length ≤ 254) && (decide (l.getLast? = some 46) && oks true (pcs [] l.dropLast)))
theorem wsub1 (n : Nat) (h : 1 ≤ n) (h2 : n ≤ 140737488351232) : wrap64 ((n : Int) - 1) = ((n - 1 : Nat) : Int) := by
  rw [wrap_id (by omega) (by omega)]
  omega
theorem last_iff (s : ByteArray) (h1 : 1 ≤ s.size) (hs : s.size ≤ 1000000) : (bt s ((s.size - 1 : Nat) : Int) = 46) ↔ s.data.toList.getLast? = some 46 := by
  have hsz := size_data s
  have hi : s.size - 1 < s.data.toList.length := by omega
  rw [bt_get s (s.size - 1) hi, List.getLast?_eq_getElem?, ← hsz, List.getElem?_eq_getElem hi]
  constructor
  · intro h
    have : (s.data.toList[s.size - 1]).toNat = 46 := by omega
    have h2 : s.data.toList[s.size - 1] = 46 := UInt8.toNat.inj this
    rw [h2]
  · intro h
    injection h with h
    rw [h]
    rfl
theorem suffix_val (s : ByteArray) (hs : s.size ≤ 1000000) : strings_HasSuffix.f s sep1 = some (decide (s.data.toList.getLast? = some 46)) := by
  have hsz := size_data s
  unfold strings_HasSuffix.f stringslite_HasSuffix.f
  have h1 : sep1.size = 1 := rfl
  rw [h1]
  by_cases h0 : 1 ≤ s.size
  · have hw : wrap64 ((s.size : Int) - ((1 : Nat) : Int)) = ((s.size - 1 : Nat) : Int) := by rw [wrap_id (by omega) (by omega)]; omega
    rw [if_pos (by omega), hw, if_pos (by omega), if_pos (by omega), Int.toNat_natCast, Option.bind_some, toL, toL]
    have hi : s.size - 1 < s.data.toList.length := by omega
    have e : (s.extract (s.size - 1) s.size).data.toList = [s.data.toList[s.size - 1]] := by
      rw [data_ext, List.drop_eq_getElem_cons hi, List.drop_eq_nil_of_le (by omega), List.take_of_length_le (by simp; omega)]
    rw [e, List.getLast?_eq_getElem?, ← hsz, List.getElem?_eq_getElem hi]
    congr 1
    rw [Bool.eq_iff_iff, beq_iff_eq, decide_eq_true_eq]
    show [_] = [46] ↔ _
    simp
  · have : s.data.toList = [] := List.length_eq_zero_iff.1 (by omega)
    rw [if_neg (by omega), Option.bind_some, this]
    rfl
theorem pcs_small : ∀ (l cur : List UInt8) (x : List UInt8), x ∈ pcs cur l → x.length ≤ cur.length + l.length
  | [], cur, x, h => by simp [pcs] at h; subst h; simp
  | c :: r, cur, x, h => by
    rw [pcs] at h
    split at h
    · rcases List.mem_cons.1 h with h | h
      · subst h; simp
      · have := pcs_small r [] x h; simp at this ⊢; omega
    · have := pcs_small r _ x h; simp at this ⊢; omega
theorem name_ev (s : ByteArray) (hs : s.size ≤ 140737488351232) : Ev (fun k => dname_Valid.f k s) (nameB s.data.toList) := by
  have hsz := size_data s
  unfold dname_Valid.f nameB
  rw [toL]
  by_cases h46 : s.data.toList = [46]
  · simp only [if_pos h46, h46, decide_true, Bool.true_or]
    exact Ev_const rfl
  · simp only [h46, if_false, decide_false, Bool.false_or]
    by_cases hbig : (s.size : Int) ≥ 255
    · simp only [if_pos hbig]
      have : decide (2 ≤ s.data.toList.length ∧ s.data.toList.length ≤ 254) = false := decide_eq_false (by omega)
      rw [this, Bool.false_and]
      exact Ev_shift 1 (f := fun _ => some false) (fun k => by rw [dname_Valid.j0, if_pos rfl]) (Ev_const rfl)
    · simp only [if_neg hbig]
      have hsf := suffix_val s (by omega)
      simp only [show (⟨#[46]⟩ : ByteArray) = sep1 from rfl, hsf, Option.bind_some]
      cases hl : decide (s.data.toList.getLast? = some 46) with
      | false =>
        rw [Bool.false_and, Bool.and_false]
        exact Ev_shift 1 (f := fun _ => some false) (fun k => by rw [dname_Valid.j0]; rfl) (Ev_const rfl)
      | true =>
        have hl' := of_decide_eq_true hl
        have hn2 : 2 ≤ s.data.toList.length := by
          cases hd : s.data.toList with
          | nil => rw [hd] at hl'; cases hl'
          | cons c r =>
            cases r with
            | nil =>
              rw [hd] at hl'
              have hl2 : c = 46 := by simpa using hl'
              exact absurd (by rw [hd, hl2]) h46
            | cons => simp
        have : decide (2 ≤ s.data.toList.length ∧ s.data.toList.length ≤ 254) = true := decide_eq_true (by omega)
        rw [this, Bool.true_and, Bool.true_and]
        refine Ev_shift 1 (fun k => by rw [dname_Valid.j0, Bool.not_true, if_neg (by decide), wsub1 s.size (by rw [hsz]; omega) hs, if_pos (by omega), if_pos (by omega), Int.toNat_natCast]) ?_
        have he : (s.extract 0 (s.size - 1)).data.toList = s.data.toList.dropLast := by
          rw [data_ext, List.drop_zero, Nat.sub_zero, List.dropLast_eq_take, hsz]
        have hes : (s.extract 0 (s.size - 1)).size ≤ 254 := by rw [size_data, he, List.length_dropLast]; omega
        have hsp := split_ev (s.extract 0 (s.size - 1)) (by omega)
        rw [he] at hsp
        refine Ev.bind hsp ?_
        have hdl : s.data.toList.dropLast.length ≤ 254 := by rw [List.length_dropLast]; omega
        have := labels_from (pcs [] s.data.toList.dropLast) (by have := pcs_len s.data.toList.dropLast []; have := dots_le s.data.toList.dropLast; omega) (fun x hx => by have := pcs_small _ _ x hx; simp at this; omega) _ 0 rfl
        exact this
theorem rsplit_from (s : ByteArray) (hs : s.size ≤ 254) : ∀ (r : List UInt8) (i st : Nat) (l : List ByteArray), s.data.toList.drop i = r → st ≤ i → dots ((s.data.toList.drop st).take (i - st)) = 0 → l.length ≤ i → (s.data.toList.getLast? = some 46) →
    ∃ q : List ByteArray, Ev (fun k => ddiref01_split.l0 k s l (st : Int) (i : Int)) (q, if r = [] then true else oks (decide (st = 0)) (pcs ((s.data.toList.drop st).take (i - st)) r.dropLast))
  | [], i, st, l, h, hst, hd, hl, hlast => by
    have := size_end s i h
    refine ⟨l, Ev_shift 1 (f := fun _ => some (l, true)) (fun k => ?_) (Ev_const rfl)⟩
    rw [ddiref01_split.l0, if_neg (by omega)]
  | c :: r, i, st, l, h, hst, hd, hl, hlast => by
    have hsz := size_data s
    obtain ⟨hi, hb, hr⟩ := bt_at_drop s i c r h
    have hlen : r.length = s.size - (i + 1) := by rw [← hr, List.length_drop]; omega
    have hsb : s.size ≤ 140737488351232 := by omega
    have hcur : (s.data.toList.drop st).take (i + 1 - st) = (s.data.toList.drop st).take (i - st) ++ [c] := by
      have : i - st < (s.data.toList.drop st).length := by rw [List.length_drop]; omega
      rw [show i + 1 - st = (i - st) + 1 by omega, List.take_succ_eq_append_getElem this]
      congr 2
      rw [List.getElem_drop]
      have h2 := (drop_at h).2.1
      rw [← h2]
      congr 1
      omega
    by_cases hc : c = 46
    · subst hc
      have hx : (s.extract st i).data.toList = (s.data.toList.drop st).take (i - st) := data_ext s st i
      generalize hcr : (s.data.toList.drop st).take (i - st) = cur at hx hd hcur
      have hxs : (s.extract st i).size ≤ 140737488351232 := by
        rw [size_data, hx, ← hcr, List.length_take, List.length_drop]
        omega
      have hgo : (labB cur && !(decide (cur = [42]) && decide (0 < st))) = (ordB cur || (decide (st = 0) && decide (cur = [42]))) := by
        unfold labB
        by_cases h42 : cur = [42]
        · have ho : ordB cur = false := by rw [h42]; decide
          by_cases h0 : st = 0
          · simp [h42, h0]
          · have : 0 < st := by omega
            rw [ho]
            simp [h42, h0, this]
        · simp [h42]
          skip
      have hpc : (if ((46 : UInt8) :: r) = [] then true else oks (decide (st = 0)) (pcs cur ((46 : UInt8) :: r).dropLast)) = ((ordB cur || (decide (st = 0) && decide (cur = [42]))) && (if r = [] then true else oks false (pcs [] r.dropLast))) := by
        rw [if_neg (List.cons_ne_nil _ _)]
        cases r with
        | nil => rw [if_pos rfl, show ([46] : List UInt8).dropLast = [] from rfl, pcs, oks, oks]
        | cons c2 r2 => rw [if_neg (List.cons_ne_nil _ _), List.dropLast_cons_of_ne_nil (List.cons_ne_nil _ _), pcs, if_pos rfl, oks]
      rw [hpc]
      have hj : ∀ b : Bool, b = !(ordB cur || (decide (st = 0) && decide (cur = [42]))) → ∃ q : List ByteArray, Ev (fun k => ddiref01_split.j2 k s l (i : Int) (s.extract st i) b) (q, (ordB cur || (decide (st = 0) && decide (cur = [42]))) && (if r = [] then true else oks false (pcs [] r.dropLast))) := by
        intro b hbk
        cases hk : (ordB cur || (decide (st = 0) && decide (cur = [42]))) with
        | false =>
          rw [hk] at hbk
          subst hbk
          refine ⟨[], Ev_shift 1 (f := fun _ => some ([], false)) (fun k => ?_) (Ev_const rfl)⟩
          rw [ddiref01_split.j2]
          rfl
        | true =>
          rw [hk] at hbk
          subst hbk
          obtain ⟨q, ih⟩ := rsplit_from s hs r (i + 1) (i + 1) (l ++ [s.extract st i]) hr (Nat.le_refl _) (by rw [Nat.sub_self, List.take_zero]; rfl) (by simp; omega) hlast
          rw [Nat.sub_self, List.take_zero, show decide (i + 1 = 0) = false from decide_eq_false (by omega)] at ih
          refine ⟨q, Ev_shift 1 (fun k => ?_) (by rw [Bool.true_and]; exact ih)⟩
          rw [ddiref01_split.j2, Bool.not_true, if_neg (by decide), if_pos (by omega), next i s.size hi (by omega)]
      have hlab := lab_ev (s.extract st i) hxs
      rw [hx] at hlab
      have hfst : ∃ b : Bool, b = !(ordB cur || (decide (st = 0) && decide (cur = [42]))) ∧ ∀ q v, Ev (fun k => ddiref01_split.j2 k s l (i : Int) (s.extract st i) b) (q, v) → Ev (fun k => ddiref01_split.l0 k s l (st : Int) (i : Int)) (q, v) := by
        refine ⟨_, rfl, fun q v hq => ?_⟩
        refine Ev_shift 1 (fun k => by rw [ddiref01_split.l0, if_pos (by omega), if_pos (by omega), hb, if_pos (by rfl), if_pos (by omega), if_pos (by omega), if_pos (by omega), Int.toNat_natCast, Int.toNat_natCast]) ?_
        refine Ev.bind hlab ?_
        rw [toL, hx]
        rw [← hgo] at hq
        cases hl2 : labB cur with
        | false =>
          rw [hl2] at hq
          simp only [Bool.false_eq_true, if_false]
          exact hq
        | true =>
          rw [hl2] at hq
          simp only [if_true]
          by_cases h42 : cur = [42]
          · simp only [if_pos h42]
            rw [show decide ((st : Int) > 0) = decide (0 < st) from by rw [Bool.eq_iff_iff]; simp]
            simpa [h42] using hq
          · simp only [if_neg h42]
            simpa [h42] using hq
      obtain ⟨b, hb1, hb2⟩ := hfst
      obtain ⟨q, hq⟩ := hj b hb1
      exact ⟨q, hb2 q _ hq⟩
    · have hcn : ¬ (c.toNat : Int) = 46 := by
        intro e
        exact hc (UInt8.toNat.inj (by show c.toNat = 46; omega))
      have hd2 : dots ((s.data.toList.drop st).take (i + 1 - st)) = 0 := by
        rw [hcur, dots, List.count_append, List.count_singleton]
        have : (c == 46) = false := by simpa using hc
        rw [this]
        simpa [dots] using hd
      have hrn : r ≠ [] := by
        rintro rfl
        have : s.data.toList.getLast? = some c := by
          rw [← List.take_append_drop i s.data.toList, h]
          simp
        rw [this] at hlast
        injection hlast with hlast
        exact hc hlast
      obtain ⟨q, ih⟩ := rsplit_from s hs r (i + 1) st l hr (by omega) hd2 (by omega) hlast
      refine ⟨q, Ev_shift 1 (f := fun k => ddiref01_split.l0 k s l (st : Int) ((i + 1 : Nat) : Int)) (fun k => ?_) ?_⟩
      · rw [ddiref01_split.l0, if_pos (by omega), if_pos (by omega), hb, if_neg hcn, next i s.size hi (by omega)]
      · rw [if_neg (List.cons_ne_nil _ _), List.dropLast_cons_of_ne_nil hrn, pcs, if_neg hc, ← hcur]
        rw [if_neg hrn] at ih
        exact ih
theorem rname_ev (s : ByteArray) (hs : s.size ≤ 140737488351232) : Ev (fun k => ddiref01_Valid.f k s) (nameB s.data.toList) := by
  have hsz := size_data s
  unfold ddiref01_Valid.f ddiref01_split.f nameB
  rw [toL]
  have hbad : ∀ v : Bool, v = false → Ev (fun k => (ddiref01_split.j0 k s true).bind fun bt => some bt.2) v := by
    rintro v rfl
    refine Ev.bind (a := (([] : List ByteArray), false)) ?_ (Ev_const rfl)
    exact Ev_shift 1 (f := fun _ => some ([], false)) (fun k => by rw [ddiref01_split.j0, if_pos rfl]) (Ev_const rfl)
  by_cases h46 : s.data.toList = [46]
  · simp only [if_pos h46, h46, decide_true, Bool.true_or, Option.bind_some]
    exact Ev_const rfl
  · simp only [h46, if_false, decide_false, Bool.false_or]
    by_cases h2 : (s.size : Int) < 2
    · simp only [if_pos h2]
      exact hbad _ (by rw [show decide (2 ≤ s.data.toList.length ∧ s.data.toList.length ≤ 254) = false from decide_eq_false (by omega)]; rfl)
    · simp only [if_neg h2]
      by_cases h254 : (s.size : Int) > 254
      · simp only [if_pos h254]
        exact hbad _ (by rw [show decide (2 ≤ s.data.toList.length ∧ s.data.toList.length ≤ 254) = false from decide_eq_false (by omega)]; rfl)
      · simp only [if_neg h254]
        simp only [wsub1 s.size (by omega) hs, if_pos (show (0 : Int) ≤ ((s.size - 1 : Nat) : Int) by omega), if_pos (show ((s.size - 1 : Nat) : Int) < (s.size : Int) by omega)]
        rw [show decide (2 ≤ s.data.toList.length ∧ s.data.toList.length ≤ 254) = true from decide_eq_true (by omega), Bool.true_and]
        have hli := last_iff s (by omega) (by omega)
        by_cases hl : s.data.toList.getLast? = some 46
        · have hb : (bt s ((s.size - 1 : Nat) : Int) != 46) = false := by simpa using hli.2 hl
          rw [hb, hl, decide_eq_true rfl, Bool.true_and]
          obtain ⟨q, hq⟩ := rsplit_from s (by omega) s.data.toList 0 0 [] rfl (Nat.le_refl _) (by rw [Nat.sub_self, List.take_zero]; rfl) (by simp) hl
          have hne : s.data.toList ≠ [] := by
            intro e
            rw [e] at hl
            cases hl
          rw [if_neg hne, Nat.sub_self, List.take_zero] at hq
          refine Ev.bind (Ev_shift 1 (fun k => by rw [ddiref01_split.j0, if_neg (by decide)]; rfl) hq) (Ev_const rfl)
        · have hb : (bt s ((s.size - 1 : Nat) : Int) != 46) = true := by
            rw [bne_iff_ne]
            exact fun e => hl (hli.1 e)
          rw [hb]
          exact hbad _ (by rw [decide_eq_false hl]; rfl)
end Go.Proofs.YtpcjablkjaiapaaDoor.Cm
