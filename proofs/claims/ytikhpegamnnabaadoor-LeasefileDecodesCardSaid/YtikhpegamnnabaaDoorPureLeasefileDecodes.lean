/- Any string is read as the reference reads it, and what is read is written back as it was: the pure statement of LeasefileDecodes (no condition but the sizes that every argument has). -/
import Derived.Test.YtikhpegamnnabaaDoorQAd1
import Derived.Test.YtikhpegamnnabaaDoorXP
import Derived.Test.YtikhpegamnnabaaDoorXB
import Derived.Test.YtikhpegamnnabaaDoorQAd2
namespace Go.Proofs.YtikhpegamnnabaaDoor.Cm
open Go.RowKit Go.Proofs.YtikhpegamnnabaaDoorW.PrintWords Go.Proofs.YtikhpegamnnabaaDoorW.PrintLast Go.Proofs.YtikhpegamnnabaaDoorW.PrintMore Go.Proofs.YtikhpegamnnabaaDoor.XP Go.Proofs.YtikhpegamnnabaaDoor.QA
set_option linter.unusedVariables false
set_option linter.unusedSimpArgs false
/-- A byte of an ordinary label. -/
def okc (c : UInt8) : Bool := (97 ≤ c.toNat && c.toNat ≤ 122) || ((48 ≤ c.toNat && c.toNat ≤ 57) || (c.toNat == 45 || c.toNat == 95))
def ordB (l : List UInt8) : Bool := !l.isEmpty && (decide (l.length ≤ 63) && l.all okc)
theorem bt_at_drop (s : ByteArray) (i : Nat) (c : UInt8) (r : List UInt8) (h : s.data.toList.drop i = c :: r) : i < s.size ∧ bt s (i : Int) = (c.toNat : Int) ∧ s.data.toList.drop (i + 1) = r := by
  obtain ⟨hi, hx, hr⟩ := drop_at h
  refine ⟨by rw [size_data]; exact hi, ?_, hr⟩
  rw [bt_get s i hi, hx]
theorem size_end (s : ByteArray) (i : Nat) (h : s.data.toList.drop i = []) : s.size ≤ i := by rw [size_data]; exact drop_end h
theorem toL (s : ByteArray) : s.toList = s.data.toList := ByteArray.toList_eq s
theorem ord_from (s : ByteArray) (hs : s.size ≤ 140737488351232) : ∀ (r : List UInt8) (i : Nat), s.data.toList.drop i = r → Ev (fun k => dname_ordinary.l0 k s (s.size : Int) (i : Int)) (r.all okc)
  | [], i, h => by
    have := size_end s i h
    refine Ev_shift 1 (f := fun _ => some true) (fun k => ?_) (Ev_const rfl)
    rw [dname_ordinary.l0, if_neg (by omega)]
  | c :: r, i, h => by
    obtain ⟨hi, hb, hr⟩ := bt_at_drop s i c r h
    have ih := ord_from s hs r (i + 1) hr
    have key : ∀ b : Bool, b = !okc c → Ev (fun k => dname_ordinary.j2 k s (s.size : Int) (i : Int) b) (List.all (c :: r) okc) := by
      intro b hbc
      rw [List.all_cons]
      cases hc : okc c with
      | false =>
        rw [hc] at hbc
        subst hbc
        refine Ev_shift 1 (f := fun _ => some false) (fun k => ?_) (Ev_const rfl)
        rw [dname_ordinary.j2]
        rfl
      | true =>
        rw [hc] at hbc
        subst hbc
        rw [Bool.true_and]
        refine Ev_shift 1 (fun k => ?_) ih
        rw [dname_ordinary.j2, next i s.size hi (by omega)]
        rfl
    refine Ev_shift 1 (f := fun k => dname_ordinary.j2 k s (s.size : Int) (i : Int) (!okc c)) (fun k => ?_) (key _ rfl)
    rw [dname_ordinary.l0, if_pos (by omega), if_pos (by omega), if_pos (by omega), hb]
    have hc : okc c = true ↔ (97 ≤ c.toNat ∧ c.toNat ≤ 122) ∨ ((48 ≤ c.toNat ∧ c.toNat ≤ 57) ∨ (c.toNat = 45 ∨ c.toNat = 95)) := by simp [okc]
    have hbn : ((c.toNat : Int) != 95) = !decide (c.toNat = 95) := by
      rw [Bool.eq_iff_iff]
      simp
      omega
    rw [hbn]
    cases hk : okc c with
    | true =>
      have := hc.1 hk
      repeat' split
      all_goals first | rfl | omega | (congr 1; simp; omega)
    | false =>
      have hn : ¬ _ := fun h => Bool.false_ne_true (hk.symm.trans (hc.2 h))
      repeat' split
      all_goals first | rfl | (exfalso; omega) | (congr 1; simp; omega)
theorem ord_ev (s : ByteArray) (hs : s.size ≤ 140737488351232) : Ev (fun k => dname_ordinary.f k s) (ordB s.data.toList) := by
  have hl := size_data s
  unfold dname_ordinary.f
  rw [toL]
  have hj : ∀ b : Bool, b = !(!s.data.toList.isEmpty && decide (s.data.toList.length ≤ 63)) → Ev (fun k => dname_ordinary.j0 k s b) (ordB s.data.toList) := by
    intro b hb
    unfold ordB
    cases h : (!s.data.toList.isEmpty && decide (s.data.toList.length ≤ 63)) with
    | false =>
      rw [h] at hb
      subst hb
      refine Ev_shift 1 (f := fun _ => some false) (fun k => ?_) (Ev_const (by rw [← Bool.and_assoc, h]; rfl))
      rw [dname_ordinary.j0]
      rfl
    | true =>
      rw [h] at hb
      subst hb
      rw [← Bool.and_assoc, h, Bool.true_and]
      refine Ev_shift 1 (fun k => ?_) (ord_from s hs s.data.toList 0 rfl)
      rw [dname_ordinary.j0]
      rfl
  by_cases h0 : s.data.toList = []
  · simp only [if_pos h0]
    exact hj true (by rw [h0]; rfl)
  · simp only [if_neg h0]
    refine hj _ ?_
    have : s.data.toList.isEmpty = false := by simpa using h0
    rw [this, hl]
    simp only [Bool.not_false, Bool.true_and]
    by_cases h : s.data.toList.length ≤ 63
    · rw [decide_eq_true h, decide_eq_false (by omega)]; rfl
    · rw [decide_eq_false h, decide_eq_true (by omega)]; rfl
theorem lab_from (s : ByteArray) (hs : s.size ≤ 140737488351232) : ∀ (r : List UInt8) (i : Nat), s.data.toList.drop i = r → Ev (fun k => ddiref01_isLabel.l0 k s (i : Int)) (r.all okc)
  | [], i, h => by
    have := size_end s i h
    refine Ev_shift 1 (f := fun _ => some true) (fun k => ?_) (Ev_const rfl)
    rw [ddiref01_isLabel.l0, if_neg (by omega)]
  | c :: r, i, h => by
    obtain ⟨hi, hb, hr⟩ := bt_at_drop s i c r h
    have ih := lab_from s hs r (i + 1) hr
    have key : ∀ b : Bool, b = !okc c → Ev (fun k => ddiref01_isLabel.j2 k s (i : Int) b) (List.all (c :: r) okc) := by
      intro b hbc
      rw [List.all_cons]
      cases hc : okc c with
      | false =>
        rw [hc] at hbc
        subst hbc
        refine Ev_shift 1 (f := fun _ => some false) (fun k => ?_) (Ev_const rfl)
        rw [ddiref01_isLabel.j2]
        rfl
      | true =>
        rw [hc] at hbc
        subst hbc
        rw [Bool.true_and]
        refine Ev_shift 1 (fun k => ?_) ih
        rw [ddiref01_isLabel.j2, next i s.size hi (by omega)]
        rfl
    refine Ev_shift 1 (f := fun k => ddiref01_isLabel.j2 k s (i : Int) (!okc c)) (fun k => ?_) (key _ rfl)
    rw [ddiref01_isLabel.l0, if_pos (by omega), if_pos (by omega), hb]
    have hc : okc c = true ↔ (97 ≤ c.toNat ∧ c.toNat ≤ 122) ∨ ((48 ≤ c.toNat ∧ c.toNat ≤ 57) ∨ (c.toNat = 45 ∨ c.toNat = 95)) := by simp [okc]
    have hbn : ((c.toNat : Int) == 95) = decide (c.toNat = 95) := by
      rw [Bool.eq_iff_iff]
      simp
      omega
    rw [hbn]
    cases hk : okc c with
    | true =>
      have := hc.1 hk
      repeat' split
      all_goals first | rfl | omega | (congr 1; simp; omega)
    | false =>
      have hn : ¬ _ := fun h => Bool.false_ne_true (hk.symm.trans (hc.2 h))
      repeat' split
      all_goals first | rfl | (exfalso; omega) | (congr 1; simp; omega)
def labB (l : List UInt8) : Bool := decide (l = [42]) || ordB l
theorem lab_ev (s : ByteArray) (hs : s.size ≤ 140737488351232) : Ev (fun k => ddiref01_isLabel.f k s) (labB s.data.toList) := by
  have hl := size_data s
  unfold ddiref01_isLabel.f labB
  rw [toL]
  have hj : ∀ b : Bool, b = !(!s.data.toList.isEmpty && decide (s.data.toList.length ≤ 63)) → Ev (fun k => ddiref01_isLabel.j0 k s b) (ordB s.data.toList) := by
    intro b hb
    unfold ordB
    cases h : (!s.data.toList.isEmpty && decide (s.data.toList.length ≤ 63)) with
    | false =>
      rw [h] at hb
      subst hb
      refine Ev_shift 1 (f := fun _ => some false) (fun k => ?_) (Ev_const (by rw [← Bool.and_assoc, h]; rfl))
      rw [ddiref01_isLabel.j0]
      rfl
    | true =>
      rw [h] at hb
      subst hb
      rw [← Bool.and_assoc, h, Bool.true_and]
      refine Ev_shift 1 (fun k => ?_) (lab_from s hs s.data.toList 0 rfl)
      rw [ddiref01_isLabel.j0]
      rfl
  by_cases h42 : s.data.toList = [42]
  · simp only [if_pos h42, h42, decide_true, Bool.true_or]
    exact Ev_const rfl
  · simp only [if_neg h42, h42, decide_false, Bool.false_or]
    by_cases h0 : (s.size : Int) < 1
    · simp only [if_pos h0]
      refine hj true ?_
      have : s.data.toList = [] := List.length_eq_zero_iff.1 (by rw [← hl]; omega)
      rw [this]
      rfl
    · simp only [if_neg h0]
      refine hj _ ?_
      have : s.data.toList.isEmpty = false := by
        cases h : s.data.toList with
        | nil => rw [h, List.length_nil] at hl; exfalso; omega
        | cons => rfl
      rw [this, hl]
      simp only [Bool.not_false, Bool.true_and]
      by_cases h : s.data.toList.length ≤ 63
      · rw [decide_eq_true h, decide_eq_false (by omega)]; rfl
      · rw [decide_eq_false h, decide_eq_true (by omega)]; rfl
end Go.Proofs.YtikhpegamnnabaaDoor.Cm
namespace Go.Proofs.YtikhpegamnnabaaDoor.Cm
open Go.RowKit Go.Proofs.YtikhpegamnnabaaDoorW.PrintWords Go.Proofs.YtikhpegamnnabaaDoorW.PrintLast Go.Proofs.YtikhpegamnnabaaDoorW.PrintMore Go.Proofs.YtikhpegamnnabaaDoor.XP Go.Proofs.YtikhpegamnnabaaDoor.QA
set_option linter.unusedVariables false
set_option linter.unusedSimpArgs false
def mkB (l : List UInt8) : ByteArray := ⟨l.toArray⟩
theorem mkB_data (l : List UInt8) : (mkB l).data.toList = l := rfl
theorem mkB_of (s : ByteArray) : mkB s.data.toList = s := by
  obtain ⟨⟨l⟩⟩ := s
  rfl
theorem mkB_size (l : List UInt8) : (mkB l).size = l.length := by rw [size_data]; rfl
/-- What lies between the periods; cur is what was read since the last one. -/
def pcs : List UInt8 → List UInt8 → List (List UInt8)
  | cur, [] => [cur]
  | cur, c :: r => if c = 46 then cur :: pcs [] r else pcs (cur ++ [c]) r
def dots (l : List UInt8) : Nat := l.count 46
theorem pcs_len : ∀ (l cur : List UInt8), (pcs cur l).length = dots l + 1
  | [], _ => rfl
  | c :: r, cur => by
    rw [pcs]
    by_cases h : c = 46
    · subst h
      rw [if_pos rfl, List.length_cons, pcs_len r, dots, dots, List.count_cons_self]
    · rw [if_neg h, pcs_len r, dots, dots, List.count_cons_of_ne h]
theorem idx_some : ∀ l : List UInt8, 0 < dots l → ∃ p q, l = p ++ 46 :: q ∧ dots p = 0 ∧ Go.Lib.indexByte l 46 = (p.length : Int)
  | [], h => by cases h
  | c :: r, h => by
    by_cases hc : c = 46
    · subst hc
      exact ⟨[], r, rfl, rfl, rfl⟩
    · have hr : 0 < dots r := by
        rw [dots, List.count_cons_of_ne hc] at h
        exact h
      obtain ⟨p, q, e, hp, hi⟩ := idx_some r hr
      have hb : (c == 46) = false := by simpa using hc
      refine ⟨c :: p, q, by rw [e]; rfl, by rw [dots, List.count_cons_of_ne hc]; exact hp, ?_⟩
      rw [Go.Lib.indexByte, hb, hi]
      have : ((p.length : Int) == -1) = false := by
        rw [beq_eq_false_iff_ne]
        omega
      simp only [this, Bool.false_eq_true, if_false, List.length_cons]
      omega
theorem pcs_front : ∀ (p cur q : List UInt8), dots p = 0 → pcs cur (p ++ 46 :: q) = (cur ++ p) :: pcs [] q
  | [], cur, q, _ => by simp [pcs]
  | c :: p, cur, q, h => by
    have hc : ¬ c = 46 := by
      rintro rfl
      rw [dots, List.count_cons_self] at h
      omega
    have hp : dots p = 0 := by
      rw [dots, List.count_cons_of_ne hc] at h
      exact h
    rw [List.cons_append, pcs, if_neg hc, pcs_front p _ q hp]
    simp
theorem pcs_last : ∀ (p cur : List UInt8), dots p = 0 → pcs cur p = [cur ++ p]
  | [], cur, _ => by simp [pcs]
  | c :: p, cur, h => by
    have hc : ¬ c = 46 := by
      rintro rfl
      rw [dots, List.count_cons_self] at h
      omega
    have hp : dots p = 0 := by
      rw [dots, List.count_cons_of_ne hc] at h
      exact h
    rw [pcs, if_neg hc, pcs_last p _ hp]
    simp
theorem dots_le (l : List UInt8) : dots l ≤ l.length := List.count_le_length
theorem set_at {α : Type} (d : List α) (x e : α) (n : Nat) : (d ++ List.replicate (n + 1) e).set d.length x = d ++ [x] ++ List.replicate n e := by
  rw [List.replicate_succ, List.set_append_right _ _ (Nat.le_refl _), Nat.sub_self, List.set_cons_zero, List.append_assoc]
  rfl
def sep1 : ByteArray := ⟨#[46]⟩
theorem sfind (s : ByteArray) : strings_Index.f s sep1 = some (Go.Lib.indexByte s.data.toList 46) := rfl
theorem scount (s : ByteArray) : strings_Count.f s sep1 = some ((dots s.data.toList : Nat) : Int) := rfl
theorem nx1 (n : Nat) (h : n ≤ 1000000) : wrap64 ((n : Int) + 1) = ((n + 1 : Nat) : Int) := by rw [wrap_id (by omega) (by omega)]; omega
theorem nx0 (n : Nat) (h : n ≤ 1000000) : wrap64 ((n : Int) + 0) = ((n : Nat) : Int) := by rw [wrap_id (by omega) (by omega)]; omega
set_option maxHeartbeats 400000 in
theorem split_from (n : Nat) (hn : n ≤ 1000000) (m : Nat) : ∀ (done : List ByteArray) (s : ByteArray), dots s.data.toList = m → done.length + m = n → s.size ≤ 1000000 →
    Ev (fun k => strings_genSplit.l0 k s sep1 0 (n : Int) (done ++ List.replicate (m + 1) (⟨#[]⟩ : ByteArray)) (done.length : Int)) (done ++ (pcs [] s.data.toList).map mkB) := by
  induction m with
  | zero =>
    intro done s hd hl hs
    have hend : ((done ++ List.replicate (0 + 1) (⟨#[]⟩ : ByteArray)).set done.length s).take (done.length + 1) = done ++ (pcs [] s.data.toList).map mkB := by
      rw [set_at, pcs_last _ _ hd, List.nil_append, List.map_cons, List.map_nil, mkB_of, List.replicate_zero, List.append_nil, List.take_of_length_le (by simp)]
    have hlen : (done ++ List.replicate (0 + 1) (⟨#[]⟩ : ByteArray)).length = done.length + 1 := by simp
    have hw : wrap64 ((done.length : Int) + 1) = ((done.length + 1 : Nat) : Int) := by rw [wrap_id (by omega) (by omega)]; omega
    refine Ev_shift 1 (f := fun _ => some (done ++ (pcs [] s.data.toList).map mkB)) (fun k => ?_) (Ev_const rfl)
    rw [strings_genSplit.l0, if_neg (by omega), if_pos (by omega), hlen, if_pos (by omega), hw, if_pos (by omega), if_pos (by omega), Int.toNat_natCast, Int.toNat_natCast, hend]
  | succ m ih0 =>
    intro done s hd hl hs
    obtain ⟨p, q, e, hp, hi⟩ := idx_some s.data.toList (by omega)
    have hsz := size_data s
    have hsl : s.size = p.length + (q.length + 1) := by rw [hsz, e]; simp
    have hq : dots q = m := by
      have : dots s.data.toList = dots p + (dots q + 1) := by rw [e, dots, List.count_append, List.count_cons_self]; rfl
      omega
    have e1 : (s.extract (p.length + 1) s.size).data.toList = q := by
      rw [data_ext, e, ← List.drop_drop, List.drop_left, List.drop_one, List.tail_cons, List.take_of_length_le (by omega)]
    have e0 : s.extract 0 p.length = mkB p := by
      apply data_inj
      rw [data_ext, e, mkB_data, List.drop_zero, Nat.sub_zero, List.take_left]
    have hsz2 : (s.extract (p.length + 1) s.size).size ≤ 1000000 := by rw [size_data, e1]; omega
    obtain ⟨s2, hs2⟩ : ∃ s2, s2 = s.extract (p.length + 1) s.size := ⟨_, rfl⟩
    rw [← hs2] at e1 hsz2
    have ih := ih0 (done ++ [mkB p]) s2 (by rw [e1]; exact hq) (by rw [List.length_append, List.length_singleton]; omega) hsz2
    rw [e1] at ih
    have g1 : (done.length : Int) < (n : Int) := by omega
    have g2 : ¬ ((p.length : Int) < 0) := by omega
    have g3 : (0 : Int) ≤ ((p.length : Nat) : Int) := by omega
    have g4 : ((p.length : Nat) : Int) ≤ (s.size : Int) := by omega
    have g5 : (0 : Int) ≤ (done.length : Int) := by omega
    have g6 : (done.length : Int) < ((done.length + (m + 2) : Nat) : Int) := by omega
    have g7 : (0 : Int) ≤ ((p.length + 1 : Nat) : Int) := by omega
    have g8 : ((p.length + 1 : Nat) : Int) ≤ (s.size : Int) := by omega
    have g9 : p.length ≤ 1000000 := by omega
    have g10 : done.length ≤ 1000000 := by omega
    have hs1 : ((sep1.size : Nat) : Int) = 1 := rfl
    have hlen : (done ++ List.replicate (m + 1 + 1) (⟨#[]⟩ : ByteArray)).length = done.length + (m + 2) := by simp
    have hr : done ++ (pcs [] s.data.toList).map mkB = done ++ [mkB p] ++ (pcs [] q).map mkB := by
      rw [e, pcs_front p [] q hp, List.nil_append, List.map_cons, List.append_assoc]
      rfl
    rw [hr]
    have hw1 := nx0 p.length g9
    have hw2 := nx1 p.length g9
    have hw3 := nx1 done.length g10
    refine Ev_shift 1 (fun k => ?_) ih
    rw [strings_genSplit.l0, if_pos g1, sfind, hi, Option.bind_some, if_neg g2, hs1, hw1, hw2, hw3, if_pos g3, if_pos g4, if_pos g5, hlen, if_pos g6, if_pos g7, if_pos g8, Int.toNat_natCast, Int.toNat_natCast, Int.toNat_natCast, set_at, e0, List.length_append, List.length_singleton, ← hs2]
theorem split_ev (s : ByteArray) (hs : s.size ≤ 1000000) : Ev (fun k => strings_Split.f k s sep1) ((pcs [] s.data.toList).map mkB) := by
  have hd := dots_le s.data.toList
  have hsz := size_data s
  unfold strings_Split.f strings_genSplit.f
  have h0 : ¬ sep1.toList = ([] : List UInt8) := by rw [toL]; exact List.cons_ne_nil _ _
  simp only [if_neg (show ¬ (-1 : Int) = 0 by omega), if_neg h0, if_pos (show (-1 : Int) < 0 by omega), scount, Option.bind_some]
  have hw : wrap64 (((dots s.data.toList : Nat) : Int) + 1) = ((dots s.data.toList + 1 : Nat) : Int) := by rw [wrap_id (by omega) (by omega)]; omega
  have hw2 : wrap64 ((s.size : Int) + 1) = ((s.size + 1 : Nat) : Int) := by rw [wrap_id (by omega) (by omega)]; omega
  have hm : mn ((dots s.data.toList + 1 : Nat) : Int) ((s.size + 1 : Nat) : Int) = ((dots s.data.toList + 1 : Nat) : Int) := by rw [mn_len, Nat.min_eq_left (by omega)]
  have hw3 : wrap64 (((dots s.data.toList + 1 : Nat) : Int) - 1) = ((dots s.data.toList : Nat) : Int) := by rw [wrap_id (by omega) (by omega)]; omega
  rw [hw]
  refine Ev.bind (a := (pcs [] s.data.toList).map mkB) ?_ (Ev_const rfl)
  refine Ev_shift 1 (fun k => by rw [strings_genSplit.j0, hw2, hm, if_pos (by omega), Int.toNat_natCast, if_pos (by omega), hw3]) ?_
  exact split_from (dots s.data.toList) (by omega) (dots s.data.toList) [] s rfl (by simp) (by omega)
/-- The labels, each by its place. -/
def oks : Bool → List (List UInt8) → Bool
  | _, [] => true
  | first, x :: r => (ordB x || (first && decide (x = [42]))) && oks false r
theorem labels_from (l : List (List UInt8)) (hl : l.length ≤ 1000001) (hsz : ∀ x ∈ l, x.length ≤ 1000000) : ∀ (r : List (List UInt8)) (i : Nat), l.drop i = r →
    Ev (fun k => dname_Valid.l0 k (l.map mkB) (((l.map mkB).length : Nat) : Int) (i : Int)) (oks (decide (i = 0)) r)
  | [], i, h => by
    have := drop_end h
    refine Ev_shift 1 (f := fun _ => some true) (fun k => ?_) (Ev_const rfl)
    rw [dname_Valid.l0, if_neg (by rw [List.length_map]; omega)]
  | x :: r, i, h => by
    obtain ⟨hi, hx, hr⟩ := drop_at h
    have hlm : (l.map mkB).length = l.length := List.length_map _
    have hrd : rdOf ByteArray.empty (l.map mkB) (i : Int) = mkB x := by
      simp [rdOf, List.getD_eq_getElem?_getD, List.getElem?_eq_getElem hi, hx]
    have ih := labels_from l hl hsz r (i + 1) hr
    have hxs : (mkB x).size ≤ 140737488351232 := by
      have := hsz x (hx ▸ List.getElem_mem hi)
      rw [mkB_size]
      omega
    have key : ∀ b : Bool, b = !(ordB x || (decide (i = 0) && decide (x = [42]))) → Ev (fun k => dname_Valid.j2 k (l.map mkB) (((l.map mkB).length : Nat) : Int) (i : Int) b) (oks (decide (i = 0)) (x :: r)) := by
      intro b hb
      rw [oks]
      cases hk : (ordB x || (decide (i = 0) && decide (x = [42]))) with
      | false =>
        rw [hk] at hb
        subst hb
        refine Ev_shift 1 (f := fun _ => some false) (fun k => ?_) (Ev_const rfl)
        rw [dname_Valid.j2]
        rfl
      | true =>
        rw [hk] at hb
        subst hb
        rw [Bool.true_and]
        have hi1 : decide (i + 1 = 0) = false := decide_eq_false (by omega)
        rw [hi1] at ih
        refine Ev_shift 1 (fun k => ?_) ih
        rw [dname_Valid.j2, next i l.length hi (by omega)]
        rfl
    refine Ev_shift 1 (fun k => by rw [dname_Valid.l0, if_pos (by omega), if_pos (by omega), if_pos (by omega), hrd]) ?_
    refine Ev.bind (ord_ev (mkB x) hxs) ?_
    rw [mkB_data]
    cases ho : ordB x with
    | true =>
      simp only [if_true]
      exact key false (by rw [ho]; rfl)
    | false =>
      simp only [Bool.false_eq_true, if_false]
      by_cases h0 : i = 0
      · subst h0
        simp only [if_neg (show ¬ ((0 : Nat) : Int) > 0 by omega)]
        refine key _ ?_
        rw [ho, toL, mkB_data]
        by_cases h42 : x = [42]
        · simp [h42]
        · have : (x != [42]) = true := by simpa using h42
          rw [this]
          simp [h42]
      · simp only [if_pos (show (i : Int) > 0 by omega)]
        exact key true (by rw [ho]; simp [h0])
end Go.Proofs.YtikhpegamnnabaaDoor.Cm
namespace Go.Proofs.YtikhpegamnnabaaDoor.Cm
open Go.RowKit Go.Proofs.YtikhpegamnnabaaDoorW.PrintWords Go.Proofs.YtikhpegamnnabaaDoorW.PrintLast Go.Proofs.YtikhpegamnnabaaDoorW.PrintMore Go.Proofs.YtikhpegamnnabaaDoor.XP Go.Proofs.YtikhpegamnnabaaDoor.QA
set_option linter.unusedVariables false
set_option linter.unusedSimpArgs false
/-- A domain name, by its bytes. -/
def nameB (l : List UInt8) : Bool := decide (l = [46]) || (decide (2 ≤ l.length ∧ l.length ≤ 254) && (decide (l.getLast? = some 46) && oks true (pcs [] l.dropLast)))
theorem wsub1 (n : Nat) (h : 1 ≤ n) (h2 : n ≤ 140737488351232) : wrap64 ((n : Int) - 1) = ((n - 1 : Nat) : Int) := by
  rw [wrap_id (by omega) (by omega)]
  omega
theorem last_iff (s : ByteArray) (h1 : 1 ≤ s.size) (hs : s.size ≤ 1000000) : (bt s ((s.size - 1 : Nat) : Int) = 46) ↔ s.data.toList.getLast? = some 46 := by
  have hsz := size_data s
  have hi : s.size - 1 < s.data.toList.length := by omega
  rw [bt_get s (s.size - 1) hi, List.getLast?_eq_getElem?, ← hsz, List.getElem?_eq_getElem hi]
  constructor
  · intro h
    have : (s.data.toList[s.size - 1]).toNat = 46 := by omega
    have h2 : s.data.toList[s.size - 1] = 46 := UInt8.toNat.inj this
    rw [h2]
  · intro h
    injection h with h
    rw [h]
    rfl
theorem suffix_val (s : ByteArray) (hs : s.size ≤ 1000000) : strings_HasSuffix.f s sep1 = some (decide (s.data.toList.getLast? = some 46)) := by
  have hsz := size_data s
  unfold strings_HasSuffix.f stringslite_HasSuffix.f
  have h1 : sep1.size = 1 := rfl
  rw [h1]
  by_cases h0 : 1 ≤ s.size
  · have hw : wrap64 ((s.size : Int) - ((1 : Nat) : Int)) = ((s.size - 1 : Nat) : Int) := by rw [wrap_id (by omega) (by omega)]; omega
    rw [if_pos (by omega), hw, if_pos (by omega), if_pos (by omega), Int.toNat_natCast, Option.bind_some, toL, toL]
    have hi : s.size - 1 < s.data.toList.length := by omega
    have e : (s.extract (s.size - 1) s.size).data.toList = [s.data.toList[s.size - 1]] := by
      rw [data_ext, List.drop_eq_getElem_cons hi, List.drop_eq_nil_of_le (by omega), List.take_of_length_le (by simp; omega)]
    rw [e, List.getLast?_eq_getElem?, ← hsz, List.getElem?_eq_getElem hi]
    congr 1
    rw [Bool.eq_iff_iff, beq_iff_eq, decide_eq_true_eq]
    show [_] = [46] ↔ _
    simp
  · have : s.data.toList = [] := List.length_eq_zero_iff.1 (by omega)
    rw [if_neg (by omega), Option.bind_some, this]
    rfl
theorem pcs_small : ∀ (l cur : List UInt8) (x : List UInt8), x ∈ pcs cur l → x.length ≤ cur.length + l.length
  | [], cur, x, h => by simp [pcs] at h; subst h; simp
  | c :: r, cur, x, h => by
    rw [pcs] at h
    split at h
    · rcases List.mem_cons.1 h with h | h
      · subst h; simp
      · have := pcs_small r [] x h; simp at this ⊢; omega
    · have := pcs_small r _ x h; simp at this ⊢; omega
theorem name_ev (s : ByteArray) (hs : s.size ≤ 140737488351232) : Ev (fun k => dname_Valid.f k s) (nameB s.data.toList) := by
  have hsz := size_data s
  unfold dname_Valid.f nameB
  rw [toL]
  by_cases h46 : s.data.toList = [46]
  · simp only [if_pos h46, h46, decide_true, Bool.true_or]
    exact Ev_const rfl
  · simp only [h46, if_false, decide_false, Bool.false_or]
    by_cases hbig : (s.size : Int) ≥ 255
    · simp only [if_pos hbig]
      have : decide (2 ≤ s.data.toList.length ∧ s.data.toList.length ≤ 254) = false := decide_eq_false (by omega)
      rw [this, Bool.false_and]
      exact Ev_shift 1 (f := fun _ => some false) (fun k => by rw [dname_Valid.j0, if_pos rfl]) (Ev_const rfl)
    · simp only [if_neg hbig]
      have hsf := suffix_val s (by omega)
      simp only [show (⟨#[46]⟩ : ByteArray) = sep1 from rfl, hsf, Option.bind_some]
      cases hl : decide (s.data.toList.getLast? = some 46) with
      | false =>
        rw [Bool.false_and, Bool.and_false]
        exact Ev_shift 1 (f := fun _ => some false) (fun k => by rw [dname_Valid.j0]; rfl) (Ev_const rfl)
      | true =>
        have hl' := of_decide_eq_true hl
        have hn2 : 2 ≤ s.data.toList.length := by
          cases hd : s.data.toList with
          | nil => rw [hd] at hl'; cases hl'
          | cons c r =>
            cases r with
            | nil =>
              rw [hd] at hl'
              have hl2 : c = 46 := by simpa using hl'
              exact absurd (by rw [hd, hl2]) h46
            | cons => simp
        have : decide (2 ≤ s.data.toList.length ∧ s.data.toList.length ≤ 254) = true := decide_eq_true (by omega)
        rw [this, Bool.true_and, Bool.true_and]
        refine Ev_shift 1 (fun k => by rw [dname_Valid.j0, Bool.not_true, if_neg (by decide), wsub1 s.size (by rw [hsz]; omega) hs, if_pos (by omega), if_pos (by omega), Int.toNat_natCast]) ?_
        have he : (s.extract 0 (s.size - 1)).data.toList = s.data.toList.dropLast := by
          rw [data_ext, List.drop_zero, Nat.sub_zero, List.dropLast_eq_take, hsz]
        have hes : (s.extract 0 (s.size - 1)).size ≤ 254 := by rw [size_data, he, List.length_dropLast]; omega
        have hsp := split_ev (s.extract 0 (s.size - 1)) (by omega)
        rw [he] at hsp
        refine Ev.bind hsp ?_
        have hdl : s.data.toList.dropLast.length ≤ 254 := by rw [List.length_dropLast]; omega
        have := labels_from (pcs [] s.data.toList.dropLast) (by have := pcs_len s.data.toList.dropLast []; have := dots_le s.data.toList.dropLast; omega) (fun x hx => by have := pcs_small _ _ x hx; simp at this; omega) _ 0 rfl
        exact this
/-! ### the reference's -/
theorem rsplit_from (s : ByteArray) (hs : s.size ≤ 254) : ∀ (r : List UInt8) (i st : Nat) (l : List ByteArray), s.data.toList.drop i = r → st ≤ i → dots ((s.data.toList.drop st).take (i - st)) = 0 → l.length ≤ i → (s.data.toList.getLast? = some 46) →
    ∃ q : List ByteArray, Ev (fun k => ddiref01_split.l0 k s l (st : Int) (i : Int)) (q, if r = [] then true else oks (decide (st = 0)) (pcs ((s.data.toList.drop st).take (i - st)) r.dropLast))
  | [], i, st, l, h, hst, hd, hl, hlast => by
    have := size_end s i h
    refine ⟨l, Ev_shift 1 (f := fun _ => some (l, true)) (fun k => ?_) (Ev_const rfl)⟩
    rw [ddiref01_split.l0, if_neg (by omega)]
  | c :: r, i, st, l, h, hst, hd, hl, hlast => by
    have hsz := size_data s
    obtain ⟨hi, hb, hr⟩ := bt_at_drop s i c r h
    have hlen : r.length = s.size - (i + 1) := by rw [← hr, List.length_drop]; omega
    have hsb : s.size ≤ 140737488351232 := by omega
    have hcur : (s.data.toList.drop st).take (i + 1 - st) = (s.data.toList.drop st).take (i - st) ++ [c] := by
      have : i - st < (s.data.toList.drop st).length := by rw [List.length_drop]; omega
      rw [show i + 1 - st = (i - st) + 1 by omega, List.take_succ_eq_append_getElem this]
      congr 2
      rw [List.getElem_drop]
      have h2 := (drop_at h).2.1
      rw [← h2]
      congr 1
      omega
    by_cases hc : c = 46
    · subst hc
      have hx : (s.extract st i).data.toList = (s.data.toList.drop st).take (i - st) := data_ext s st i
      generalize hcr : (s.data.toList.drop st).take (i - st) = cur at hx hd hcur
      have hxs : (s.extract st i).size ≤ 140737488351232 := by
        rw [size_data, hx, ← hcr, List.length_take, List.length_drop]
        omega
      have hgo : (labB cur && !(decide (cur = [42]) && decide (0 < st))) = (ordB cur || (decide (st = 0) && decide (cur = [42]))) := by
        unfold labB
        by_cases h42 : cur = [42]
        · have ho : ordB cur = false := by rw [h42]; decide
          by_cases h0 : st = 0
          · simp [h42, h0]
          · have : 0 < st := by omega
            rw [ho]
            simp [h42, h0, this]
        · simp [h42]
          skip
      have hpc : (if ((46 : UInt8) :: r) = [] then true else oks (decide (st = 0)) (pcs cur ((46 : UInt8) :: r).dropLast)) = ((ordB cur || (decide (st = 0) && decide (cur = [42]))) && (if r = [] then true else oks false (pcs [] r.dropLast))) := by
        rw [if_neg (List.cons_ne_nil _ _)]
        cases r with
        | nil => rw [if_pos rfl, show ([46] : List UInt8).dropLast = [] from rfl, pcs, oks, oks]
        | cons c2 r2 => rw [if_neg (List.cons_ne_nil _ _), List.dropLast_cons_of_ne_nil (List.cons_ne_nil _ _), pcs, if_pos rfl, oks]
      rw [hpc]
      have hj : ∀ b : Bool, b = !(ordB cur || (decide (st = 0) && decide (cur = [42]))) → ∃ q : List ByteArray, Ev (fun k => ddiref01_split.j2 k s l (i : Int) (s.extract st i) b) (q, (ordB cur || (decide (st = 0) && decide (cur = [42]))) && (if r = [] then true else oks false (pcs [] r.dropLast))) := by
        intro b hbk
        cases hk : (ordB cur || (decide (st = 0) && decide (cur = [42]))) with
        | false =>
          rw [hk] at hbk
          subst hbk
          refine ⟨[], Ev_shift 1 (f := fun _ => some ([], false)) (fun k => ?_) (Ev_const rfl)⟩
          rw [ddiref01_split.j2]
          rfl
        | true =>
          rw [hk] at hbk
          subst hbk
          obtain ⟨q, ih⟩ := rsplit_from s hs r (i + 1) (i + 1) (l ++ [s.extract st i]) hr (Nat.le_refl _) (by rw [Nat.sub_self, List.take_zero]; rfl) (by simp; omega) hlast
          rw [Nat.sub_self, List.take_zero, show decide (i + 1 = 0) = false from decide_eq_false (by omega)] at ih
          refine ⟨q, Ev_shift 1 (fun k => ?_) (by rw [Bool.true_and]; exact ih)⟩
          rw [ddiref01_split.j2, Bool.not_true, if_neg (by decide), if_pos (by omega), next i s.size hi (by omega)]
      have hlab := lab_ev (s.extract st i) hxs
      rw [hx] at hlab
      have hfst : ∃ b : Bool, b = !(ordB cur || (decide (st = 0) && decide (cur = [42]))) ∧ ∀ q v, Ev (fun k => ddiref01_split.j2 k s l (i : Int) (s.extract st i) b) (q, v) → Ev (fun k => ddiref01_split.l0 k s l (st : Int) (i : Int)) (q, v) := by
        refine ⟨_, rfl, fun q v hq => ?_⟩
        refine Ev_shift 1 (fun k => by rw [ddiref01_split.l0, if_pos (by omega), if_pos (by omega), hb, if_pos (by rfl), if_pos (by omega), if_pos (by omega), if_pos (by omega), Int.toNat_natCast, Int.toNat_natCast]) ?_
        refine Ev.bind hlab ?_
        rw [toL, hx]
        rw [← hgo] at hq
        cases hl2 : labB cur with
        | false =>
          rw [hl2] at hq
          simp only [Bool.false_eq_true, if_false]
          exact hq
        | true =>
          rw [hl2] at hq
          simp only [if_true]
          by_cases h42 : cur = [42]
          · simp only [if_pos h42]
            rw [show decide ((st : Int) > 0) = decide (0 < st) from by rw [Bool.eq_iff_iff]; simp]
            simpa [h42] using hq
          · simp only [if_neg h42]
            simpa [h42] using hq
      obtain ⟨b, hb1, hb2⟩ := hfst
      obtain ⟨q, hq⟩ := hj b hb1
      exact ⟨q, hb2 q _ hq⟩
    · have hcn : ¬ (c.toNat : Int) = 46 := by
        intro e
        exact hc (UInt8.toNat.inj (by show c.toNat = 46; omega))
      have hd2 : dots ((s.data.toList.drop st).take (i + 1 - st)) = 0 := by
        rw [hcur, dots, List.count_append, List.count_singleton]
        have : (c == 46) = false := by simpa using hc
        rw [this]
        simpa [dots] using hd
      have hrn : r ≠ [] := by
        rintro rfl
        have : s.data.toList.getLast? = some c := by
          rw [← List.take_append_drop i s.data.toList, h]
          simp
        rw [this] at hlast
        injection hlast with hlast
        exact hc hlast
      obtain ⟨q, ih⟩ := rsplit_from s hs r (i + 1) st l hr (by omega) hd2 (by omega) hlast
      refine ⟨q, Ev_shift 1 (f := fun k => ddiref01_split.l0 k s l (st : Int) ((i + 1 : Nat) : Int)) (fun k => ?_) ?_⟩
      · rw [ddiref01_split.l0, if_pos (by omega), if_pos (by omega), hb, if_neg hcn, next i s.size hi (by omega)]
      · rw [if_neg (List.cons_ne_nil _ _), List.dropLast_cons_of_ne_nil hrn, pcs, if_neg hc, ← hcur]
        rw [if_neg hrn] at ih
        exact ih
theorem rname_ev (s : ByteArray) (hs : s.size ≤ 140737488351232) : Ev (fun k => ddiref01_Valid.f k s) (nameB s.data.toList) := by
  have hsz := size_data s
  unfold ddiref01_Valid.f ddiref01_split.f nameB
  rw [toL]
  have hbad : ∀ v : Bool, v = false → Ev (fun k => (ddiref01_split.j0 k s true).bind fun bt => some bt.2) v := by
    rintro v rfl
    refine Ev.bind (a := (([] : List ByteArray), false)) ?_ (Ev_const rfl)
    exact Ev_shift 1 (f := fun _ => some ([], false)) (fun k => by rw [ddiref01_split.j0, if_pos rfl]) (Ev_const rfl)
  by_cases h46 : s.data.toList = [46]
  · simp only [if_pos h46, h46, decide_true, Bool.true_or, Option.bind_some]
    exact Ev_const rfl
  · simp only [h46, if_false, decide_false, Bool.false_or]
    by_cases h2 : (s.size : Int) < 2
    · simp only [if_pos h2]
      exact hbad _ (by rw [show decide (2 ≤ s.data.toList.length ∧ s.data.toList.length ≤ 254) = false from decide_eq_false (by omega)]; rfl)
    · simp only [if_neg h2]
      by_cases h254 : (s.size : Int) > 254
      · simp only [if_pos h254]
        exact hbad _ (by rw [show decide (2 ≤ s.data.toList.length ∧ s.data.toList.length ≤ 254) = false from decide_eq_false (by omega)]; rfl)
      · simp only [if_neg h254]
        simp only [wsub1 s.size (by omega) hs, if_pos (show (0 : Int) ≤ ((s.size - 1 : Nat) : Int) by omega), if_pos (show ((s.size - 1 : Nat) : Int) < (s.size : Int) by omega)]
        rw [show decide (2 ≤ s.data.toList.length ∧ s.data.toList.length ≤ 254) = true from decide_eq_true (by omega), Bool.true_and]
        have hli := last_iff s (by omega) (by omega)
        by_cases hl : s.data.toList.getLast? = some 46
        · have hb : (bt s ((s.size - 1 : Nat) : Int) != 46) = false := by simpa using hli.2 hl
          rw [hb, hl, decide_eq_true rfl, Bool.true_and]
          obtain ⟨q, hq⟩ := rsplit_from s (by omega) s.data.toList 0 0 [] rfl (Nat.le_refl _) (by rw [Nat.sub_self, List.take_zero]; rfl) (by simp) hl
          have hne : s.data.toList ≠ [] := by
            intro e
            rw [e] at hl
            cases hl
          rw [if_neg hne, Nat.sub_self, List.take_zero] at hq
          refine Ev.bind (Ev_shift 1 (fun k => by rw [ddiref01_split.j0, if_neg (by decide)]; rfl) hq) (Ev_const rfl)
        · have hb : (bt s ((s.size - 1 : Nat) : Int) != 46) = true := by
            rw [bne_iff_ne]
            exact fun e => hl (hli.1 e)
          rw [hb]
          exact hbad _ (by rw [decide_eq_false hl]; rfl)
end Go.Proofs.YtikhpegamnnabaaDoor.Cm
namespace Go.Proofs.YtikhpegamnnabaaDoor.Cm
open Go.RowKit Go.Proofs.YtikhpegamnnabaaDoorW.PrintWords Go.Proofs.YtikhpegamnnabaaDoorW.PrintLast Go.Proofs.YtikhpegamnnabaaDoorW.PrintMore Go.Proofs.YtikhpegamnnabaaDoor.XP Go.Proofs.YtikhpegamnnabaaDoor.QA
set_option linter.unusedVariables false
set_option linter.unusedSimpArgs false
def cmp (a b : S24) : Int := if (a.f0 != b.f0) = true then (if b.f0 = true then -1 else 1) else (if a.f1 = b.f1 then (if a.f2 < b.f2 then -1 else (if a.f2 > b.f2 then 1 else 0)) else (if a.f1 < b.f1 then -1 else 1))
theorem rcmp (a b : S24) : ddiref02_Compare.f a.f0 a.f1 a.f2 b.f0 b.f1 b.f2 = some (cmp a b) := by
  unfold ddiref02_Compare.f cmp
  repeat' split
  all_goals first | rfl | omega
theorem num (a b : Int) : addr_number.f a b = some (if a < b then -1 else (if a > b then 1 else 0)) := by
  unfold addr_number.f
  repeat' split
  all_goals rfl
theorem ucmp (a b : S24) : Ev (fun k => addr_Compare.f k a.f0 a.f1 a.f2 b.f0 b.f1 b.f2) (cmp a b) := by
  refine Ev_shift 1 (f := fun _ => some (cmp a b)) (fun k => ?_) (Ev_const rfl)
  unfold addr_Compare.f addr_Compare.j0 cmp
  simp only [num]
  cases h0 : a.f0 <;> cases h1 : b.f0 <;> simp
  all_goals
    by_cases h : a.f1 = b.f1
    · simp [h]
    · simp only [h, if_false]
      by_cases h2 : a.f1 < b.f1
      · simp [h2]
      · simp [h2]
        omega
end Go.Proofs.YtikhpegamnnabaaDoor.Cm
namespace Go.Proofs.YtikhpegamnnabaaDoor.Ma
open Go.RowKit Go.Proofs.YtikhpegamnnabaaDoorW.PrintWords Go.Proofs.YtikhpegamnnabaaDoorW.PrintLast Go.Proofs.YtikhpegamnnabaaDoorW.PrintMore Go.Proofs.YtikhpegamnnabaaDoor.XP Go.Proofs.YtikhpegamnnabaaDoor.QA Go.Proofs.YtikhpegamnnabaaDoor.Cm
set_option linter.unusedVariables false
set_option linter.unusedSimpArgs false
def vis (c : UInt8) : Bool := decide (33 ≤ c.toNat) && decide (c.toNat ≤ 126)
def szB (n : Nat) : Bool := decide (1 ≤ n) && decide (n ≤ 32)
theorem vis_at (c : UInt8) {β : Type} (g : Bool → β) : (if (c.toNat : Int) < 33 then g true else g (decide ((c.toNat : Int) > 126))) = g (!vis c) := by
  unfold vis
  split
  · rw [decide_eq_false (show ¬ 33 ≤ c.toNat by omega)]; rfl
  · rw [decide_eq_true (show 33 ≤ c.toNat by omega), Bool.true_and]
    congr 1
    rw [Bool.eq_iff_iff]
    simp
    omega
theorem cli_from (s : ByteArray) (hs : s.size ≤ 140737488351232) : ∀ (r : List UInt8) (i : Nat), s.data.toList.drop i = r → Ev (fun k => lease_isClient.l0 k s (i : Int)) (r.all vis && szB s.size)
  | [], i, h => by
    have := size_end s i h
    refine Ev_shift 1 (f := fun _ => some (szB s.size)) (fun k => ?_) (Ev_const rfl)
    rw [lease_isClient.l0, if_neg (by omega)]
    unfold szB
    by_cases h1 : 1 ≤ s.size
    · rw [if_pos (by omega), decide_eq_true h1, Bool.true_and]
      congr 1
      rw [Bool.eq_iff_iff]
      simp
      omega
    · rw [if_neg (by omega), decide_eq_false h1]; rfl
  | c :: r, i, h => by
    obtain ⟨hi, hb, hr⟩ := bt_at_drop s i c r h
    have ih := cli_from s hs r (i + 1) hr
    refine Ev_shift 1 (f := fun k => lease_isClient.j1 k s (i : Int) (!vis c)) (fun k => ?_) ?_
    · rw [lease_isClient.l0, if_pos (by omega), if_pos (by omega), hb]
      exact vis_at c (fun b => lease_isClient.j1 k s (i : Int) b)
    · rw [List.all_cons]
      cases vis c with
      | false => exact Ev_shift 1 (f := fun _ => some false) (fun k => by rw [lease_isClient.j1]; rfl) (Ev_const rfl)
      | true =>
        rw [Bool.true_and]
        exact Ev_shift 1 (fun k => by rw [lease_isClient.j1, next i s.size hi (by omega)]; rfl) ih
theorem rcli_from (s : ByteArray) (hs : s.size ≤ 140737488351232) : ∀ (r : List UInt8) (i : Nat), s.data.toList.drop i = r → Ev (fun k => ddiref38_Client.l0 k s (i : Int)) (r.all vis)
  | [], i, h => by
    have := size_end s i h
    exact Ev_shift 1 (f := fun _ => some true) (fun k => by rw [ddiref38_Client.l0, if_neg (by omega)]) (Ev_const rfl)
  | c :: r, i, h => by
    obtain ⟨hi, hb, hr⟩ := bt_at_drop s i c r h
    have ih := rcli_from s hs r (i + 1) hr
    refine Ev_shift 1 (f := fun k => ddiref38_Client.j2 k s (i : Int) (!vis c)) (fun k => ?_) ?_
    · rw [ddiref38_Client.l0, if_pos (by omega), if_pos (by omega), hb]
      exact vis_at c (fun b => ddiref38_Client.j2 k s (i : Int) b)
    · rw [List.all_cons]
      cases vis c with
      | false => exact Ev_shift 1 (f := fun _ => some false) (fun k => by rw [ddiref38_Client.j2]; rfl) (Ev_const rfl)
      | true =>
        rw [Bool.true_and]
        exact Ev_shift 1 (fun k => by rw [ddiref38_Client.j2, next i s.size hi (by omega)]; rfl) ih
def cliB (s : ByteArray) : Bool := s.data.toList.all vis && szB s.size
theorem cli_ev (s : ByteArray) (hs : s.size ≤ 140737488351232) : Ev (fun k => lease_isClient.f k s) (cliB s) := by
  unfold lease_isClient.f
  exact cli_from s hs s.data.toList 0 rfl
theorem rcli_ev (s : ByteArray) (hs : s.size ≤ 140737488351232) : Ev (fun k => ddiref38_Client.f k s) (cliB s) := by
  unfold ddiref38_Client.f cliB
  have hj : ∀ b : Bool, b = !szB s.size → Ev (fun k => ddiref38_Client.j0 k s b) (s.data.toList.all vis && szB s.size) := by
    intro b hb
    cases h : szB s.size with
    | false =>
      rw [h] at hb
      subst hb
      rw [Bool.and_false]
      exact Ev_shift 1 (f := fun _ => some false) (fun k => by rw [ddiref38_Client.j0]; rfl) (Ev_const rfl)
    | true =>
      rw [h] at hb
      subst hb
      rw [Bool.and_true]
      exact Ev_shift 1 (fun k => by rw [ddiref38_Client.j0]; rfl) (rcli_from s hs s.data.toList 0 rfl)
  by_cases h : (s.size : Int) < 1
  · simp only [if_pos h]
    exact hj true (by unfold szB; rw [decide_eq_false (by omega)]; rfl)
  · simp only [if_neg h]
    refine hj _ ?_
    unfold szB
    rw [decide_eq_true (show 1 ≤ s.size by omega), Bool.true_and, Bool.eq_iff_iff]
    simp
    omega
def hostB (s : ByteArray) : Bool := decide (s.data.toList = []) || nameB s.data.toList
theorem host_ev (s : ByteArray) (hs : s.size ≤ 140737488351232) : Ev (fun k => lease_isHost.f k s) (hostB s) := by
  unfold lease_isHost.f hostB
  rw [toL]
  by_cases h : s.data.toList = []
  · simp only [if_pos h, h, decide_true, Bool.true_or, if_true]
    exact Ev_const rfl
  · simp only [h, decide_false, Bool.false_or, if_false]
    exact Ev.bind (name_ev s hs) (Ev_const rfl)
def timeB (t : Int) : Bool := decide (0 ≤ t) && decide (t ≤ 4294967295)
theorem time_v (t : Int) : lease_isTime.f t = some (timeB t) := by
  unfold lease_isTime.f timeB
  by_cases h : t ≥ 0
  · rw [if_pos h, decide_eq_true h, Bool.true_and]
  · rw [if_neg h, decide_eq_false h]; rfl
theorem rtime_v (t : Int) : ddiref38_Time.f t = some (timeB t) := time_v t
theorem xid_v (t : Int) : lease_isXID.f t = some (timeB t) := by
  unfold lease_isXID.f timeB
  by_cases h : t ≥ 0
  · rw [if_pos h, decide_eq_true h, Bool.true_and]
    congr 1
    rw [Bool.eq_iff_iff]
    simp
    omega
  · rw [if_neg h, decide_eq_false h]; rfl
def adB (x : S24) : Bool := x.f0 || (decide (x.f1 = 0) && decide (x.f2 ≤ 4294967295))
theorem ad_v (x : S24) : addr_Valid.f x.f0 x.f1 x.f2 = some (adB x) := by
  unfold addr_Valid.f adB
  by_cases h : x.f0 = true
  · rw [if_pos h, h]; rfl
  · have : x.f0 = false := by simpa using h
    rw [if_neg h, this, Bool.false_or]
    by_cases h1 : x.f1 = 0
    · rw [if_pos h1, decide_eq_true h1, Bool.true_and]
    · rw [if_neg h1, decide_eq_false h1]; rfl
theorem rad_v (x : S24) : ddiref02_Valid.f x.f0 x.f1 x.f2 = some (adB x) := by
  rw [← ad_v]
  unfold ddiref02_Valid.f addr_Valid.f
  split
  · rfl
  · split
    · congr 1
      rw [Bool.eq_iff_iff]
      simp
      omega
    · rfl
/-- A lease's own form: 3 the address, 1 the arguments, 2 the name, 0 in order. -/
def argB (x : S26) : Bool := decide (1 ≤ x.f2) && (decide (x.f2 ≤ 5) && (cliB x.f1 && (timeB x.f6 && (timeB x.f3 && (timeB x.f4 && decide (x.f3 ≤ x.f4))))))
def one (x : S26) : Int := if adB x.f0 = true then (if argB x = true then (if hostB x.f5 = true then 0 else 2) else 1) else 3
def upB : Option S24 → S24 → Bool
  | none, _ => true
  | some p, a => decide (cmp p a < 0)
def chk (p : Option S24) : List S26 → Int
  | [] => 0
  | x :: r => if adB x.f0 = true then (if upB p x.f0 = true then (if one x = 0 then chk (some x.f0) r else one x) else 7) else 3
end Go.Proofs.YtikhpegamnnabaaDoor.Ma
namespace Go.Proofs.YtikhpegamnnabaaDoor.Ma
open Go.RowKit Go.Proofs.YtikhpegamnnabaaDoorW.PrintWords Go.Proofs.YtikhpegamnnabaaDoorW.PrintLast Go.Proofs.YtikhpegamnnabaaDoorW.PrintMore Go.Proofs.YtikhpegamnnabaaDoor.XP Go.Proofs.YtikhpegamnnabaaDoor.QA Go.Proofs.YtikhpegamnnabaaDoor.Cm
set_option linter.unusedVariables false
set_option linter.unusedSimpArgs false
theorem rd26 (l : List S26) (i : Nat) (x : S26) (r : List S26) (h : l.drop i = x :: r) : i < l.length ∧ rd_T26 l (i : Int) = x ∧ l.drop (i + 1) = r := by
  obtain ⟨hi, hx, hr⟩ := drop_at h
  refine ⟨hi, ?_, hr⟩
  simp [rd_T26, List.getD_eq_getElem?_getD, List.getElem?_eq_getElem hi, hx]
theorem one_true (x : S26) (h1 : adB x.f0 = true) : one x = if argB x = true then (if hostB x.f5 = true then 0 else 2) else 1 := by
  unfold one
  rw [if_pos h1]
theorem j3_ev (l : List S26) (n i : Int) (x : S26) (hx : okS26 x) (R : Int) (hR : Ev (fun k => lease_Check.l0 k l l n (wrap64 (i + 1))) R) (b : Bool) : Ev (fun k => lease_Check.j3 k l l n i b x.f0.f0 x.f0.f1 x.f0.f2 x.f1 x.f2 x.f3 x.f4 x.f5 x.f6) (if b = true then 1 else (if hostB x.f5 = true then R else 2)) := by
  cases b with
  | true => exact Ev_shift 1 (f := fun _ => some 1) (fun k => by rw [lease_Check.j3, if_pos rfl]) (Ev_const rfl)
  | false =>
    refine Ev_shift 1 (fun k => by rw [lease_Check.j3, if_neg Bool.false_ne_true]) ?_
    refine Ev.bind (host_ev x.f5 hx.2.2.2.2.2.1) ?_
    cases hostB x.f5 with
    | false => exact Ev_const rfl
    | true => exact hR
theorem j2_ev (l : List S26) (n i : Int) (x : S26) (hx : okS26 x) (R : Int) (hR : Ev (fun k => lease_Check.l0 k l l n (wrap64 (i + 1))) R) (b : Bool) : Ev (fun k => lease_Check.j2 k l l n i b x.f0.f0 x.f0.f1 x.f0.f2 x.f1 x.f2 x.f3 x.f4 x.f5 x.f6) (if b = true then 1 else (if (timeB x.f3 && (timeB x.f4 && decide (x.f3 ≤ x.f4))) = true then (if hostB x.f5 = true then R else 2) else 1)) := by
  cases b with
  | true => exact Ev_shift 1 (f := fun _ => some 1) (fun k => by rw [lease_Check.j2, if_pos rfl]) (Ev_const rfl)
  | false =>
    refine Ev_shift 1 (fun k => by rw [lease_Check.j2, if_neg Bool.false_ne_true, time_v, time_v]) ?_
    have h3 := j3_ev l n i x hx R hR
    cases timeB x.f3 with
    | false => exact h3 true
    | true =>
      cases timeB x.f4 with
      | false => exact h3 true
      | true =>
        by_cases h : x.f3 ≤ x.f4
        · rw [decide_eq_true h]
          have := h3 (decide (x.f3 > x.f4))
          rw [decide_eq_false (show ¬ x.f3 > x.f4 by omega)] at this
          simp only [Option.bind_some, if_true, decide_eq_false (show ¬ x.f3 > x.f4 by omega)]
          exact this
        · rw [decide_eq_false h]
          have := h3 (decide (x.f3 > x.f4))
          rw [decide_eq_true (show x.f3 > x.f4 by omega)] at this
          simp only [Option.bind_some, if_true, decide_eq_true (show x.f3 > x.f4 by omega)]
          exact this
theorem j1_ev (l : List S26) (n i : Int) (x : S26) (hx : okS26 x) (had : adB x.f0 = true) (R : Int) (hR : Ev (fun k => lease_Check.l0 k l l n (wrap64 (i + 1))) R) (u b : Bool) (hb : b = !u) : Ev (fun k => lease_Check.j1 k l l n i b x.f0.f0 x.f0.f1 x.f0.f2 x.f1 x.f2 x.f3 x.f4 x.f5 x.f6) (if u = true then (if one x = 0 then R else one x) else 7) := by
  subst hb
  cases u with
  | false => exact Ev_shift 1 (f := fun _ => some 7) (fun k => by rw [lease_Check.j1, Bool.not_false, if_pos rfl]) (Ev_const rfl)
  | true =>
    have h2 := j2_ev l n i x hx R hR
    have hg : (if one x = 0 then R else one x) = if (!(decide (1 ≤ x.f2) && (decide (x.f2 ≤ 5) && (cliB x.f1 && timeB x.f6)))) = true then 1 else (if (timeB x.f3 && (timeB x.f4 && decide (x.f3 ≤ x.f4))) = true then (if hostB x.f5 = true then R else 2) else 1) := by
      rw [one_true x had]
      unfold argB
      cases decide (1 ≤ x.f2) <;> cases decide (x.f2 ≤ 5) <;> cases cliB x.f1 <;> cases timeB x.f6 <;> cases timeB x.f3 <;> cases timeB x.f4 <;> cases decide (x.f3 ≤ x.f4) <;> cases hostB x.f5 <;> rfl
    rw [if_pos rfl, hg]
    refine Ev_shift 1 (fun k => by rw [lease_Check.j1, Bool.not_true, if_neg Bool.false_ne_true]) ?_
    by_cases h1 : x.f2 < 1
    · simp only [if_pos h1, decide_eq_false (show ¬ 1 ≤ x.f2 by omega), Bool.false_and, Bool.not_false]
      exact h2 true
    · simp only [if_neg h1, decide_eq_true (show 1 ≤ x.f2 by omega), Bool.true_and]
      by_cases h5 : x.f2 > 5
      · simp only [if_pos h5, decide_eq_false (show ¬ x.f2 ≤ 5 by omega), Bool.false_and, Bool.not_false]
        exact h2 true
      · simp only [if_neg h5, decide_eq_true (show x.f2 ≤ 5 by omega), Bool.true_and]
        refine Ev.bind (cli_ev x.f1 hx.2.1) ?_
        cases cliB x.f1 with
        | false => exact h2 true
        | true =>
          simp only [if_true, xid_v, Option.bind_some, Bool.true_and]
          exact h2 _
theorem check_from (l : List S26) (hl : l.length ≤ 140737488351232) (ok : ∀ y ∈ l, okS26 y) : ∀ (r : List S26) (i : Nat) (p : Option S24), l.drop i = r → (i = 0 → p = none) → (∀ j : Nat, i = j + 1 → p = some (rd_T26 l (j : Int)).f0) → Ev (fun k => lease_Check.l0 k l l (l.length : Int) (i : Int)) (chk p r)
  | [], i, p, h, _, _ => by
    have := drop_end h
    exact Ev_shift 1 (f := fun _ => some 0) (fun k => by rw [lease_Check.l0, if_neg (by omega)]) (Ev_const rfl)
  | x :: r, i, p, h, hp0, hp1 => by
    obtain ⟨hi, hx, hr⟩ := rd26 l i x r h
    have hxl : x ∈ l := List.mem_of_mem_drop (i := i) (by rw [h]; exact List.mem_cons_self ..)
    have ih := check_from l hl ok r (i + 1) (some x.f0) hr (fun e => by omega) (fun j e => by
      have : j = i := by omega
      rw [this, hx])
    rw [← next i l.length hi (by omega)] at ih
    unfold chk
    cases had : adB x.f0 with
    | false => exact Ev_shift 1 (f := fun _ => some 3) (fun k => by rw [lease_Check.l0, if_pos (by omega), if_pos (by omega), if_pos (by omega), hx, ad_v, had]; rfl) (Ev_const rfl)
    | true =>
      rw [if_pos rfl]
      have h1 := j1_ev l (l.length : Int) (i : Int) x (ok x hxl) had _ ih (upB p x.f0)
      cases i with
      | zero =>
        rw [hp0 rfl]
        refine Ev_shift 1 (fun k => by rw [lease_Check.l0, if_pos (by omega), if_pos (by omega), if_pos (by omega), hx, ad_v, had, Option.bind_some, if_pos rfl, if_neg (by omega)]) ?_
        rw [hp0 rfl] at h1
        exact h1 false rfl
      | succ j =>
        have hpj := hp1 j rfl
        have hj : (wrap64 (((j + 1 : Nat) : Int) - 1)) = (j : Int) := wsub1 (j + 1) (by omega) (by omega)
        have e0 : (0 : Int) ≤ (j : Int) := by omega
        have e1 : (j : Int) < (l.length : Int) := by omega
        have e2 : ((j + 1 : Nat) : Int) > 0 := by omega
        refine Ev_shift 1 (fun k => by rw [lease_Check.l0, if_pos (by omega), if_pos (by omega), if_pos (by omega), hx, ad_v, had, Option.bind_some, if_pos rfl, if_pos e2, hj, if_pos e0, if_pos e1]) ?_
        refine Ev.bind (ucmp (rd_T26 l (j : Int)).f0 x.f0) ?_
        refine h1 _ ?_
        rw [hpj]
        unfold upB
        rw [Bool.eq_iff_iff]
        simp
theorem rone_ev (x : S26) (hx : okS26 x) : Ev (fun k => ddiref38_One.f k x.f0.f0 x.f0.f1 x.f0.f2 x.f1 x.f2 x.f3 x.f4 x.f5 x.f6) (one x) := by
  unfold ddiref38_One.f
  simp only [rad_v, Option.bind_some]
  cases had : adB x.f0 with
  | false => exact Ev_const (by unfold one; rw [had]; rfl)
  | true =>
    rw [one_true x had]
    have hj1 : ∀ b : Bool, Ev (fun k => ddiref38_One.j1 k b) (if b = true then 2 else 0) := by
      intro b
      refine Ev_shift 1 (f := fun _ => some (if b = true then 2 else 0)) (fun k => ?_) (Ev_const rfl)
      rw [ddiref38_One.j1]
      cases b <;> rfl
    have hj0 : ∀ b : Bool, b = !argB x → Ev (fun k => ddiref38_One.j0 k b x.f0.f0 x.f0.f1 x.f0.f2 x.f1 x.f2 x.f3 x.f4 x.f5 x.f6) (if argB x = true then (if hostB x.f5 = true then 0 else 2) else 1) := by
      rintro b rfl
      cases argB x with
      | false => exact Ev_shift 1 (f := fun _ => some 1) (fun k => by rw [ddiref38_One.j0, Bool.not_false, if_pos rfl]) (Ev_const rfl)
      | true =>
        refine Ev_shift 1 (fun k => by rw [ddiref38_One.j0, Bool.not_true, if_neg Bool.false_ne_true, toL]) ?_
        unfold hostB
        by_cases h : x.f5.data.toList = []
        · simp only [h, decide_true, Bool.true_or, if_true]
          exact hj1 false
        · simp only [h, decide_false, Bool.false_or, if_false]
          refine Ev.bind (rname_ev x.f5 hx.2.2.2.2.2.1) ?_
          have := hj1 (!nameB x.f5.data.toList)
          cases hn : nameB x.f5.data.toList <;> rw [hn] at this <;> exact this
    simp only [if_true, rtime_v, Option.bind_some]
    by_cases h1 : x.f2 < 1
    · simp only [if_pos h1]
      exact hj0 true (by unfold argB; rw [decide_eq_false (show ¬ 1 ≤ x.f2 by omega)]; rfl)
    · simp only [if_neg h1]
      have a1 : decide (1 ≤ x.f2) = true := decide_eq_true (by omega)
      by_cases h5 : x.f2 > 5
      · simp only [if_pos h5]
        exact hj0 true (by unfold argB; rw [a1, decide_eq_false (show ¬ x.f2 ≤ 5 by omega)]; rfl)
      · simp only [if_neg h5]
        have a5 : decide (x.f2 ≤ 5) = true := decide_eq_true (by omega)
        refine Ev.bind (rcli_ev x.f1 hx.2.1) ?_
        have hab : argB x = (cliB x.f1 && (timeB x.f6 && (timeB x.f3 && (timeB x.f4 && decide (x.f3 ≤ x.f4))))) := by
          unfold argB
          rw [a1, a5, Bool.true_and, Bool.true_and]
        cases hc : cliB x.f1 with
        | false =>
          simp only [Bool.false_eq_true, if_false]
          exact hj0 true (by rw [hab, hc]; rfl)
        | true =>
          cases h3 : timeB x.f3 with
          | false =>
            simp only [Bool.false_eq_true, if_false, if_true]
            exact hj0 true (by rw [hab, h3]; cases cliB x.f1 <;> cases timeB x.f6 <;> rfl)
          | true =>
            cases h4 : timeB x.f4 with
            | false =>
              simp only [Bool.false_eq_true, if_false, if_true]
              exact hj0 true (by rw [hab, h4]; cases cliB x.f1 <;> cases timeB x.f6 <;> cases timeB x.f3 <;> rfl)
            | true =>
              by_cases h : x.f3 > x.f4
              · simp only [if_true, if_pos h]
                exact hj0 true (by rw [hab, decide_eq_false (show ¬ x.f3 ≤ x.f4 by omega)]; cases cliB x.f1 <;> cases timeB x.f6 <;> cases timeB x.f3 <;> cases timeB x.f4 <;> rfl)
              · simp only [if_true, if_neg h]
                exact hj0 _ (by rw [hab, hc, h3, h4, decide_eq_true (show x.f3 ≤ x.f4 by omega)]; cases timeB x.f6 <;> rfl)
theorem rcheck_from (l : List S26) (hl : l.length ≤ 140737488351232) (ok : ∀ y ∈ l, okS26 y) : ∀ (r : List S26) (i : Nat) (p : Option S24), l.drop i = r → (i = 0 → p = none) → (∀ j : Nat, i = j + 1 → p = some (rd_T26 l (j : Int)).f0) → Ev (fun k => ddiref38_Check.l0 k l (i : Int)) (chk p r)
  | [], i, p, h, _, _ => by
    have := drop_end h
    exact Ev_shift 1 (f := fun _ => some 0) (fun k => by rw [ddiref38_Check.l0, if_neg (by omega)]) (Ev_const rfl)
  | x :: r, i, p, h, hp0, hp1 => by
    obtain ⟨hi, hx, hr⟩ := rd26 l i x r h
    have hxl : x ∈ l := List.mem_of_mem_drop (i := i) (by rw [h]; exact List.mem_cons_self ..)
    have ih := rcheck_from l hl ok r (i + 1) (some x.f0) hr (fun e => by omega) (fun j e => by
      have : j = i := by omega
      rw [this, hx])
    rw [← next i l.length hi (by omega)] at ih
    unfold chk
    cases had : adB x.f0 with
    | false => exact Ev_shift 1 (f := fun _ => some 3) (fun k => by rw [ddiref38_Check.l0, if_pos (by omega), if_pos (by omega), hx, rad_v, had]; rfl) (Ev_const rfl)
    | true =>
      rw [if_pos rfl]
      have h1 : ∀ b : Bool, b = !upB p x.f0 → Ev (fun k => ddiref38_Check.j1 k l (i : Int) b) (if upB p x.f0 = true then (if one x = 0 then chk (some x.f0) r else one x) else 7) := by
        rintro b rfl
        cases upB p x.f0 with
        | false => exact Ev_shift 1 (f := fun _ => some 7) (fun k => by rw [ddiref38_Check.j1, Bool.not_false, if_pos rfl]) (Ev_const rfl)
        | true =>
          refine Ev_shift 1 (fun k => by rw [ddiref38_Check.j1, Bool.not_true, if_neg Bool.false_ne_true, if_pos (by omega), if_pos (by omega), hx]) ?_
          refine Ev.bind (rone_ev x (ok x hxl)) ?_
          by_cases h0 : one x = 0
          · simp only [if_pos h0, if_true]
            exact ih
          · simp only [if_neg h0, if_true]
            exact Ev_const rfl
      cases i with
      | zero =>
        refine Ev_shift 1 (fun k => by rw [ddiref38_Check.l0, if_pos (by omega), if_pos (by omega), hx, rad_v, had, Option.bind_some, if_pos rfl, if_neg (by omega)]) ?_
        exact h1 false (by rw [hp0 rfl]; rfl)
      | succ j =>
        have hpj := hp1 j rfl
        have hj : (wrap64 (((j + 1 : Nat) : Int) - 1)) = (j : Int) := wsub1 (j + 1) (by omega) (by omega)
        have e0 : (0 : Int) ≤ (j : Int) := by omega
        have e1 : (j : Int) < (l.length : Int) := by omega
        have e2 : ((j + 1 : Nat) : Int) > 0 := by omega
        refine Ev_shift 1 (fun k => by rw [ddiref38_Check.l0, if_pos (by omega), if_pos (by omega), hx, rad_v, had, Option.bind_some, if_pos rfl, if_pos e2, hj, if_pos e0, if_pos e1, rcmp, Option.bind_some]) ?_
        refine h1 _ ?_
        rw [hpj]
        unfold upB
        rw [Bool.eq_iff_iff]
        simp
/-- The check of a table. -/
def chkT (l : List S26) : Int := if l.length > 512 then 9 else chk none l
theorem check_ev (l : List S26) (hl : l.length ≤ 140737488351232) (ok : ∀ y ∈ l, okS26 y) : Ev (fun k => lease_Check.f k l) (chkT l) := by
  unfold lease_Check.f chkT
  by_cases h : l.length > 512
  · simp only [if_pos h, if_pos (show (l.length : Int) > 512 by omega)]
    exact Ev_const rfl
  · simp only [if_neg h, if_neg (show ¬ (l.length : Int) > 512 by omega)]
    exact check_from l hl ok l 0 none rfl (fun _ => rfl) (fun j e => by omega)
theorem rcheck_ev (l : List S26) (hl : l.length ≤ 140737488351232) (ok : ∀ y ∈ l, okS26 y) : Ev (fun k => ddiref38_Check.f k l) (chkT l) := by
  unfold ddiref38_Check.f chkT
  by_cases h : l.length > 512
  · simp only [if_pos h, if_pos (show (l.length : Int) > 512 by omega)]
    exact Ev_const rfl
  · simp only [if_neg h, if_neg (show ¬ (l.length : Int) > 512 by omega)]
    exact rcheck_from l hl ok l 0 none rfl (fun _ => rfl) (fun j e => by omega)
end Go.Proofs.YtikhpegamnnabaaDoor.Ma
namespace Go.Proofs.YtikhpegamnnabaaDoor.Ma
open Go.RowKit Go.Proofs.YtikhpegamnnabaaDoorW.PrintWords Go.Proofs.YtikhpegamnnabaaDoorW.PrintLast Go.Proofs.YtikhpegamnnabaaDoorW.PrintMore Go.Proofs.YtikhpegamnnabaaDoor.XP Go.Proofs.YtikhpegamnnabaaDoor.QA Go.Proofs.YtikhpegamnnabaaDoor.Cm
set_option linter.unusedVariables false
set_option linter.unusedSimpArgs false
def bv (x : Int) (i : Nat) : Int := x / 256 ^ i % 256
def bn : Nat → Int → List Int
  | 0, _ => []
  | n + 1, x => bv x n :: bn n x
theorem bn_len : ∀ (n : Nat) (x : Int), (bn n x).length = n
  | 0, _ => rfl
  | n + 1, x => by simp [bn, bn_len n x]
def U64 (x : Int) : Prop := 0 ≤ x ∧ x < 18446744073709551616
theorem pow_same : ∀ i : Fin 8, (2 : Int) ^ (56 - 8 * i.val) = 256 ^ (7 - i.val) := by decide
theorem bytes_step (x : Int) (y : List Int) (hy : y.length = 8) (i : Nat) (h : i < 8) (k : Nat) : addr_bytes.l0 (k + 1) x y (y.length : Int) (i : Int) = addr_bytes.l0 k x (y.set i (bv x (7 - i))) ((y.set i (bv x (7 - i))).length : Int) ((i + 1 : Nat) : Int) := by
  have w1 : wrap64 (8 * (i : Int)) = ((8 * i : Nat) : Int) := by rw [wrap_id (by omega) (by omega)]; omega
  have w2 : wrap64 (56 - ((8 * i : Nat) : Int)) = ((56 - 8 * i : Nat) : Int) := by rw [wrap_id (by omega) (by omega)]; omega
  have e : shr .u64 x ((56 - 8 * i : Nat) : Int) % 256 = bv x (7 - i) := by
    unfold shr bv
    rw [Int.toNat_natCast, Nat.min_eq_left (show 56 - 8 * i ≤ IntKind.u64.bits by show 56 - 8 * i ≤ 64; omega), pow_same ⟨i, h⟩]
  rw [addr_bytes.l0, if_pos (by omega), w1, w2, if_pos (by omega), if_pos (by omega), if_pos (by omega), e, Int.toNat_natCast, List.length_set, next i 8 h (by omega)]
theorem bytes_ev (x : Int) : Ev (fun k => addr_bytes.f k x) (bn 8 x) := by
  have fin : Ev (fun k => addr_bytes.l0 k x (bn 8 x) ((bn 8 x).length : Int) ((8 : Nat) : Int)) (bn 8 x) :=
    Ev_shift 1 (f := fun _ => some (bn 8 x)) (fun k => by rw [addr_bytes.l0, if_neg (by rw [bn_len]; omega)]) (Ev_const rfl)
  have go : ∀ (i : Nat) (y : List Int), i < 8 → y.length = 8 → Ev (fun k => addr_bytes.l0 k x (y.set i (bv x (7 - i))) ((y.set i (bv x (7 - i))).length : Int) ((i + 1 : Nat) : Int)) (bn 8 x) → Ev (fun k => addr_bytes.l0 k x y (y.length : Int) (i : Int)) (bn 8 x) :=
    fun i y h hy e => Ev_shift 1 (fun k => bytes_step x y hy i h k) e
  unfold addr_bytes.f
  simp only [if_pos (show 8 ≤ 281474976710656 by decide), Option.bind_some]
  refine go 0 _ (by decide) rfl ?_
  refine go 1 _ (by decide) rfl ?_
  refine go 2 _ (by decide) rfl ?_
  refine go 3 _ (by decide) rfl ?_
  refine go 4 _ (by decide) rfl ?_
  refine go 5 _ (by decide) rfl ?_
  refine go 6 _ (by decide) rfl ?_
  refine go 7 _ (by decide) rfl ?_
  exact fin
theorem sn_app (a b : List Int) : strOfNums a ++ strOfNums b = strOfNums (a ++ b) := by
  refine data_inj ?_
  rw [data_app, strOfNums_data, strOfNums_data, strOfNums_data, List.map_append]
/-! ### Wire -/
def wireN (a : S24) : List Int := if a.f0 = true then bn 8 a.f1 ++ bn 8 a.f2 else bn 4 a.f2
theorem wireN_len (a : S24) : (wireN a).length = if a.f0 = true then 16 else 4 := by
  unfold wireN
  split
  · rw [List.length_append, bn_len, bn_len]
  · rw [bn_len]
def wireT (a : S24) : ByteArray × Int := if adB a = true then (strOfNums (wireN a), 0) else ((⟨#[]⟩ : ByteArray), 3)
theorem wire_ev (a : S24) : Ev (fun k => addr_Wire.f k a.f0 a.f1 a.f2) (wireT a) := by
  unfold addr_Wire.f wireT
  simp only [ad_v, Option.bind_some]
  cases h : adB a with
  | false => exact Ev_const rfl
  | true =>
    simp only [if_true]
    unfold wireN
    cases h6 : a.f0 with
    | true =>
      simp only [if_true]
      refine Ev_bind (bytes_ev a.f1) ?_
      refine Ev_bind (bytes_ev a.f2) ?_
      simp only [if_pos (show (strOfNums (bn 8 a.f1)).size + (strOfNums (bn 8 a.f2)).size ≤ 9223372036854775807 by rw [strOfNums_size, strOfNums_size, bn_len, bn_len]; omega), sn_app]
      exact Ev_const rfl
    | false =>
      simp only [Bool.false_eq_true, if_false]
      refine Ev_bind (bytes_ev a.f2) ?_
      simp only [if_pos (show (4 : Int) ≤ ((bn 8 a.f2).length : Int) by rw [bn_len]; omega)]
      exact Ev_const rfl
/-! ### parts of a lease -/
def tx (s : ByteArray) : ByteArray := strOfNums [(s.size : Int) % 256] ++ s
theorem tx_size (s : ByteArray) : (tx s).size = s.size + 1 := by
  unfold tx
  rw [ByteArray.size_append, strOfNums_size]
  simp
  omega
theorem text_v (s : ByteArray) (hs : s.size ≤ 140737488351232) : leasefile_text.f s = some (tx s) := by
  unfold leasefile_text.f tx
  rw [Option.bind_some, if_pos (by rw [strOfNums_size]; simp; omega)]
theorem four_v (x : Int) : leasefile_four.f x = some (strOfNums (bn 4 x)) := by
  unfold leasefile_four.f
  have e : bn 4 x = [x / 16777216 % 256, x / 65536 % 256, x / 256 % 256, x % 256] := by
    show [x / 256 ^ 3 % 256, x / 256 ^ 2 % 256, x / 256 ^ 1 % 256, x / 256 ^ 0 % 256] = _
    rw [show (256 : Int) ^ 3 = 16777216 from rfl, show (256 : Int) ^ 2 = 65536 from rfl, show (256 : Int) ^ 1 = 256 from rfl, show (256 : Int) ^ 0 = 1 from rfl, Int.ediv_one]
  rw [e]
def mayB (x : S26) : Bool := chkT [x] == 0
theorem may_of {x : S26} (h : mayB x = true) : adB x.f0 = true ∧ argB x = true ∧ hostB x.f5 = true := by
  have h : chk none [x] = 0 := beq_iff_eq.1 h
  unfold chk at h
  cases ha : adB x.f0 with
  | false => rw [ha, if_neg Bool.false_ne_true] at h; cases h
  | true =>
    rw [ha, if_pos rfl] at h
    have h1 : one x = 0 := by
      split at h
      · split at h
        · assumption
        · assumption
      · cases h
    rw [one_true x ha] at h1
    split at h1
    · rename_i g1
      split at h1
      · rename_i g2; exact ⟨rfl, g1, g2⟩
      · cases h1
    · cases h1
theorem may_ev (x : S26) (hx : okS26 x) : Ev (fun k => leasefile_may.f k x.f0.f0 x.f0.f1 x.f0.f2 x.f1 x.f2 x.f3 x.f4 x.f5 x.f6) (mayB x) := by
  unfold leasefile_may.f
  exact Ev_bind (check_ev [x] (by simp) (fun y hy => by rw [List.mem_singleton.1 hy]; exact hx)) (Ev_const rfl)
/-! ### a lease's bytes -/
def encB (x : S26) : ByteArray := (((((tx (strOfNums (wireN x.f0)) ++ strOfNums [x.f2 % 256]) ++ strOfNums (bn 4 x.f3)) ++ strOfNums (bn 4 x.f4)) ++ strOfNums (bn 4 x.f6)) ++ tx x.f1) ++ tx x.f5
def encT (x : S26) : ByteArray × Int := if mayB x = true then (encB x, 0) else ((⟨#[]⟩ : ByteArray), 1)
theorem wire_size (a : S24) : (strOfNums (wireN a)).size ≤ 16 := by
  rw [strOfNums_size, wireN_len]
  split <;> omega
theorem enc_ev (x : S26) (hx : okS26 x) : Ev (fun k => leasefile_Encode.f k x.f0.f0 x.f0.f1 x.f0.f2 x.f1 x.f2 x.f3 x.f4 x.f5 x.f6) (encT x) := by
  have z1 := hx.2.1
  have z5 := hx.2.2.2.2.2.1
  have hw := wire_size x.f0
  have hw2 := hw
  rw [strOfNums_size] at hw2
  unfold leasefile_Encode.f encT
  refine Ev_bind (may_ev x hx) ?_
  cases hm : mayB x with
  | false => exact Ev_const rfl
  | true =>
    obtain ⟨ha, _, _⟩ := may_of hm
    have e := wire_ev x.f0
    unfold wireT at e
    rw [if_pos ha] at e
    simp only [if_true]
    refine Ev_bind e ?_
    simp only [if_true, text_v (strOfNums (wireN x.f0)) (by omega), text_v x.f1 z1, text_v x.f5 z5, four_v, Option.bind_some, ByteArray.size_append, tx_size, strOfNums_size, bn_len, List.length_cons, List.length_nil]
    rw [if_pos (by omega), if_pos (by omega), if_pos (by omega), if_pos (by omega), if_pos (by omega), if_pos (by omega)]
    exact Ev_const rfl
end Go.Proofs.YtikhpegamnnabaaDoor.Ma
namespace Go.Proofs.YtikhpegamnnabaaDoor.Ma
open Go.RowKit Go.Proofs.YtikhpegamnnabaaDoorW.PrintWords Go.Proofs.YtikhpegamnnabaaDoorW.PrintLast Go.Proofs.YtikhpegamnnabaaDoorW.PrintMore Go.Proofs.YtikhpegamnnabaaDoor.XP Go.Proofs.YtikhpegamnnabaaDoor.QA Go.Proofs.YtikhpegamnnabaaDoor.Cm
set_option linter.unusedVariables false
set_option linter.unusedSimpArgs false
theorem awake_k : ddilaw45_awake.f 400 = some true := by decide +kernel
theorem awake_ev : Ev (fun k => ddilaw45_awake.f k) true := ⟨400, fun k hk => at_rounds (g := fun k => ddilaw45_awake.f k) ddilaw45_awake.mono hk awake_k⟩
/-! ### Put -/
def fa (x : S26) : List S26 → List S26 × List S26
  | [] => ([], [])
  | y :: r => if cmp y.f0 x.f0 = 0 then ([], r) else (if cmp y.f0 x.f0 > 0 then ([], y :: r) else (y :: (fa x r).1, (fa x r).2))
/-! ### the law -/
end Go.Proofs.YtikhpegamnnabaaDoor.Ma
namespace Go.Proofs.YtikhpegamnnabaaDoor.Ma
open Go.RowKit Go.Proofs.YtikhpegamnnabaaDoorW.PrintWords Go.Proofs.YtikhpegamnnabaaDoorW.PrintLast Go.Proofs.YtikhpegamnnabaaDoorW.PrintMore Go.Proofs.YtikhpegamnnabaaDoor.XP Go.Proofs.YtikhpegamnnabaaDoor.QA Go.Proofs.YtikhpegamnnabaaDoor.Cm
set_option linter.unusedVariables false
set_option linter.unusedSimpArgs false
/-! ### the reader -/
def takeV (s : ByteArray) (sh : Bool) (n : Nat) : ByteArray × ByteArray × Bool := if (sh || decide (s.size < n)) = true then ((⟨#[]⟩ : ByteArray), s, true) else (s.extract 0 n, s.extract n s.size, sh)
theorem take_ev (s : ByteArray) (sh : Bool) (n : Nat) : Ev (fun k => leasefile_reader_take.f k s sh (n : Int)) (takeV s sh n) := by
  have hj : ∀ b : Bool, (b = false → n ≤ s.size) → Ev (fun k => leasefile_reader_take.j0 k (n : Int) b s sh) (if b = true then ((⟨#[]⟩ : ByteArray), s, true) else (s.extract 0 n, s.extract n s.size, sh)) := by
    intro b hb
    cases b with
    | true => exact Ev_shift 1 (f := fun _ => some ((⟨#[]⟩ : ByteArray), s, true)) (fun k => by rw [leasefile_reader_take.j0, if_pos rfl]) (Ev_const rfl)
    | false =>
      have := hb rfl
      exact Ev_shift 1 (f := fun _ => some (s.extract 0 n, s.extract n s.size, sh)) (fun k => by rw [leasefile_reader_take.j0, if_neg Bool.false_ne_true, if_pos (by omega), if_pos (by omega), Int.toNat_natCast]) (Ev_const rfl)
  unfold leasefile_reader_take.f takeV
  cases sh with
  | true =>
    simp only [if_true, Bool.true_or]
    exact hj true (fun h => by cases h)
  | false =>
    simp only [Bool.false_eq_true, if_false, Bool.false_or]
    by_cases h : s.size < n
    · rw [decide_eq_true (show ((s.size : Nat) : Int) < (n : Int) by omega), decide_eq_true h]
      exact hj true (fun h => by cases h)
    · rw [decide_eq_false (show ¬ ((s.size : Nat) : Int) < (n : Int) by omega), decide_eq_false h]
      exact hj false (fun _ => by omega)
def valF (a : Nat) : List UInt8 → Nat
  | [] => a
  | c :: r => valF (a * 256 + c.toNat) r
theorem or_nat (a c : Nat) (hc : c < 256) : a * 256 ||| c = a * 256 + c := by
  have := Nat.two_pow_add_eq_or_of_lt (i := 8) (b := c) (by simpa using hc) a
  rw [Nat.mul_comm a 256]
  exact this.symm
theorem or_i64 (a c : Nat) (hc : c < 256) (h : a * 256 + c < 9223372036854775808) : Go.bits .or .i64 ((a * 256 : Nat) : Int) (c : Int) = ((a * 256 + c : Nat) : Int) := by
  have e := or_nat a c hc
  have b1 : a * 256 < 18446744073709551616 := Nat.lt_of_le_of_lt (Nat.le_add_right _ c) (Nat.lt_trans h (by decide))
  have b2 : c < 18446744073709551616 := Nat.lt_trans hc (by decide)
  generalize a * 256 = A at *
  have hv : ((BitVec.ofInt 64 (A : Int) ||| BitVec.ofInt 64 (c : Int)).toNat : Int) = ((A + c : Nat) : Int) := by
    rw [BitVec.ofInt_natCast, BitVec.ofInt_natCast, BitVec.toNat_or, BitVec.toNat_ofNat, BitVec.toNat_ofNat, Nat.mod_eq_of_lt b1, Nat.mod_eq_of_lt b2, e]
  show IntKind.i64.wrap ((BitVec.ofInt 64 (A : Int) ||| BitVec.ofInt 64 (c : Int)).toNat : Int) = _
  rw [hv]
  clear hv e
  generalize A + c = v at *
  rw [IntKind.wrap_i64, Int.emod_eq_of_lt (by omega) (by omega)]
  omega
theorem num_from (t : ByteArray) (ht : t.size ≤ 4) (s : ByteArray) (sh : Bool) : ∀ (r : List UInt8) (i a : Nat), t.data.toList.drop i = r → a < 256 ^ i → i ≤ 4 → Ev (fun k => leasefile_reader_number.l0 k (a : Int) (bytesOf t) (t.size : Int) (i : Int) s sh) (((valF a r : Nat) : Int), s, sh)
  | [], i, a, h, _, _ => by
    have := size_end t i h
    exact Ev_shift 1 (f := fun _ => some ((a : Int), s, sh)) (fun k => by rw [leasefile_reader_number.l0, if_neg (by omega)]) (Ev_const rfl)
  | c :: r, i, a, h, ha, hi4 => by
    obtain ⟨hi, hb, hr⟩ := bt_at_drop t i c r h
    have hc := c.toNat_lt
    have hp : 256 ^ i ≤ 256 ^ 3 := Nat.pow_le_pow_right (by decide) (by omega)
    have hp3 : (256 : Nat) ^ 3 = 16777216 := rfl
    have ha2 : a * 256 + c.toNat < 256 ^ (i + 1) := by
      rw [Nat.pow_succ]
      have : (a + 1) * 256 ≤ 256 ^ i * 256 := Nat.mul_le_mul_right _ ha
      omega
    have ih := num_from t ht s sh r (i + 1) (a * 256 + c.toNat) hr ha2 (by omega)
    have hlen : (bytesOf t).length = t.size := by rw [bytesOf, List.length_map]; exact (size_data t).symm
    have hrd : rd (bytesOf t) (i : Int) = (c.toNat : Int) := by
      have hil : i < t.data.toList.length := by rw [← size_data]; exact hi
      have e : t.data.toList[i] = c := (drop_at h).2.1
      unfold rd bytesOf
      rw [Int.toNat_natCast, List.getD_eq_getElem?_getD, List.getElem?_eq_getElem (by rw [List.length_map]; exact hil), List.getElem_map, e]
      rfl
    have w1 : wrap64 ((a : Int) * 256) = ((a * 256 : Nat) : Int) := by rw [wrap_id (by omega) (by omega)]; omega
    have w2 : wrap64 (c.toNat : Int) = (c.toNat : Int) := wrap_id (by omega) (by omega)
    refine Ev_shift 1 (fun k => ?_) ih
    rw [leasefile_reader_number.l0, if_pos (by omega), if_pos (by omega), if_pos (by omega), hrd, w1, w2, or_i64 a c.toNat hc (by omega), next i t.size hi (by omega)]
def numV (s : ByteArray) (sh : Bool) (n : Nat) : Int × ByteArray × Bool := (((valF 0 (takeV s sh n).1.data.toList : Nat) : Int), (takeV s sh n).2.1, (takeV s sh n).2.2)
theorem take_size (s : ByteArray) (sh : Bool) (n : Nat) : (takeV s sh n).1.size ≤ n := by
  unfold takeV
  split
  · exact Nat.zero_le _
  · show (s.extract 0 n).size ≤ n
    rw [ByteArray.size_extract]
    omega
theorem num_ev (s : ByteArray) (sh : Bool) (n : Nat) (hn : n ≤ 4) : Ev (fun k => leasefile_reader_number.f k s sh (n : Int)) (numV s sh n) := by
  have hz := take_size s sh n
  unfold leasefile_reader_number.f
  refine Ev_bind (take_ev s sh n) ?_
  have hc : conv_bytes_53.f (takeV s sh n).1 = some (bytesOf (takeV s sh n).1) := by
    unfold conv_bytes_53.f XC.conv
    rw [if_pos (by omega)]
  have hlen : (bytesOf (takeV s sh n).1).length = (takeV s sh n).1.size := by rw [bytesOf, List.length_map]; exact (size_data _).symm
  simp only [hc, Option.bind_some, hlen]
  exact num_from (takeV s sh n).1 (by omega) _ _ _ 0 0 rfl (by decide) (by decide)
def textV (s : ByteArray) (sh : Bool) : ByteArray × ByteArray × Bool := takeV (numV s sh 1).2.1 (numV s sh 1).2.2 (numV s sh 1).1.toNat
theorem text_ev (s : ByteArray) (sh : Bool) : Ev (fun k => leasefile_reader_text.f k s sh) (textV s sh) := by
  unfold leasefile_reader_text.f
  refine Ev_bind (num_ev s sh 1 (by decide)) ?_
  have h0 : (numV s sh 1).1 = (((numV s sh 1).1.toNat : Nat) : Int) := rfl
  show Ev (fun k => (leasefile_reader_take.f k (numV s sh 1).2.1 (numV s sh 1).2.2 (numV s sh 1).1).bind _) _
  rw [h0]
  exact Ev_bind (take_ev _ _ _) (Ev_const rfl)
/-! ### what was written is read -/
theorem take_app (A B : ByteArray) : takeV (A ++ B) false A.size = (A, B, false) := by
  unfold takeV
  have e1 : (A ++ B).extract 0 A.size = A := by
    refine data_inj ?_
    rw [data_ext, data_app, Nat.sub_zero, List.drop_zero, size_data, List.take_left]
  have e2 : (A ++ B).extract A.size (A ++ B).size = B := by
    refine data_inj ?_
    rw [data_ext, ByteArray.size_append, data_app, size_data A, List.drop_left, Nat.add_sub_cancel_left, size_data B, List.take_length]
  rw [if_neg (by simp [ByteArray.size_append]), e1, e2]
theorem valF_app : ∀ (l : List UInt8) (a : Nat), valF a l = a * 256 ^ l.length + valF 0 l
  | [], a => by simp [valF]
  | c :: r, a => by
    unfold valF
    rw [valF_app r (a * 256 + c.toNat), valF_app r (0 * 256 + c.toNat), List.length_cons, Nat.pow_succ, Nat.add_mul, Nat.zero_mul, Nat.zero_add, Nat.mul_assoc, Nat.mul_comm 256, Nat.add_assoc]
theorem val_bn (x : Int) (hx : 0 ≤ x) : ∀ n : Nat, ((valF 0 ((bn n x).map fun n => UInt8.ofNat n.toNat) : Nat) : Int) = x % 256 ^ n
  | 0 => by simp [valF, bn]
  | n + 1 => by
    have ih := val_bn x hx n
    have hl : ((bn n x).map fun n => UInt8.ofNat n.toNat).length = n := by rw [List.length_map, bn_len]
    have hb : 0 ≤ bv x n ∧ bv x n < 256 := by unfold bv; omega
    have hu : (UInt8.ofNat (bv x n).toNat).toNat = (bv x n).toNat := by rw [UInt8.toNat_ofNat']; omega
    unfold bn
    rw [List.map_cons]
    unfold valF
    rw [valF_app, hl, hu, Nat.zero_mul, Nat.zero_add, Int.natCast_add, ih, Int.natCast_mul, Int.toNat_of_nonneg hb.1, Int.natCast_pow]
    have e := Int.emod_add_mul_ediv x (256 ^ n)
    have e2 : x % 256 ^ (n + 1) = x % 256 ^ n + 256 ^ n * (x / 256 ^ n % 256) := by
      have hp : (0 : Int) < 256 ^ n := Int.pow_pos (by decide)
      have d1 := Int.emod_add_mul_ediv x (256 ^ n)
      have d2 := Int.emod_add_mul_ediv (x / 256 ^ n) 256
      have m1 := Int.emod_nonneg x (show (256 : Int) ^ n ≠ 0 by omega)
      have m2 := Int.emod_lt_of_pos x hp
      have m3 := Int.emod_nonneg (x / 256 ^ n) (show (256 : Int) ≠ 0 by decide)
      have m4 := Int.emod_lt_of_pos (x / 256 ^ n) (show (0 : Int) < 256 by decide)
      have hq : x = (x % 256 ^ n + 256 ^ n * (x / 256 ^ n % 256)) + 256 ^ (n + 1) * (x / 256 ^ n / 256) := by
        rw [Int.pow_succ, Int.mul_assoc, Int.add_assoc, ← Int.mul_add, d2]
        exact d1.symm
      have hlt : x % 256 ^ n + 256 ^ n * (x / 256 ^ n % 256) < 256 ^ (n + 1) := by
        have : 256 ^ n * (x / 256 ^ n % 256) ≤ 256 ^ n * 255 := Int.mul_le_mul_of_nonneg_left (by omega) (by omega)
        rw [Int.pow_succ]
        omega
      have hge : 0 ≤ x % 256 ^ n + 256 ^ n * (x / 256 ^ n % 256) := Int.add_nonneg m1 (Int.mul_nonneg (by omega) m3)
      conv => lhs; rw [hq]
      rw [Int.add_mul_emod_self_left, Int.emod_eq_of_lt hge hlt]
    rw [e2]
    show bv x n * 256 ^ n + _ = _
    unfold bv
    rw [Int.mul_comm, Int.add_comm]
end Go.Proofs.YtikhpegamnnabaaDoor.Ma
namespace Go.Proofs.YtikhpegamnnabaaDoor.Ma
open Go.RowKit Go.Proofs.YtikhpegamnnabaaDoorW.PrintWords Go.Proofs.YtikhpegamnnabaaDoorW.PrintLast Go.Proofs.YtikhpegamnnabaaDoorW.PrintMore Go.Proofs.YtikhpegamnnabaaDoor.XP Go.Proofs.YtikhpegamnnabaaDoor.QA Go.Proofs.YtikhpegamnnabaaDoor.Cm
set_option linter.unusedVariables false
set_option linter.unusedSimpArgs false
theorem bn_one (v : Int) : bn 1 v = [v % 256] := by
  show [v / 256 ^ 0 % 256] = _
  rw [show (256 : Int) ^ 0 = 1 from rfl, Int.ediv_one]
theorem take_bn (n : Nat) (x : Int) (B : ByteArray) : takeV (strOfNums (bn n x) ++ B) false n = (strOfNums (bn n x), B, false) := by
  have h := take_app (strOfNums (bn n x)) B
  rw [strOfNums_size, bn_len] at h
  exact h
theorem num_app (n : Nat) (x : Int) (h0 : 0 ≤ x) (h1 : x < 256 ^ n) (B : ByteArray) : numV (strOfNums (bn n x) ++ B) false n = (x, B, false) := by
  unfold numV
  rw [take_bn]
  simp only [strOfNums_data]
  rw [val_bn x h0 n, Int.emod_eq_of_lt h0 h1]
theorem tx_bn (s : ByteArray) : tx s = strOfNums (bn 1 (s.size : Int)) ++ s := by
  unfold tx
  rw [bn_one]
/-! ### addresses -/
theorem or_u64 (a c : Nat) (hc : c < 256) (h : a * 256 + c < 18446744073709551616) : Go.bits .or .u64 ((a * 256 : Nat) : Int) (c : Int) = ((a * 256 + c : Nat) : Int) := by
  have e := or_nat a c hc
  have b1 : a * 256 < 18446744073709551616 := Nat.lt_of_le_of_lt (Nat.le_add_right _ c) h
  have b2 : c < 18446744073709551616 := Nat.lt_trans hc (by decide)
  generalize a * 256 = A at *
  have hv : ((BitVec.ofInt 64 (A : Int) ||| BitVec.ofInt 64 (c : Int)).toNat : Int) = ((A + c : Nat) : Int) := by
    rw [BitVec.ofInt_natCast, BitVec.ofInt_natCast, BitVec.toNat_or, BitVec.toNat_ofNat, BitVec.toNat_ofNat, Nat.mod_eq_of_lt b1, Nat.mod_eq_of_lt b2, e]
  show IntKind.u64.wrap ((BitVec.ofInt 64 (A : Int) ||| BitVec.ofInt 64 (c : Int)).toNat : Int) = _
  rw [hv]
  clear hv e
  generalize A + c = v at *
  rw [IntKind.wrap_u64, Int.emod_eq_of_lt (by omega) (by omega)]
theorem value_from (t : ByteArray) (ht : t.size ≤ 8) : ∀ (r : List UInt8) (i a : Nat), t.data.toList.drop i = r → a < 256 ^ i → i ≤ 8 → Ev (fun k => addr_value.l0 k t (a : Int) (t.size : Int) (i : Int)) ((valF a r : Nat) : Int)
  | [], i, a, h, _, _ => by
    have := size_end t i h
    exact Ev_shift 1 (f := fun _ => some (a : Int)) (fun k => by rw [addr_value.l0, if_neg (by omega)]) (Ev_const rfl)
  | c :: r, i, a, h, ha, hi8 => by
    obtain ⟨hi, hb, hr⟩ := bt_at_drop t i c r h
    have hc := c.toNat_lt
    have hp : 256 ^ i ≤ 256 ^ 7 := Nat.pow_le_pow_right (by decide) (by omega)
    have hp3 : (256 : Nat) ^ 7 = 72057594037927936 := rfl
    have ha2 : a * 256 + c.toNat < 256 ^ (i + 1) := by
      rw [Nat.pow_succ]
      have : (a + 1) * 256 ≤ 256 ^ i * 256 := Nat.mul_le_mul_right _ ha
      omega
    have ih := value_from t ht r (i + 1) (a * 256 + c.toNat) hr ha2 (by omega)
    have w1 : IntKind.u64.wrap ((a : Int) * 256) = ((a * 256 : Nat) : Int) := by rw [IntKind.wrap_u64]; omega
    have w2 : IntKind.u64.wrap (c.toNat : Int) = (c.toNat : Int) := by rw [IntKind.wrap_u64]; omega
    refine Ev_shift 1 (fun k => ?_) ih
    rw [addr_value.l0, if_pos (by omega), if_pos (by omega), if_pos (by omega), hb, w1, w2, or_u64 a c.toNat hc (by omega), next i t.size hi (by omega)]
theorem value_ev (t : ByteArray) (ht : t.size ≤ 8) : Ev (fun k => addr_value.f k t) ((valF 0 t.data.toList : Nat) : Int) := by
  unfold addr_value.f
  exact value_from t ht t.data.toList 0 0 rfl (by decide) (by decide)
theorem value_bn (n : Nat) (hn : n ≤ 8) (x : Int) (h0 : 0 ≤ x) (h1 : x < 256 ^ n) : Ev (fun k => addr_value.f k (strOfNums (bn n x))) x := by
  have h := value_ev (strOfNums (bn n x)) (by rw [strOfNums_size, bn_len]; exact hn)
  rw [strOfNums_data, val_bn x h0 n, Int.emod_eq_of_lt h0 h1] at h
  exact h
/-! ### leases -/
theorem enc_parts (x : S26) : encB x = tx (strOfNums (wireN x.f0)) ++ (strOfNums (bn 1 x.f2) ++ (strOfNums (bn 4 x.f3) ++ (strOfNums (bn 4 x.f4) ++ (strOfNums (bn 4 x.f6) ++ (tx x.f1 ++ (tx x.f5 ++ (⟨#[]⟩ : ByteArray))))))) := by
  unfold encB
  rw [bn_one]
  refine data_inj ?_
  simp only [data_app, List.append_assoc]
  show _ = _ ++ (_ ++ (_ ++ (_ ++ (_ ++ (_ ++ (_ ++ []))))))
  rw [List.append_nil]
end Go.Proofs.YtikhpegamnnabaaDoor.Ma
namespace Go.Proofs.YtikhpegamnnabaaDoor.Ma
open Go.RowKit Go.Proofs.YtikhpegamnnabaaDoorW.PrintWords Go.Proofs.YtikhpegamnnabaaDoorW.PrintLast Go.Proofs.YtikhpegamnnabaaDoorW.PrintMore Go.Proofs.YtikhpegamnnabaaDoor.XP Go.Proofs.YtikhpegamnnabaaDoor.QA Go.Proofs.YtikhpegamnnabaaDoor.Cm
set_option linter.unusedVariables false
set_option linter.unusedSimpArgs false
theorem split_at (R : ByteArray) (n : Nat) (h : n ≤ R.size) : ∃ A B : ByteArray, A.size = n ∧ R = A ++ B := by
  refine ⟨R.extract 0 n, R.extract n R.size, ?_, data_inj ?_⟩
  · rw [ByteArray.size_extract]; omega
  · rw [data_app, data_ext, data_ext, Nat.sub_zero, List.drop_zero, size_data, ← List.length_drop, List.take_length, List.take_append_drop]
theorem val_lt : ∀ (l : List UInt8), valF 0 l < 256 ^ l.length
  | [] => by simp [valF]
  | c :: r => by
    have ih := val_lt r
    have hc := c.toNat_lt
    have e1 : valF 0 (c :: r) = valF (0 * 256 + c.toNat) r := rfl
    rw [e1, valF_app, List.length_cons, Nat.pow_succ, Nat.zero_mul, Nat.zero_add]
    have : c.toNat * 256 ^ r.length ≤ 255 * 256 ^ r.length := Nat.mul_le_mul_right _ (by omega)
    omega
theorem bn_val : ∀ (l : List UInt8), (bn l.length ((valF 0 l : Nat) : Int)).map (fun n => UInt8.ofNat n.toNat) = l
  | [] => rfl
  | c :: r => by
    have ih := bn_val r
    have hc := c.toNat_lt
    have hl := val_lt r
    have hv : valF 0 (c :: r) = c.toNat * 256 ^ r.length + valF 0 r := by
      have e1 : valF 0 (c :: r) = valF (0 * 256 + c.toNat) r := rfl
      rw [e1, valF_app, Nat.zero_mul, Nat.zero_add]
    have hp : 0 < 256 ^ r.length := Nat.pow_pos (by decide)
    have low : ∀ n, n ≤ r.length → bn n ((valF 0 (c :: r) : Nat) : Int) = bn n ((valF 0 r : Nat) : Int) := by
      intro n
      induction n with
      | zero => exact fun _ => rfl
      | succ n ih2 =>
        intro hn
        unfold bn
        rw [ih2 (by omega)]
        congr 1
        unfold bv
        have e : ((256 : Int) ^ n) = ((256 ^ n : Nat) : Int) := by rw [Int.natCast_pow]; rfl
        rw [e, ← Int.natCast_ediv, ← Int.natCast_ediv]
        have hs : 256 ^ r.length = 256 ^ n * 256 * 256 ^ (r.length - n - 1) := by
          rw [← Nat.pow_succ, ← Nat.pow_add]
          congr 1
          omega
        rw [hv, hs, show c.toNat * (256 ^ n * 256 * 256 ^ (r.length - n - 1)) + valF 0 r = valF 0 r + 256 ^ n * (256 * (c.toNat * 256 ^ (r.length - n - 1))) by
          rw [Nat.add_comm]
          congr 1
          ac_rfl, Nat.add_mul_div_left _ _ (Nat.pow_pos (by decide))]
        omega
    rw [List.length_cons]
    unfold bn
    rw [low r.length (Nat.le_refl _), List.map_cons, ih]
    congr 1
    unfold bv
    have e : ((256 : Int) ^ r.length) = ((256 ^ r.length : Nat) : Int) := by rw [Int.natCast_pow]; rfl
    rw [e, ← Int.natCast_ediv, hv, Nat.add_comm, Nat.add_mul_div_right _ _ hp, Nat.div_eq_of_lt hl, Nat.zero_add]
    apply UInt8.toNat_inj.1
    rw [UInt8.toNat_ofNat']
    omega
theorem split_bn (R : ByteArray) (n : Nat) (h : n ≤ R.size) : ∃ (v : Int) (B : ByteArray), 0 ≤ v ∧ v < 256 ^ n ∧ R = strOfNums (bn n v) ++ B := by
  obtain ⟨A, B, hA, rfl⟩ := split_at R n h
  have hl : A.data.toList.length = n := by rw [← size_data]; exact hA
  refine ⟨((valF 0 A.data.toList : Nat) : Int), B, Int.natCast_nonneg _, ?_, ?_⟩
  · have := val_lt A.data.toList
    rw [hl] at this
    have e : ((256 : Int) ^ n) = ((256 ^ n : Nat) : Int) := by rw [Int.natCast_pow]; rfl
    rw [e]
    exact_mod_cast this
  · congr 1
    refine data_inj ?_
    rw [strOfNums_data, ← hl]
    exact (bn_val _).symm
/-! ### once short, always short -/
theorem take_short (s : ByteArray) (n : Nat) : takeV s true n = ((⟨#[]⟩ : ByteArray), s, true) := by
  unfold takeV
  rw [Bool.true_or, if_pos rfl]
theorem take_few (s : ByteArray) (n : Nat) (h : s.size < n) : takeV s false n = ((⟨#[]⟩ : ByteArray), s, true) := by
  unfold takeV
  rw [decide_eq_true h, Bool.or_true, if_pos rfl]
theorem num_short (s : ByteArray) (n : Nat) : numV s true n = (0, s, true) := by
  unfold numV
  rw [take_short]
  rfl
theorem num_few (s : ByteArray) (n : Nat) (h : s.size < n) : numV s false n = (0, s, true) := by
  unfold numV
  rw [take_few s n h]
  rfl
theorem text_short (s : ByteArray) : textV s true = ((⟨#[]⟩ : ByteArray), s, true) := by
  unfold textV
  rw [num_short, take_short]
theorem text_few (s : ByteArray) (h : s.size < 1) : textV s false = ((⟨#[]⟩ : ByteArray), s, true) := by
  unfold textV
  rw [num_few s 1 h, take_short]
theorem text_len (v : Int) (B : ByteArray) (h0 : 0 ≤ v) (h1 : v < 256) : textV (strOfNums (bn 1 v) ++ B) false = takeV B false v.toNat := by
  unfold textV
  rw [num_app 1 v h0 (by rw [show (256 : Int) ^ 1 = 256 from rfl]; exact h1)]
end Go.Proofs.YtikhpegamnnabaaDoor.Ma
namespace Go.Proofs.YtikhpegamnnabaaDoor.Ma
open Go.RowKit Go.Proofs.YtikhpegamnnabaaDoorW.PrintWords Go.Proofs.YtikhpegamnnabaaDoorW.PrintLast Go.Proofs.YtikhpegamnnabaaDoorW.PrintMore Go.Proofs.YtikhpegamnnabaaDoor.XP Go.Proofs.YtikhpegamnnabaaDoor.QA Go.Proofs.YtikhpegamnnabaaDoor.Cm
set_option linter.unusedVariables false
set_option linter.unusedSimpArgs false
abbrev Dt := Bool × Int × Int × ByteArray × Int × Int × Int × ByteArray × Int × Int
def eT (n : Int) : Dt := (false, 0, 0, (⟨#[]⟩ : ByteArray), 0, 0, 0, (⟨#[]⟩ : ByteArray), 0, n)
def P7 (k : Nat) (a : ByteArray) (st f3 f4 f6 : Int) (cl s : ByteArray) (sh : Bool) : Option Dt := (leasefile_reader_text.f k s sh).bind fun b7 => leasefile_Decode.j1 k a st f3 f4 f6 cl b7.1 b7.2.1 b7.2.2
def P6 (k : Nat) (a : ByteArray) (st f3 f4 f6 : Int) (s : ByteArray) (sh : Bool) : Option Dt := (leasefile_reader_text.f k s sh).bind fun b6 => P7 k a st f3 f4 f6 b6.1 b6.2.1 b6.2.2
def P5 (k : Nat) (a : ByteArray) (st f3 f4 : Int) (s : ByteArray) (sh : Bool) : Option Dt := (leasefile_reader_number.f k s sh 4).bind fun b5 => P6 k a st f3 f4 b5.1 b5.2.1 b5.2.2
def P4 (k : Nat) (a : ByteArray) (st f3 : Int) (s : ByteArray) (sh : Bool) : Option Dt := (leasefile_reader_number.f k s sh 4).bind fun b4 => P5 k a st f3 b4.1 b4.2.1 b4.2.2
def P3 (k : Nat) (a : ByteArray) (st : Int) (s : ByteArray) (sh : Bool) : Option Dt := (leasefile_reader_number.f k s sh 4).bind fun b3 => P4 k a st b3.1 b3.2.1 b3.2.2
def P2 (k : Nat) (a s : ByteArray) (sh : Bool) : Option Dt := (leasefile_reader_number.f k s sh 1).bind fun b2 => P3 k a b2.1 b2.2.1 b2.2.2
theorem j0_parts (k : Nat) (s : ByteArray) : leasefile_Decode.j0 k s = (leasefile_reader_text.f k s false).bind fun b1 => P2 k b1.1 b1.2.1 b1.2.2 := rfl
theorem short1 (a : ByteArray) (st f3 f4 f6 : Int) (cl h s : ByteArray) : Ev (fun k => leasefile_Decode.j1 k a st f3 f4 f6 cl h s true) (eT 6) := by
  unfold leasefile_Decode.j1
  simp only [if_true]
  exact Ev_const rfl
theorem short7 (a : ByteArray) (st f3 f4 f6 : Int) (cl s : ByteArray) : Ev (fun k => P7 k a st f3 f4 f6 cl s true) (eT 6) := by
  unfold P7
  refine Ev_bind (text_ev s true) ?_
  rw [text_short]
  exact short1 _ _ _ _ _ _ _ _
theorem short6 (a : ByteArray) (st f3 f4 f6 : Int) (s : ByteArray) : Ev (fun k => P6 k a st f3 f4 f6 s true) (eT 6) := by
  unfold P6
  refine Ev_bind (text_ev s true) ?_
  rw [text_short]
  exact short7 _ _ _ _ _ _ _
theorem short5 (a : ByteArray) (st f3 f4 : Int) (s : ByteArray) : Ev (fun k => P5 k a st f3 f4 s true) (eT 6) := by
  unfold P5
  refine Ev_bind (num_ev s true 4 (by decide)) ?_
  rw [num_short]
  exact short6 _ _ _ _ _ _
theorem short4 (a : ByteArray) (st f3 : Int) (s : ByteArray) : Ev (fun k => P4 k a st f3 s true) (eT 6) := by
  unfold P4
  refine Ev_bind (num_ev s true 4 (by decide)) ?_
  rw [num_short]
  exact short5 _ _ _ _ _
theorem short3 (a : ByteArray) (st : Int) (s : ByteArray) : Ev (fun k => P3 k a st s true) (eT 6) := by
  unfold P3
  refine Ev_bind (num_ev s true 4 (by decide)) ?_
  rw [num_short]
  exact short4 _ _ _ _
theorem short2 (a s : ByteArray) : Ev (fun k => P2 k a s true) (eT 6) := by
  unfold P2
  refine Ev_bind (num_ev s true 1 (by decide)) ?_
  rw [num_short]
  exact short3 _ _ _
/-! what is there goes on, what is not is short -/
theorem few2 (a s : ByteArray) (h : s.size < 1) : Ev (fun k => P2 k a s false) (eT 6) := by
  unfold P2
  refine Ev_bind (num_ev s false 1 (by decide)) ?_
  rw [num_few s 1 h]
  exact short3 _ _ _
theorem few3 (a : ByteArray) (st : Int) (s : ByteArray) (h : s.size < 4) : Ev (fun k => P3 k a st s false) (eT 6) := by
  unfold P3
  refine Ev_bind (num_ev s false 4 (by decide)) ?_
  rw [num_few s 4 h]
  exact short4 _ _ _ _
theorem few4 (a : ByteArray) (st f3 : Int) (s : ByteArray) (h : s.size < 4) : Ev (fun k => P4 k a st f3 s false) (eT 6) := by
  unfold P4
  refine Ev_bind (num_ev s false 4 (by decide)) ?_
  rw [num_few s 4 h]
  exact short5 _ _ _ _ _
theorem few5 (a : ByteArray) (st f3 f4 : Int) (s : ByteArray) (h : s.size < 4) : Ev (fun k => P5 k a st f3 f4 s false) (eT 6) := by
  unfold P5
  refine Ev_bind (num_ev s false 4 (by decide)) ?_
  rw [num_few s 4 h]
  exact short6 _ _ _ _ _ _
theorem few6 (a : ByteArray) (st f3 f4 f6 : Int) (s : ByteArray) (h : s.size < 1) : Ev (fun k => P6 k a st f3 f4 f6 s false) (eT 6) := by
  unfold P6
  refine Ev_bind (text_ev s false) ?_
  rw [text_few s h]
  exact short7 _ _ _ _ _ _ _
theorem few7 (a : ByteArray) (st f3 f4 f6 : Int) (cl s : ByteArray) (h : s.size < 1) : Ev (fun k => P7 k a st f3 f4 f6 cl s false) (eT 6) := by
  unfold P7
  refine Ev_bind (text_ev s false) ?_
  rw [text_few s h]
  exact short1 _ _ _ _ _ _ _ _
theorem go2 (a : ByteArray) (v : Int) (B : ByteArray) (h0 : 0 ≤ v) (h1 : v < 256 ^ 1) {t : Dt} (h : Ev (fun k => P3 k a v B false) t) : Ev (fun k => P2 k a (strOfNums (bn 1 v) ++ B) false) t := by
  unfold P2
  refine Ev_bind (num_ev _ false 1 (by decide)) ?_
  rw [num_app 1 v h0 h1]
  exact h
theorem go3 (a : ByteArray) (st v : Int) (B : ByteArray) (h0 : 0 ≤ v) (h1 : v < 256 ^ 4) {t : Dt} (h : Ev (fun k => P4 k a st v B false) t) : Ev (fun k => P3 k a st (strOfNums (bn 4 v) ++ B) false) t := by
  unfold P3
  refine Ev_bind (num_ev _ false 4 (by decide)) ?_
  rw [num_app 4 v h0 h1]
  exact h
theorem go4 (a : ByteArray) (st f3 v : Int) (B : ByteArray) (h0 : 0 ≤ v) (h1 : v < 256 ^ 4) {t : Dt} (h : Ev (fun k => P5 k a st f3 v B false) t) : Ev (fun k => P4 k a st f3 (strOfNums (bn 4 v) ++ B) false) t := by
  unfold P4
  refine Ev_bind (num_ev _ false 4 (by decide)) ?_
  rw [num_app 4 v h0 h1]
  exact h
theorem go5 (a : ByteArray) (st f3 f4 v : Int) (B : ByteArray) (h0 : 0 ≤ v) (h1 : v < 256 ^ 4) {t : Dt} (h : Ev (fun k => P6 k a st f3 f4 v B false) t) : Ev (fun k => P5 k a st f3 f4 (strOfNums (bn 4 v) ++ B) false) t := by
  unfold P5
  refine Ev_bind (num_ev _ false 4 (by decide)) ?_
  rw [num_app 4 v h0 h1]
  exact h
theorem go6 (a : ByteArray) (st f3 f4 f6 v : Int) (C B : ByteArray) (h0 : 0 ≤ v) (h1 : v < 256) (hC : C.size = v.toNat) {t : Dt} (h : Ev (fun k => P7 k a st f3 f4 f6 C B false) t) : Ev (fun k => P6 k a st f3 f4 f6 (strOfNums (bn 1 v) ++ (C ++ B)) false) t := by
  unfold P6
  refine Ev_bind (text_ev _ false) ?_
  rw [text_len v _ h0 h1, ← hC, take_app]
  exact h
theorem cut6 (a : ByteArray) (st f3 f4 f6 v : Int) (B : ByteArray) (h0 : 0 ≤ v) (h1 : v < 256) (hB : B.size < v.toNat) : Ev (fun k => P6 k a st f3 f4 f6 (strOfNums (bn 1 v) ++ B) false) (eT 6) := by
  unfold P6
  refine Ev_bind (text_ev _ false) ?_
  rw [text_len v _ h0 h1, take_few _ _ hB]
  exact short7 _ _ _ _ _ _ _
theorem go7 (a : ByteArray) (st f3 f4 f6 v : Int) (cl C B : ByteArray) (h0 : 0 ≤ v) (h1 : v < 256) (hC : C.size = v.toNat) {t : Dt} (h : Ev (fun k => leasefile_Decode.j1 k a st f3 f4 f6 cl C B false) t) : Ev (fun k => P7 k a st f3 f4 f6 cl (strOfNums (bn 1 v) ++ (C ++ B)) false) t := by
  unfold P7
  refine Ev_bind (text_ev _ false) ?_
  rw [text_len v _ h0 h1, ← hC, take_app]
  exact h
theorem cut7 (a : ByteArray) (st f3 f4 f6 v : Int) (cl B : ByteArray) (h0 : 0 ≤ v) (h1 : v < 256) (hB : B.size < v.toNat) : Ev (fun k => P7 k a st f3 f4 f6 cl (strOfNums (bn 1 v) ++ B) false) (eT 6) := by
  unfold P7
  refine Ev_bind (text_ev _ false) ?_
  rw [text_len v _ h0 h1, take_few _ _ hB]
  exact short1 _ _ _ _ _ _ _ _
/-! ### the reference's readers -/
theorem rtake_app (A B : ByteArray) : ddiref45_take.f (A ++ B) (A.size : Int) = some (A, B, true) := by
  have h := take_app A B
  unfold takeV at h
  have hs : (A ++ B).size = A.size + B.size := ByteArray.size_append
  rw [if_neg (by rw [hs]; simp)] at h
  simp only [Prod.mk.injEq] at h
  unfold ddiref45_take.f
  rw [if_neg (by omega), if_pos (by omega), if_pos (by omega), Int.toNat_natCast, h.1, h.2.1]
theorem rtake_few (B : ByteArray) (n : Int) (h : (B.size : Int) < n) : ddiref45_take.f B n = some ((⟨#[]⟩ : ByteArray), (⟨#[]⟩ : ByteArray), false) := by
  unfold ddiref45_take.f
  rw [if_pos h]
theorem rvalue_from (t : ByteArray) (ht : t.size ≤ 8) : ∀ (r : List UInt8) (i a : Nat), t.data.toList.drop i = r → a < 256 ^ i → i ≤ 8 → Ev (fun k => ddiref02_value.l0 k t (a : Int) (i : Int)) ((valF a r : Nat) : Int)
  | [], i, a, h, _, _ => by
    have := size_end t i h
    exact Ev_shift 1 (f := fun _ => some (a : Int)) (fun k => by rw [ddiref02_value.l0, if_neg (by omega)]) (Ev_const rfl)
  | c :: r, i, a, h, ha, hi8 => by
    obtain ⟨hi, hb, hr⟩ := bt_at_drop t i c r h
    have hc := c.toNat_lt
    have hp : 256 ^ i ≤ 256 ^ 7 := Nat.pow_le_pow_right (by decide) (by omega)
    have hp3 : (256 : Nat) ^ 7 = 72057594037927936 := rfl
    have ha2 : a * 256 + c.toNat < 256 ^ (i + 1) := by
      rw [Nat.pow_succ]
      have : (a + 1) * 256 ≤ 256 ^ i * 256 := Nat.mul_le_mul_right _ ha
      omega
    have ih := rvalue_from t ht r (i + 1) (a * 256 + c.toNat) hr ha2 (by omega)
    have w1 : IntKind.u64.wrap (IntKind.u64.wrap ((a : Int) * 256) + IntKind.u64.wrap (c.toNat : Int)) = ((a * 256 + c.toNat : Nat) : Int) := by
      rw [IntKind.wrap_u64, IntKind.wrap_u64, IntKind.wrap_u64]
      omega
    refine Ev_shift 1 (fun k => ?_) ih
    rw [ddiref02_value.l0, if_pos (by omega), if_pos (by omega), hb, w1, next i t.size hi (by omega)]
theorem rnum_from (t : ByteArray) (ht : t.size ≤ 4) : ∀ (r : List UInt8) (i a : Nat), t.data.toList.drop i = r → a < 256 ^ i → i ≤ 4 → Ev (fun k => ddiref45_number.l0 k t (a : Int) (i : Int)) ((valF a r : Nat) : Int)
  | [], i, a, h, _, _ => by
    have := size_end t i h
    exact Ev_shift 1 (f := fun _ => some (a : Int)) (fun k => by rw [ddiref45_number.l0, if_neg (by omega)]) (Ev_const rfl)
  | c :: r, i, a, h, ha, hi8 => by
    obtain ⟨hi, hb, hr⟩ := bt_at_drop t i c r h
    have hc := c.toNat_lt
    have hp : 256 ^ i ≤ 256 ^ 3 := Nat.pow_le_pow_right (by decide) (by omega)
    have hp3 : (256 : Nat) ^ 3 = 16777216 := rfl
    have ha2 : a * 256 + c.toNat < 256 ^ (i + 1) := by
      rw [Nat.pow_succ]
      have : (a + 1) * 256 ≤ 256 ^ i * 256 := Nat.mul_le_mul_right _ ha
      omega
    have ih := rnum_from t ht r (i + 1) (a * 256 + c.toNat) hr ha2 (by omega)
    have w1 : wrap64 (wrap64 (256 * (a : Int)) + wrap64 (c.toNat : Int)) = ((a * 256 + c.toNat : Nat) : Int) := by
      rw [wrap_id (show -9223372036854775808 ≤ 256 * (a : Int) by omega) (by omega), wrap_id (show -9223372036854775808 ≤ (c.toNat : Int) by omega) (by omega), wrap_id (by omega) (by omega)]
      omega
    refine Ev_shift 1 (fun k => ?_) ih
    rw [ddiref45_number.l0, if_pos (by omega), if_pos (by omega), hb, w1, next i t.size hi (by omega)]
theorem rvalue_bn (n : Nat) (hn : n ≤ 8) (x : Int) (h0 : 0 ≤ x) (h1 : x < 256 ^ n) : Ev (fun k => ddiref02_value.f k (strOfNums (bn n x))) x := by
  have h := rvalue_from (strOfNums (bn n x)) (by rw [strOfNums_size, bn_len]; exact hn) (strOfNums (bn n x)).data.toList 0 0 rfl (by decide) (by decide)
  rw [strOfNums_data, val_bn x h0 n, Int.emod_eq_of_lt h0 h1] at h
  unfold ddiref02_value.f
  exact h
theorem rnum_bn (x : Int) (h0 : 0 ≤ x) (h1 : x < 256 ^ 4) : Ev (fun k => ddiref45_number.f k (strOfNums (bn 4 x))) x := by
  have h := rnum_from (strOfNums (bn 4 x)) (by rw [strOfNums_size, bn_len]; decide) (strOfNums (bn 4 x)).data.toList 0 0 rfl (by decide) (by decide)
  rw [strOfNums_data, val_bn x h0 4, Int.emod_eq_of_lt h0 h1] at h
  unfold ddiref45_number.f
  exact h
theorem bt_one (v : Int) (B : ByteArray) (h0 : 0 ≤ v) (h1 : v < 256) : bt (strOfNums (bn 1 v) ++ B) 0 = v := by
  have hd : (strOfNums (bn 1 v) ++ B).data.toList = UInt8.ofNat v.toNat :: B.data.toList := by
    rw [data_app, strOfNums_data, bn_one, Int.emod_eq_of_lt h0 h1]
    rfl
  have h := (bt_at_drop _ 0 _ _ hd).2.1
  have h' : bt (strOfNums (bn 1 v) ++ B) 0 = _ := h
  rw [h', UInt8.toNat_ofNat']
  omega
theorem ext_one (v : Int) (B : ByteArray) : (strOfNums (bn 1 v) ++ B).extract 1 (strOfNums (bn 1 v) ++ B).size = B := by
  have h := take_bn 1 v B
  unfold takeV at h
  rw [if_neg (by simp [ByteArray.size_append, strOfNums_size, bn_len])] at h
  simp only [Prod.mk.injEq] at h
  exact h.2.1
end Go.Proofs.YtikhpegamnnabaaDoor.Ma
namespace Go.Proofs.YtikhpegamnnabaaDoor.Ma
open Go.RowKit Go.Proofs.YtikhpegamnnabaaDoorW.PrintWords Go.Proofs.YtikhpegamnnabaaDoorW.PrintLast Go.Proofs.YtikhpegamnnabaaDoorW.PrintMore Go.Proofs.YtikhpegamnnabaaDoor.XP Go.Proofs.YtikhpegamnnabaaDoor.QA Go.Proofs.YtikhpegamnnabaaDoor.Cm
set_option linter.unusedVariables false
set_option linter.unusedSimpArgs false
/-- The fourteen bytes between the two texts' places. -/
def mid (st a b c cl : Int) : ByteArray := strOfNums (bn 1 st ++ (bn 4 a ++ (bn 4 b ++ (bn 4 c ++ bn 1 cl))))
theorem mid_size (st a b c cl : Int) : (mid st a b c cl).size = 14 := by
  unfold mid
  rw [strOfNums_size]
  rfl
theorem mid_parts (st a b c cl : Int) : (mid st a b c cl).extract 1 5 = strOfNums (bn 4 a) ∧ (mid st a b c cl).extract 5 9 = strOfNums (bn 4 b) ∧ (mid st a b c cl).extract 9 13 = strOfNums (bn 4 c) := by
  unfold mid
  refine ⟨data_inj ?_, data_inj ?_, data_inj ?_⟩ <;> (rw [data_ext]; rfl)
theorem byte_v (v : Int) (h0 : 0 ≤ v) (h1 : v < 256) : ((UInt8.ofNat (bv v 0).toNat).toNat : Int) = v := by
  have e : bv v 0 = v := by
    unfold bv
    rw [show (256 : Int) ^ 0 = 1 from rfl, Int.ediv_one, Int.emod_eq_of_lt h0 h1]
  rw [e, UInt8.toNat_ofNat']
  omega
theorem mid_st (st a b c cl : Int) (h0 : 0 ≤ st) (h1 : st < 256) : bt (mid st a b c cl) 0 = st := by
  have h := (bt_at_drop (mid st a b c cl) 0 _ _ (show (mid st a b c cl).data.toList.drop 0 = UInt8.ofNat (bv st 0).toNat :: _ from rfl)).2.1
  exact h.trans (byte_v st h0 h1)
theorem mid_cl (st a b c cl : Int) (h0 : 0 ≤ cl) (h1 : cl < 256) : bt (mid st a b c cl) 13 = cl := by
  have h := (bt_at_drop (mid st a b c cl) 13 _ _ (show (mid st a b c cl).data.toList.drop 13 = UInt8.ofNat (bv cl 0).toNat :: [] from rfl)).2.1
  exact h.trans (byte_v cl h0 h1)
theorem mid_app (st a b c cl : Int) (B : ByteArray) : strOfNums (bn 1 st) ++ (strOfNums (bn 4 a) ++ (strOfNums (bn 4 b) ++ (strOfNums (bn 4 c) ++ (strOfNums (bn 1 cl) ++ B)))) = mid st a b c cl ++ B := by
  unfold mid
  rw [← sn_app, ← sn_app, ← sn_app, ← sn_app]
  exact data_inj (by simp only [data_app, List.append_assoc])
/-- What the two texts say of an address' bytes. -/
theorem addr_of (W : ByteArray) (h : W.size = 4 ∨ W.size = 16) : ∃ a : S24, okS24 a ∧ U64 a.f1 ∧ U64 a.f2 ∧ strOfNums (wireN a) = W ∧ Ev (fun k => addr_Read.f k W) (a.f0, a.f1, a.f2, 0) ∧ Ev (fun k => ddiref02_Read.f k W) (a.f0, a.f1, a.f2, 0) := by
  have wf : ∀ v : Int, 0 ≤ v → v < 18446744073709551616 → (Lit.int .u64 v).wf = true := fun v h0 h1 => by
    simp [Lit.wf, IntKind.min, IntKind.max, IntKind.signed, IntKind.bits]
    omega
  have p4 : (256 : Int) ^ 4 = 4294967296 := rfl
  have p8 : (256 : Int) ^ 8 = 18446744073709551616 := rfl
  rcases h with h | h
  · obtain ⟨v, B, v0, v1, rfl⟩ := split_bn W 4 (by omega)
    rw [ByteArray.size_append, strOfNums_size, bn_len] at h
    have hB : B = (⟨#[]⟩ : ByteArray) := by
      refine data_inj ?_
      have : B.data.toList.length = 0 := by rw [← size_data]; omega
      rw [List.length_eq_zero_iff.1 this]
    subst hB
    have hW : strOfNums (bn 4 v) ++ (⟨#[]⟩ : ByteArray) = strOfNums (bn 4 v) := data_inj (by rw [data_app]; exact List.append_nil _)
    rw [hW]
    rw [p4] at v1
    have u1 : U64 (0 : Int) := by unfold U64; omega
    have u2 : U64 v := by unfold U64; omega
    have hs : (strOfNums (bn 4 v)).size = 4 := by rw [strOfNums_size, bn_len]
    refine ⟨⟨false, 0, v⟩, ⟨trivial, wf 0 (by omega) (by omega), wf v v0 (by omega)⟩, u1, u2, rfl, ?_, ?_⟩
    · unfold addr_Read.f
      simp only [hs, if_pos (show ((4 : Nat) : Int) = 4 from rfl)]
      exact Ev_bind (value_bn 4 (by decide) v v0 (by rw [p4]; exact v1)) (Ev_const rfl)
    · unfold ddiref02_Read.f
      simp only [hs, if_neg (show ¬ ((4 : Nat) : Int) > 16 by decide), if_neg (show ¬ ((4 : Nat) : Int) = 16 by decide), if_pos (show ((4 : Nat) : Int) = 4 from rfl)]
      exact Ev_bind (rvalue_bn 4 (by decide) v v0 (by rw [p4]; exact v1)) (Ev_const rfl)
  · obtain ⟨v, B, v0, v1, rfl⟩ := split_bn W 8 (by omega)
    rw [ByteArray.size_append, strOfNums_size, bn_len] at h
    obtain ⟨u, C, u0, u1, rfl⟩ := split_bn B 8 (by omega)
    rw [ByteArray.size_append, strOfNums_size, bn_len] at h
    have hB : C = (⟨#[]⟩ : ByteArray) := by
      refine data_inj ?_
      have : C.data.toList.length = 0 := by rw [← size_data]; omega
      rw [List.length_eq_zero_iff.1 this]
    subst hB
    have hW : strOfNums (bn 8 u) ++ (⟨#[]⟩ : ByteArray) = strOfNums (bn 8 u) := data_inj (by rw [data_app]; exact List.append_nil _)
    rw [hW]
    rw [p8] at v1 u1
    have t := take_bn 8 v (strOfNums (bn 8 u))
    have hs : (strOfNums (bn 8 v) ++ strOfNums (bn 8 u)).size = 16 := by rw [ByteArray.size_append, strOfNums_size, strOfNums_size, bn_len, bn_len]
    unfold takeV at t
    rw [hs, if_neg (by decide)] at t
    simp only [Prod.mk.injEq] at t
    refine ⟨⟨true, v, u⟩, ⟨trivial, wf v v0 v1, wf u u0 u1⟩, ⟨v0, v1⟩, ⟨u0, u1⟩, (sn_app _ _).symm, ?_, ?_⟩
    · unfold addr_Read.f
      simp only [hs, if_neg (show ¬ ((16 : Nat) : Int) = 4 by decide), if_pos (show ((16 : Nat) : Int) = 16 from rfl), if_pos (show (0 : Int) ≤ 8 by decide), if_pos (show (8 : Int) ≤ ((16 : Nat) : Int) by decide), t.1, t.2.1]
      refine Ev_bind (value_bn 8 (by decide) v v0 (by rw [p8]; exact v1)) ?_
      exact Ev_bind (value_bn 8 (by decide) u u0 (by rw [p8]; exact u1)) (Ev_const rfl)
    · unfold ddiref02_Read.f
      simp only [hs, if_neg (show ¬ ((16 : Nat) : Int) > 16 by decide), if_pos (show ((16 : Nat) : Int) = 16 from rfl), if_pos (show (0 : Int) ≤ 8 by decide), if_pos (show (8 : Int) ≤ ((16 : Nat) : Int) by decide), t.1, t.2.1]
      refine Ev_bind (rvalue_bn 8 (by decide) v v0 (by rw [p8]; exact v1)) ?_
      exact Ev_bind (rvalue_bn 8 (by decide) u u0 (by rw [p8]; exact u1)) (Ev_const rfl)
end Go.Proofs.YtikhpegamnnabaaDoor.Ma
namespace Go.Proofs.YtikhpegamnnabaaDoor.Ma
open Go.RowKit Go.Proofs.YtikhpegamnnabaaDoorW.PrintWords Go.Proofs.YtikhpegamnnabaaDoorW.PrintLast Go.Proofs.YtikhpegamnnabaaDoorW.PrintMore Go.Proofs.YtikhpegamnnabaaDoor.XP Go.Proofs.YtikhpegamnnabaaDoor.QA Go.Proofs.YtikhpegamnnabaaDoor.Cm
set_option linter.unusedVariables false
set_option linter.unusedSimpArgs false
def okD (s : ByteArray) (t : Dt) : Prop := t = eT 1 ∨ t = eT 6 ∨ t = eT 7 ∨ t = eT 8 ∨ ∃ x : S26, okS26 x ∧ mayB x = true ∧ encB x = s ∧ t = (x.f0.f0, x.f0.f1, x.f0.f2, x.f1, x.f2, x.f3, x.f4, x.f5, x.f6, 0)
/-- Behind the fourteen bytes and the first text. -/
theorem last_part (W C B : ByteArray) (hW : W.size = 4 ∨ W.size = 16) (st a b c cl : Int) (s0 : 0 ≤ st) (s1 : st < 256) (a0 : 0 ≤ a) (a1 : a < 256 ^ 4) (b0 : 0 ≤ b) (b1 : b < 256 ^ 4) (c0 : 0 ≤ c) (c1 : c < 256 ^ 4) (l0 : 0 ≤ cl) (l1 : cl < 256) (hC : C.size = cl.toNat) (s : ByteArray)
    (hs : s = strOfNums (bn 1 (W.size : Int)) ++ (W ++ (mid st a b c cl ++ (C ++ B)))) : ∃ t, Ev (fun k => P7 k W st a b c C B false) t ∧ Ev (fun k => ddiref45_Decode.j1 k W (mid st a b c cl) C B (decide ((B.size : Int) = 0))) t ∧ okD s t := by
  have p4 : (256 : Int) ^ 4 = 4294967296 := rfl
  have p1 : (256 : Int) ^ 1 = 256 := rfl
  by_cases h0 : B.size < 1
  · refine ⟨eT 6, few7 _ _ _ _ _ _ _ h0, ?_, .inr (.inl rfl)⟩
    rw [decide_eq_true (show ((B.size : Nat) : Int) = 0 by omega)]
    exact Ev_shift 1 (f := fun _ => some (eT 6)) (fun k => by rw [ddiref45_Decode.j1, if_pos rfl]; rfl) (Ev_const rfl)
  · obtain ⟨hl, R, h1, h2, rfl⟩ := split_bn B 1 (by omega)
    rw [p1] at h2
    have hz : (strOfNums (bn 1 hl) ++ R).size = R.size + 1 := by rw [ByteArray.size_append, strOfNums_size, bn_len]; omega
    have hw : wrap64 hl = hl := wrap_id (by omega) (by omega)
    have rj : ∀ {t : Dt}, Ev (fun k => (ddiref45_take.f R hl).bind fun bt495 => (if bt495.2.2 = true then (if (bt495.2.1.size : Int) > 0 then (some (eT 8)) else ((ddiref02_Read.f k W).bind fun bt498 => (if 0 < ((mid st a b c cl).size : Int) then (if 1 ≤ 5 then (if 5 ≤ ((mid st a b c cl).size : Int) then ((ddiref45_number.f k ((mid st a b c cl).extract 1 5)).bind fun t503 => (if 5 ≤ 9 then (if 9 ≤ ((mid st a b c cl).size : Int) then ((ddiref45_number.f k ((mid st a b c cl).extract 5 9)).bind fun t504 => (if 9 ≤ 13 then (if 13 ≤ ((mid st a b c cl).size : Int) then ((ddiref45_number.f k ((mid st a b c cl).extract 9 13)).bind fun t505 => ((ddiref38_Check.f k (([(⟨(⟨bt498.1,bt498.2.1,bt498.2.2.1⟩ : S24),C,wrap64 (bt (mid st a b c cl) 0),t503,t504,bt495.1,t505⟩ : S26)] : List (S26)))).bind fun t510 => (if t510 = 0 then (some (bt498.1,bt498.2.1,bt498.2.2.1,C,wrap64 (bt (mid st a b c cl) 0),t503,t504,bt495.1,t505,0)) else (some (eT 1))))) else (none)) else (none))) else (none)) else (none))) else (none)) else (none)) else (none)))) else (some (eT 6)))) t → Ev (fun k => ddiref45_Decode.j1 k W (mid st a b c cl) C (strOfNums (bn 1 hl) ++ R) (decide (((strOfNums (bn 1 hl) ++ R).size : Int) = 0))) t := by
      intro t h
      rw [decide_eq_false (show ¬ (((strOfNums (bn 1 hl) ++ R).size : Nat) : Int) = 0 by omega)]
      refine Ev_shift 1 (fun k => ?_) h
      rw [ddiref45_Decode.j1, if_neg Bool.false_ne_true, if_pos (by omega), if_pos (by omega), ext_one, bt_one hl R h1 h2, hw]
      rfl
    by_cases hR : R.size < hl.toNat
    · refine ⟨eT 6, cut7 _ _ _ _ _ _ _ _ h1 h2 hR, rj ?_, .inr (.inl rfl)⟩
      rw [rtake_few R hl (by omega)]
      simp only [Option.bind_some, Bool.false_eq_true, if_false]
      exact Ev_const rfl
    · obtain ⟨H, T, hH, rfl⟩ := split_at R hl.toNat (by omega)
      have hHl : (H.size : Int) = hl := by omega
      have tk : ddiref45_take.f (H ++ T) hl = some (H, T, true) := by rw [← hHl]; exact rtake_app H T
      rw [tk] at rj
      simp only [Option.bind_some, if_true] at rj
      by_cases hT : T.size = 0
      · have hTe : T = (⟨#[]⟩ : ByteArray) := by
          refine data_inj ?_
          have : T.data.toList.length = 0 := by rw [← size_data]; omega
          rw [List.length_eq_zero_iff.1 this]
        subst hTe
        obtain ⟨ad, okA, u1, u2, eW, r1, r2⟩ := addr_of W hW
        have wf : ∀ v : Int, 0 ≤ v → v < 4294967296 → (Lit.int .i64 v).wf = true := fun v h0 h1 => by
          simp [Lit.wf, IntKind.min, IntKind.max, IntKind.signed, IntKind.bits]
          omega
        have ox : okS26 ⟨ad, C, st, a, b, H, c⟩ := ⟨okA, by simp only; omega, wf st s0 (by omega), wf a a0 (by omega), wf b b0 (by omega), by simp only; omega, wf c c0 (by omega)⟩
        refine ⟨if mayB ⟨ad, C, st, a, b, H, c⟩ = true then (ad.f0, ad.f1, ad.f2, C, st, a, b, H, c, 0) else eT 1, ?_, rj ?_, ?_⟩
        · refine go7 _ _ _ _ _ _ _ _ _ h1 h2 hH ?_
          unfold leasefile_Decode.j1
          simp only [Bool.false_eq_true, if_false, toL, if_true]
          refine Ev_bind r1 ?_
          refine Ev_bind (may_ev ⟨ad, C, st, a, b, H, c⟩ ox) ?_
          cases mayB ⟨ad, C, st, a, b, H, c⟩ <;> exact Ev_const rfl
        · obtain ⟨m1, m2, m3⟩ := mid_parts st a b c cl
          have hst : wrap64 (bt (mid st a b c cl) 0) = st := by rw [mid_st st a b c cl s0 s1]; exact wrap_id (by omega) (by omega)
          simp only [mid_size, m1, m2, m3, hst, if_neg (show ¬ (((⟨#[]⟩ : ByteArray).size : Nat) : Int) > 0 by show ¬ ((0 : Nat) : Int) > 0; omega)]
          refine Ev_bind r2 ?_
          simp only [if_pos (show (0 : Int) < ((14 : Nat) : Int) by decide), if_pos (show (1 : Int) ≤ 5 by decide), if_pos (show (5 : Int) ≤ ((14 : Nat) : Int) by decide)]
          refine Ev_bind (rnum_bn a a0 a1) ?_
          simp only [if_pos (show (5 : Int) ≤ 9 by decide), if_pos (show (9 : Int) ≤ ((14 : Nat) : Int) by decide)]
          refine Ev_bind (rnum_bn b b0 b1) ?_
          simp only [if_pos (show (9 : Int) ≤ 13 by decide), if_pos (show (13 : Int) ≤ ((14 : Nat) : Int) by decide)]
          refine Ev_bind (rnum_bn c c0 c1) ?_
          refine Ev_bind (rcheck_ev [⟨ad, C, st, a, b, H, c⟩] (by simp) (fun y hy => by rw [List.mem_singleton.1 hy]; exact ox)) ?_
          unfold mayB
          by_cases hm : chkT [⟨ad, C, st, a, b, H, c⟩] = 0
          · simp only [if_pos hm, hm, beq_self_eq_true, if_true]
            exact Ev_const rfl
          · simp only [if_neg hm, beq_eq_false_iff_ne.2 hm, Bool.false_eq_true, if_false]
            exact Ev_const rfl
        · cases hm : mayB ⟨ad, C, st, a, b, H, c⟩ with
          | false => exact .inl rfl
          | true =>
            refine .inr (.inr (.inr (.inr ⟨⟨ad, C, st, a, b, H, c⟩, ox, hm, ?_, rfl⟩)))
            rw [enc_parts, hs]
            simp only [eW]
            rw [tx_bn W, tx_bn C, tx_bn H, hHl, show (C.size : Int) = cl by omega, ← mid_app]
            exact data_inj (by simp only [data_app, List.append_assoc])
      · refine ⟨eT 8, go7 _ _ _ _ _ _ _ _ _ h1 h2 hH ?_, rj ?_, .inr (.inr (.inr (.inl rfl)))⟩
        · unfold leasefile_Decode.j1
          have hne : ¬ T.toList = [] := by
            rw [toL]
            intro e
            rw [size_data, e] at hT
            exact hT rfl
          simp only [Bool.false_eq_true, if_false, if_neg hne]
          exact Ev_const rfl
        · simp only [if_pos (show ((T.size : Nat) : Int) > 0 by omega)]
          exact Ev_const rfl
end Go.Proofs.YtikhpegamnnabaaDoor.Ma
namespace Go.Proofs.YtikhpegamnnabaaDoor.Ma
open Go.RowKit Go.Proofs.YtikhpegamnnabaaDoorW.PrintWords Go.Proofs.YtikhpegamnnabaaDoorW.PrintLast Go.Proofs.YtikhpegamnnabaaDoorW.PrintMore Go.Proofs.YtikhpegamnnabaaDoor.XP Go.Proofs.YtikhpegamnnabaaDoor.QA Go.Proofs.YtikhpegamnnabaaDoor.Cm
set_option linter.unusedVariables false
set_option linter.unusedSimpArgs false
theorem rd_six (w : Int) (W R : ByteArray) (h0 : 0 ≤ w) (h1 : w < 256) (s : ByteArray) (hs : s = strOfNums (bn 1 w) ++ R) {t : Dt} (h : Ev (fun k => (ddiref45_take.f R w).bind fun bt486 => (if bt486.2.2 = true then ((ddiref45_take.f bt486.2.1 14).bind fun bt489 => (if bt489.2.2 = true then (if 13 < (bt489.1.size : Int) then ((ddiref45_take.f bt489.2.1 (wrap64 (bt bt489.1 13))).bind fun bt492 => (if bt492.2.2 = true then (ddiref45_Decode.j1 k bt486.1 bt489.1 bt492.1 bt492.2.1 ((bt492.2.1.size : Int) == 0)) else (ddiref45_Decode.j1 k bt486.1 bt489.1 bt492.1 bt492.2.1 true))) else (none)) else (some (eT 6)))) else (some (eT 6)))) t) : Ev (fun k => ddiref45_Decode.j0 k s w false) t := by
  subst hs
  have hz : (strOfNums (bn 1 w) ++ R).size = R.size + 1 := by rw [ByteArray.size_append, strOfNums_size, bn_len]; omega
  refine Ev_shift 1 (fun k => ?_) h
  rw [ddiref45_Decode.j0, if_neg Bool.false_ne_true, if_pos (by omega), ext_one]
  rfl
def R14 (k : Nat) (W R1 : ByteArray) : Option Dt := (ddiref45_take.f R1 14).bind fun bt489 => (if bt489.2.2 = true then (if 13 < (bt489.1.size : Int) then ((ddiref45_take.f bt489.2.1 (wrap64 (bt bt489.1 13))).bind fun bt492 => (if bt492.2.2 = true then (ddiref45_Decode.j1 k W bt489.1 bt492.1 bt492.2.1 ((bt492.2.1.size : Int) == 0)) else (ddiref45_Decode.j1 k W bt489.1 bt492.1 bt492.2.1 true))) else (none)) else (some (eT 6)))
theorem r14_few (W R1 : ByteArray) (h : R1.size < 14) : Ev (fun k => R14 k W R1) (eT 6) := by
  unfold R14
  rw [rtake_few R1 14 (by omega)]
  simp only [Option.bind_some, Bool.false_eq_true, if_false]
  exact Ev_const rfl
theorem r14_go (W : ByteArray) (st a b c cl : Int) (R6 : ByteArray) (l0 : 0 ≤ cl) (l1 : cl < 256) {t : Dt} (h : Ev (fun k => (ddiref45_take.f R6 cl).bind fun bt492 => (if bt492.2.2 = true then (ddiref45_Decode.j1 k W (mid st a b c cl) bt492.1 bt492.2.1 ((bt492.2.1.size : Int) == 0)) else (ddiref45_Decode.j1 k W (mid st a b c cl) bt492.1 bt492.2.1 true))) t) : Ev (fun k => R14 k W (mid st a b c cl ++ R6)) t := by
  have ms := mid_size st a b c cl
  have tk2 := rtake_app (mid st a b c cl) R6
  rw [ms] at tk2
  have e14 : ((14 : Nat) : Int) = (14 : Int) := rfl
  rw [e14] at tk2
  have hcl := mid_cl st a b c cl l0 l1
  have hw : wrap64 cl = cl := wrap_id (by omega) (by omega)
  have h13 : (13 : Int) < ((mid st a b c cl).size : Int) := by rw [ms]; decide
  generalize mid st a b c cl = M at *
  unfold R14
  rw [tk2]
  refine Ev_shift 0 (fun k => ?_) h
  rw [Option.bind_some, if_pos rfl, if_pos h13]
  simp only [hcl, hw]
  rfl
theorem part_size (n : Nat) (v : Int) (R : ByteArray) : (strOfNums (bn n v) ++ R).size = R.size + n := by
  rw [ByteArray.size_append, strOfNums_size, bn_len]
  omega
theorem stage6 (W R6 : ByteArray) (hW : W.size = 4 ∨ W.size = 16) (st a b c cl : Int) (s0 : 0 ≤ st) (s1 : st < 256) (a0 : 0 ≤ a) (a1 : a < 256 ^ 4) (b0 : 0 ≤ b) (b1 : b < 256 ^ 4) (c0 : 0 ≤ c) (c1 : c < 256 ^ 4) (l0 : 0 ≤ cl) (l1 : cl < 256) (s : ByteArray)
    (hs : s = strOfNums (bn 1 (W.size : Int)) ++ (W ++ (mid st a b c cl ++ R6))) : ∃ t, Ev (fun k => P6 k W st a b c (strOfNums (bn 1 cl) ++ R6) false) t ∧ Ev (fun k => R14 k W (mid st a b c cl ++ R6)) t ∧ okD s t := by
  by_cases k6 : R6.size < cl.toNat
  · refine ⟨eT 6, cut6 _ _ _ _ _ _ _ l0 l1 k6, r14_go W st a b c cl R6 l0 l1 ?_, .inr (.inl rfl)⟩
    rw [rtake_few R6 cl (by omega)]
    simp only [Option.bind_some, Bool.false_eq_true, if_false]
    exact Ev_shift 1 (f := fun _ => some (eT 6)) (fun k => by rw [ddiref45_Decode.j1, if_pos rfl]; rfl) (Ev_const rfl)
  · obtain ⟨C, B, hC, hR⟩ := split_at R6 cl.toNat (by omega)
    have hCc : (C.size : Int) = cl := by omega
    have tk4 : ddiref45_take.f (C ++ B) cl = some (C, B, true) := by rw [← hCc]; exact rtake_app C B
    obtain ⟨t, e1, e2, e3⟩ := last_part W C B hW st a b c cl s0 s1 a0 a1 b0 b1 c0 c1 l0 l1 hC s (by rw [hs, hR])
    refine ⟨t, ?_, r14_go W st a b c cl R6 l0 l1 ?_, e3⟩
    · rw [hR]
      exact go6 _ _ _ _ _ _ _ _ l0 l1 hC e1
    · rw [hR, tk4]
      simp only [Option.bind_some, if_true]
      exact e2
theorem stage2 (W R1 : ByteArray) (hW : W.size = 4 ∨ W.size = 16) (s : ByteArray) (hs : s = strOfNums (bn 1 (W.size : Int)) ++ (W ++ R1)) : ∃ t, Ev (fun k => P2 k W R1 false) t ∧ Ev (fun k => R14 k W R1) t ∧ okD s t := by
  have p1 : (256 : Int) ^ 1 = 256 := rfl
  have bad : ∀ {R : ByteArray}, R = R1 → R.size < 14 → Ev (fun k => R14 k W R1) (eT 6) := fun e h => r14_few W R1 (by rw [← e]; exact h)
  by_cases k1 : R1.size < 1
  · exact ⟨eT 6, few2 _ _ k1, bad rfl (by omega), .inr (.inl rfl)⟩
  obtain ⟨st, R2, s0, s1, q1⟩ := split_bn R1 1 (by omega)
  have z1 := part_size 1 st R2
  by_cases k2 : R2.size < 4
  · refine ⟨eT 6, ?_, bad q1.symm (by omega), .inr (.inl rfl)⟩
    rw [q1]
    exact go2 _ _ _ s0 s1 (few3 _ _ _ k2)
  obtain ⟨a, R3, a0, a1, q2⟩ := split_bn R2 4 (by omega)
  have z2 := part_size 4 a R3
  rw [← q2] at z2
  by_cases k3 : R3.size < 4
  · refine ⟨eT 6, ?_, bad q1.symm (by omega), .inr (.inl rfl)⟩
    rw [q1, q2]
    exact go2 _ _ _ s0 s1 (go3 _ _ _ _ a0 a1 (few4 _ _ _ _ k3))
  obtain ⟨b, R4, b0, b1, q3⟩ := split_bn R3 4 (by omega)
  have z3 := part_size 4 b R4
  rw [← q3] at z3
  by_cases k4 : R4.size < 4
  · refine ⟨eT 6, ?_, bad q1.symm (by omega), .inr (.inl rfl)⟩
    rw [q1, q2, q3]
    exact go2 _ _ _ s0 s1 (go3 _ _ _ _ a0 a1 (go4 _ _ _ _ _ b0 b1 (few5 _ _ _ _ _ k4)))
  obtain ⟨c, R5, c0, c1, q4⟩ := split_bn R4 4 (by omega)
  have z4 := part_size 4 c R5
  rw [← q4] at z4
  by_cases k5 : R5.size < 1
  · refine ⟨eT 6, ?_, bad q1.symm (by omega), .inr (.inl rfl)⟩
    rw [q1, q2, q3, q4]
    exact go2 _ _ _ s0 s1 (go3 _ _ _ _ a0 a1 (go4 _ _ _ _ _ b0 b1 (go5 _ _ _ _ _ _ c0 c1 (few6 _ _ _ _ _ _ k5))))
  obtain ⟨cl, R6, l0, l1, q5⟩ := split_bn R5 1 (by omega)
  have hm : R1 = mid st a b c cl ++ R6 := by rw [q1, q2, q3, q4, q5, mid_app]
  obtain ⟨t, e1, e2, e3⟩ := stage6 W R6 hW st a b c cl s0 (by rw [← p1]; exact s1) a0 a1 b0 b1 c0 c1 l0 (by rw [← p1]; exact l1) s (by rw [hs, hm])
  refine ⟨t, ?_, ?_, e3⟩
  · rw [q1, q2, q3, q4, q5]
    exact go2 _ _ _ s0 s1 (go3 _ _ _ _ a0 a1 (go4 _ _ _ _ _ b0 b1 (go5 _ _ _ _ _ _ c0 c1 e1)))
  · rw [hm]
    exact e2
theorem decode_all (s : ByteArray) : ∃ t, Ev (fun k => leasefile_Decode.f k s) t ∧ Ev (fun k => ddiref45_Decode.f k s) t ∧ okD s t := by
  have p1 : (256 : Int) ^ 1 = 256 := rfl
  by_cases h0 : s.size = 0
  · refine ⟨eT 6, ?_, ?_, .inr (.inl rfl)⟩
    · have e : s.toList = [] := by
        rw [toL]
        exact List.length_eq_zero_iff.1 (by rw [← size_data]; exact h0)
      unfold leasefile_Decode.f
      simp only [if_pos e]
      exact Ev_const rfl
    · unfold ddiref45_Decode.f
      simp only [if_pos (show ((s.size : Nat) : Int) = 0 by omega)]
      exact Ev_const rfl
  · obtain ⟨w, R, w0, w1, hsR⟩ := split_bn s 1 (by omega)
    rw [p1] at w1
    have hne : ¬ s.toList = [] := by
      rw [toL]
      intro e
      rw [size_data, e] at h0
      exact h0 rfl
    have hb : bt s 0 = w := by rw [hsR]; exact bt_one w R w0 w1
    have hww : wrap64 w = w := wrap_id (by omega) (by omega)
    have rf : ∀ {t : Dt}, (w = 4 ∨ w = 16) → Ev (fun k => ddiref45_Decode.j0 k s w false) t → Ev (fun k => ddiref45_Decode.f k s) t := by
      intro t hw h
      unfold ddiref45_Decode.f
      simp only [if_neg (show ¬ ((s.size : Nat) : Int) = 0 by omega), if_pos (show (0 : Int) < ((s.size : Nat) : Int) by omega), hb, hww]
      rcases hw with hw | hw
      · simp only [if_pos hw]
        exact h
      · have e : (w != 16) = false := by rw [hw]; rfl
        simp only [if_neg (show ¬ w = 4 by omega), e]
        exact h
    have pf : ∀ {t : Dt}, (w = 4 ∨ w = 16) → Ev (fun k => leasefile_Decode.j0 k s) t → Ev (fun k => leasefile_Decode.f k s) t := by
      intro t hw h
      unfold leasefile_Decode.f
      simp only [if_neg hne, hb]
      rcases hw with hw | hw
      · simp only [if_pos hw]
        exact h
      · simp only [if_neg (show ¬ w = 4 by omega), if_pos hw]
        exact h
    by_cases hw : w = 4 ∨ w = 16
    · by_cases hR : R.size < w.toNat
      · refine ⟨eT 6, pf hw ?_, rf hw (rd_six w R R w0 w1 s hsR ?_), .inr (.inl rfl)⟩
        · rw [hsR]
          simp only [j0_parts]
          refine Ev_bind (text_ev _ false) ?_
          rw [text_len w R w0 w1, take_few R _ hR]
          exact short2 _ _
        · rw [rtake_few R w (by omega)]
          simp only [Option.bind_some, Bool.false_eq_true, if_false]
          exact Ev_const rfl
      · obtain ⟨W, R1, hW, hR1⟩ := split_at R w.toNat (by omega)
        have hWw : (W.size : Int) = w := by omega
        have tk : ddiref45_take.f (W ++ R1) w = some (W, R1, true) := by rw [← hWw]; exact rtake_app W R1
        obtain ⟨t, e1, e2, e3⟩ := stage2 W R1 (by omega) s (by rw [hsR, hR1, hWw])
        refine ⟨t, pf hw ?_, rf hw (rd_six w W R w0 w1 s hsR ?_), e3⟩
        · rw [hsR, hR1]
          simp only [j0_parts]
          refine Ev_bind (text_ev _ false) ?_
          rw [text_len w _ w0 w1, ← hW, take_app]
          exact e1
        · rw [hR1, tk]
          simp only [Option.bind_some, if_true]
          exact e2
    · refine ⟨eT 7, ?_, ?_, .inr (.inr (.inl rfl))⟩
      · unfold leasefile_Decode.f
        simp only [if_neg hne, hb, if_neg (show ¬ w = 4 by omega), if_neg (show ¬ w = 16 by omega)]
        exact Ev_const rfl
      · unfold ddiref45_Decode.f
        have e : (w != 16) = true := by simp; omega
        simp only [if_neg (show ¬ ((s.size : Nat) : Int) = 0 by omega), if_pos (show (0 : Int) < ((s.size : Nat) : Int) by omega), hb, hww, if_neg (show ¬ w = 4 by omega), e]
        exact Ev_shift 1 (f := fun _ => some (eT 7)) (fun k => by rw [ddiref45_Decode.j0, if_pos rfl]; rfl) (Ev_const rfl)
theorem leasefileDecodes : ddilaw45_LeasefileDecodes.Pure := by
  intro s _
  refine Ev.rounds (?_ : Ev (fun k => ddilaw45_LeasefileDecodes.f k s) true)
  obtain ⟨t, e1, e2, ht⟩ := decode_all s
  unfold ddilaw45_LeasefileDecodes.f
  refine Ev_bind e1 ?_
  refine Ev_bind e2 ?_
  simp only [beq_self_eq_true, Bool.not_true, Bool.or_false, Bool.false_eq_true, if_false, bne_self_eq_false]
  refine Ev_shift 1 (fun k => by rw [ddilaw45_LeasefileDecodes.j0, if_neg Bool.false_ne_true]) ?_
  have wf0 : ∀ K : IntKind, (Lit.int K 0).wf = true := fun K => by cases K <;> rfl
  have bad : ∀ n : Int, n ≠ 0 → t = eT n → Ev (fun k => (leasefile_Encode.f k t.1 t.2.1 t.2.2.1 t.2.2.2.1 t.2.2.2.2.1 t.2.2.2.2.2.1 t.2.2.2.2.2.2.1 t.2.2.2.2.2.2.2.1 t.2.2.2.2.2.2.2.2.1).bind fun bt533 => (if t.2.2.2.2.2.2.2.2.2 = 0 then (if bt533.2 = 0 then (if bt533.1.toList = s.toList then ((ddilaw45_awake.f k).bind fun t535 => (some t535)) else (some false)) else (some false)) else ((ddilaw45_awake.f k).bind fun t536 => (some t536)))) true := by
    rintro n hn rfl
    refine Ev_bind (enc_ev ⟨⟨false, 0, 0⟩, ⟨#[]⟩, 0, 0, 0, ⟨#[]⟩, 0⟩ ⟨⟨trivial, wf0 _, wf0 _⟩, Nat.zero_le _, wf0 _, wf0 _, wf0 _, Nat.zero_le _, wf0 _⟩) ?_
    refine Ev_shift 0 (fun k => if_neg hn) ?_
    exact Ev_bind awake_ev (Ev_const rfl)
  rcases ht with h | h | h | h | ⟨x, ox, hm, he, h⟩
  · exact bad 1 (by decide) h
  · exact bad 6 (by decide) h
  · exact bad 7 (by decide) h
  · exact bad 8 (by decide) h
  · subst h
    have e := enc_ev x ox
    unfold encT at e
    rw [if_pos hm] at e
    refine Ev_bind e ?_
    simp only [if_true, he]
    exact Ev_bind awake_ev (Ev_const rfl)
end Go.Proofs.YtikhpegamnnabaaDoor.Ma
namespace Go.Proofs.YtikhpegamnnabaaDoor.Pure
theorem LeasefileDecodes : QA.ddilaw45_LeasefileDecodes.Pure := Ma.leasefileDecodes
end Go.Proofs.YtikhpegamnnabaaDoor.Pure
