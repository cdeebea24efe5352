/- Find, Of, Free, Taken and Active are the document's: the pure statement of LeaseFinds (no condition but the sizes that every argument has). -/
import Derived.Test.YtonpcojdpfmbkaaDoorQAd1
import Derived.Test.YtonpcojdpfmbkaaDoorXP
import Derived.Test.YtonpcojdpfmbkaaDoorXB
import Derived.Test.YtonpcojdpfmbkaaDoorQAd3
import Derived.Test.YtonpcojdpfmbkaaDoorQAd2
namespace Go.Proofs.YtonpcojdpfmbkaaDoor.Cm
open Go.RowKit Go.Proofs.YtonpcojdpfmbkaaDoorW.PrintWords Go.Proofs.YtonpcojdpfmbkaaDoorW.PrintLast Go.Proofs.YtonpcojdpfmbkaaDoorW.PrintMore Go.Proofs.YtonpcojdpfmbkaaDoor.XP Go.Proofs.YtonpcojdpfmbkaaDoor.QA
set_option linter.unusedVariables false
set_option linter.unusedSimpArgs false
/-- A byte of an ordinary label. -/
def okc (c : UInt8) : Bool := (97 ≤ c.toNat && c.toNat ≤ 122) || ((48 ≤ c.toNat && c.toNat ≤ 57) || (c.toNat == 45 || c.toNat == 95))
def ordB (l : List UInt8) : Bool := !l.isEmpty && (decide (l.length ≤ 63) && l.all okc)
theorem bt_at_drop (s : ByteArray) (i : Nat) (c : UInt8) (r : List UInt8) (h : s.data.toList.drop i = c :: r) : i < s.size ∧ bt s (i : Int) = (c.toNat : Int) ∧ s.data.toList.drop (i + 1) = r := by
  obtain ⟨hi, hx, hr⟩ := drop_at h
  refine ⟨by rw [size_data]; exact hi, ?_, hr⟩
  rw [bt_get s i hi, hx]
theorem size_end (s : ByteArray) (i : Nat) (h : s.data.toList.drop i = []) : s.size ≤ i := by rw [size_data]; exact drop_end h
theorem toL (s : ByteArray) : s.toList = s.data.toList := ByteArray.toList_eq s
theorem ord_from (s : ByteArray) (hs : s.size ≤ 140737488351232) : ∀ (r : List UInt8) (i : Nat), s.data.toList.drop i = r → Ev (fun k => dname_ordinary.l0 k s (s.size : Int) (i : Int)) (r.all okc)
  | [], i, h => by
    have := size_end s i h
    refine Ev_shift 1 (f := fun _ => some true) (fun k => ?_) (Ev_const rfl)
    rw [dname_ordinary.l0, if_neg (by omega)]
  | c :: r, i, h => by
    obtain ⟨hi, hb, hr⟩ := bt_at_drop s i c r h
    have ih := ord_from s hs r (i + 1) hr
    have key : ∀ b : Bool, b = !okc c → Ev (fun k => dname_ordinary.j2 k s (s.size : Int) (i : Int) b) (List.all (c :: r) okc) := by
      intro b hbc
      rw [List.all_cons]
      cases hc : okc c with
      | false =>
        rw [hc] at hbc
        subst hbc
        refine Ev_shift 1 (f := fun _ => some false) (fun k => ?_) (Ev_const rfl)
        rw [dname_ordinary.j2]
        rfl
      | true =>
        rw [hc] at hbc
        subst hbc
        rw [Bool.true_and]
        refine Ev_shift 1 (fun k => ?_) ih
        rw [dname_ordinary.j2, next i s.size hi (by omega)]
        rfl
    refine Ev_shift 1 (f := fun k => dname_ordinary.j2 k s (s.size : Int) (i : Int) (!okc c)) (fun k => ?_) (key _ rfl)
    rw [dname_ordinary.l0, if_pos (by omega), if_pos (by omega), if_pos (by omega), hb]
    have hc : okc c = true ↔ (97 ≤ c.toNat ∧ c.toNat ≤ 122) ∨ ((48 ≤ c.toNat ∧ c.toNat ≤ 57) ∨ (c.toNat = 45 ∨ c.toNat = 95)) := by simp [okc]
    have hbn : ((c.toNat : Int) != 95) = !decide (c.toNat = 95) := by
      rw [Bool.eq_iff_iff]
      simp
      omega
    rw [hbn]
    cases hk : okc c with
    | true =>
      have := hc.1 hk
      repeat' split
      all_goals first | rfl | omega | (congr 1; simp; omega)
    | false =>
      have hn : ¬ _ := fun h => Bool.false_ne_true (hk.symm.trans (hc.2 h))
      repeat' split
      all_goals first | rfl | (exfalso; omega) | (congr 1; simp; omega)
theorem ord_ev (s : ByteArray) (hs : s.size ≤ 140737488351232) : Ev (fun k => dname_ordinary.f k s) (ordB s.data.toList) := by
  have hl := size_data s
  unfold dname_ordinary.f
  rw [toL]
  have hj : ∀ b : Bool, b = !(!s.data.toList.isEmpty && decide (s.data.toList.length ≤ 63)) → Ev (fun k => dname_ordinary.j0 k s b) (ordB s.data.toList) := by
    intro b hb
    unfold ordB
    cases h : (!s.data.toList.isEmpty && decide (s.data.toList.length ≤ 63)) with
    | false =>
      rw [h] at hb
      subst hb
      refine Ev_shift 1 (f := fun _ => some false) (fun k => ?_) (Ev_const (by rw [← Bool.and_assoc, h]; rfl))
      rw [dname_ordinary.j0]
      rfl
    | true =>
      rw [h] at hb
      subst hb
      rw [← Bool.and_assoc, h, Bool.true_and]
      refine Ev_shift 1 (fun k => ?_) (ord_from s hs s.data.toList 0 rfl)
      rw [dname_ordinary.j0]
      rfl
  by_cases h0 : s.data.toList = []
  · simp only [if_pos h0]
    exact hj true (by rw [h0]; rfl)
  · simp only [if_neg h0]
    refine hj _ ?_
    have : s.data.toList.isEmpty = false := by simpa using h0
    rw [this, hl]
    simp only [Bool.not_false, Bool.true_and]
    by_cases h : s.data.toList.length ≤ 63
    · rw [decide_eq_true h, decide_eq_false (by omega)]; rfl
    · rw [decide_eq_false h, decide_eq_true (by omega)]; rfl
theorem lab_from (s : ByteArray) (hs : s.size ≤ 140737488351232) : ∀ (r : List UInt8) (i : Nat), s.data.toList.drop i = r → Ev (fun k => ddiref01_isLabel.l0 k s (i : Int)) (r.all okc)
  | [], i, h => by
    have := size_end s i h
    refine Ev_shift 1 (f := fun _ => some true) (fun k => ?_) (Ev_const rfl)
    rw [ddiref01_isLabel.l0, if_neg (by omega)]
  | c :: r, i, h => by
    obtain ⟨hi, hb, hr⟩ := bt_at_drop s i c r h
    have ih := lab_from s hs r (i + 1) hr
    have key : ∀ b : Bool, b = !okc c → Ev (fun k => ddiref01_isLabel.j2 k s (i : Int) b) (List.all (c :: r) okc) := by
      intro b hbc
      rw [List.all_cons]
      cases hc : okc c with
      | false =>
        rw [hc] at hbc
        subst hbc
        refine Ev_shift 1 (f := fun _ => some false) (fun k => ?_) (Ev_const rfl)
        rw [ddiref01_isLabel.j2]
        rfl
      | true =>
        rw [hc] at hbc
        subst hbc
        rw [Bool.true_and]
        refine Ev_shift 1 (fun k => ?_) ih
        rw [ddiref01_isLabel.j2, next i s.size hi (by omega)]
        rfl
    refine Ev_shift 1 (f := fun k => ddiref01_isLabel.j2 k s (i : Int) (!okc c)) (fun k => ?_) (key _ rfl)
    rw [ddiref01_isLabel.l0, if_pos (by omega), if_pos (by omega), hb]
    have hc : okc c = true ↔ (97 ≤ c.toNat ∧ c.toNat ≤ 122) ∨ ((48 ≤ c.toNat ∧ c.toNat ≤ 57) ∨ (c.toNat = 45 ∨ c.toNat = 95)) := by simp [okc]
    have hbn : ((c.toNat : Int) == 95) = decide (c.toNat = 95) := by
      rw [Bool.eq_iff_iff]
      simp
      omega
    rw [hbn]
    cases hk : okc c with
    | true =>
      have := hc.1 hk
      repeat' split
      all_goals first | rfl | omega | (congr 1; simp; omega)
    | false =>
      have hn : ¬ _ := fun h => Bool.false_ne_true (hk.symm.trans (hc.2 h))
      repeat' split
      all_goals first | rfl | (exfalso; omega) | (congr 1; simp; omega)
def labB (l : List UInt8) : Bool := decide (l = [42]) || ordB l
theorem lab_ev (s : ByteArray) (hs : s.size ≤ 140737488351232) : Ev (fun k => ddiref01_isLabel.f k s) (labB s.data.toList) := by
  have hl := size_data s
  unfold ddiref01_isLabel.f labB
  rw [toL]
  have hj : ∀ b : Bool, b = !(!s.data.toList.isEmpty && decide (s.data.toList.length ≤ 63)) → Ev (fun k => ddiref01_isLabel.j0 k s b) (ordB s.data.toList) := by
    intro b hb
    unfold ordB
    cases h : (!s.data.toList.isEmpty && decide (s.data.toList.length ≤ 63)) with
    | false =>
      rw [h] at hb
      subst hb
      refine Ev_shift 1 (f := fun _ => some false) (fun k => ?_) (Ev_const (by rw [← Bool.and_assoc, h]; rfl))
      rw [ddiref01_isLabel.j0]
      rfl
    | true =>
      rw [h] at hb
      subst hb
      rw [← Bool.and_assoc, h, Bool.true_and]
      refine Ev_shift 1 (fun k => ?_) (lab_from s hs s.data.toList 0 rfl)
      rw [ddiref01_isLabel.j0]
      rfl
  by_cases h42 : s.data.toList = [42]
  · simp only [if_pos h42, h42, decide_true, Bool.true_or]
    exact Ev_const rfl
  · simp only [if_neg h42, h42, decide_false, Bool.false_or]
    by_cases h0 : (s.size : Int) < 1
    · simp only [if_pos h0]
      refine hj true ?_
      have : s.data.toList = [] := List.length_eq_zero_iff.1 (by rw [← hl]; omega)
      rw [this]
      rfl
    · simp only [if_neg h0]
      refine hj _ ?_
      have : s.data.toList.isEmpty = false := by
        cases h : s.data.toList with
        | nil => rw [h, List.length_nil] at hl; exfalso; omega
        | cons => rfl
      rw [this, hl]
      simp only [Bool.not_false, Bool.true_and]
      by_cases h : s.data.toList.length ≤ 63
      · rw [decide_eq_true h, decide_eq_false (by omega)]; rfl
      · rw [decide_eq_false h, decide_eq_true (by omega)]; rfl
end Go.Proofs.YtonpcojdpfmbkaaDoor.Cm
namespace Go.Proofs.YtonpcojdpfmbkaaDoor.Cm
open Go.RowKit Go.Proofs.YtonpcojdpfmbkaaDoorW.PrintWords Go.Proofs.YtonpcojdpfmbkaaDoorW.PrintLast Go.Proofs.YtonpcojdpfmbkaaDoorW.PrintMore Go.Proofs.YtonpcojdpfmbkaaDoor.XP Go.Proofs.YtonpcojdpfmbkaaDoor.QA
set_option linter.unusedVariables false
set_option linter.unusedSimpArgs false
def mkB (l : List UInt8) : ByteArray := ⟨l.toArray⟩
theorem mkB_data (l : List UInt8) : (mkB l).data.toList = l := rfl
theorem mkB_of (s : ByteArray) : mkB s.data.toList = s := by
  obtain ⟨⟨l⟩⟩ := s
  rfl
theorem mkB_size (l : List UInt8) : (mkB l).size = l.length := by rw [size_data]; rfl
/-- What lies between the periods; cur is what was read since the last one. -/
def pcs : List UInt8 → List UInt8 → List (List UInt8)
  | cur, [] => [cur]
  | cur, c :: r => if c = 46 then cur :: pcs [] r else pcs (cur ++ [c]) r
def dots (l : List UInt8) : Nat := l.count 46
theorem pcs_len : ∀ (l cur : List UInt8), (pcs cur l).length = dots l + 1
  | [], _ => rfl
  | c :: r, cur => by
    rw [pcs]
    by_cases h : c = 46
    · subst h
      rw [if_pos rfl, List.length_cons, pcs_len r, dots, dots, List.count_cons_self]
    · rw [if_neg h, pcs_len r, dots, dots, List.count_cons_of_ne h]
theorem idx_none : ∀ l : List UInt8, dots l = 0 → Go.Lib.indexByte l 46 = -1
  | [], _ => rfl
  | c :: r, h => by
    have hc : ¬ c = 46 := by
      rintro rfl
      rw [dots, List.count_cons_self] at h
      omega
    have hr : dots r = 0 := by
      rw [dots, List.count_cons_of_ne hc] at h
      exact h
    have hb : (c == 46) = false := by simpa using hc
    rw [Go.Lib.indexByte, hb, idx_none r hr]
    rfl
theorem idx_some : ∀ l : List UInt8, 0 < dots l → ∃ p q, l = p ++ 46 :: q ∧ dots p = 0 ∧ Go.Lib.indexByte l 46 = (p.length : Int)
  | [], h => by cases h
  | c :: r, h => by
    by_cases hc : c = 46
    · subst hc
      exact ⟨[], r, rfl, rfl, rfl⟩
    · have hr : 0 < dots r := by
        rw [dots, List.count_cons_of_ne hc] at h
        exact h
      obtain ⟨p, q, e, hp, hi⟩ := idx_some r hr
      have hb : (c == 46) = false := by simpa using hc
      refine ⟨c :: p, q, by rw [e]; rfl, by rw [dots, List.count_cons_of_ne hc]; exact hp, ?_⟩
      rw [Go.Lib.indexByte, hb, hi]
      have : ((p.length : Int) == -1) = false := by
        rw [beq_eq_false_iff_ne]
        omega
      simp only [this, Bool.false_eq_true, if_false, List.length_cons]
      omega
theorem pcs_front : ∀ (p cur q : List UInt8), dots p = 0 → pcs cur (p ++ 46 :: q) = (cur ++ p) :: pcs [] q
  | [], cur, q, _ => by simp [pcs]
  | c :: p, cur, q, h => by
    have hc : ¬ c = 46 := by
      rintro rfl
      rw [dots, List.count_cons_self] at h
      omega
    have hp : dots p = 0 := by
      rw [dots, List.count_cons_of_ne hc] at h
      exact h
    rw [List.cons_append, pcs, if_neg hc, pcs_front p _ q hp]
    simp
theorem pcs_last : ∀ (p cur : List UInt8), dots p = 0 → pcs cur p = [cur ++ p]
  | [], cur, _ => by simp [pcs]
  | c :: p, cur, h => by
    have hc : ¬ c = 46 := by
      rintro rfl
      rw [dots, List.count_cons_self] at h
      omega
    have hp : dots p = 0 := by
      rw [dots, List.count_cons_of_ne hc] at h
      exact h
    rw [pcs, if_neg hc, pcs_last p _ hp]
    simp
theorem dots_le (l : List UInt8) : dots l ≤ l.length := List.count_le_length
theorem set_at {α : Type} (d : List α) (x e : α) (n : Nat) : (d ++ List.replicate (n + 1) e).set d.length x = d ++ [x] ++ List.replicate n e := by
  rw [List.replicate_succ, List.set_append_right _ _ (Nat.le_refl _), Nat.sub_self, List.set_cons_zero, List.append_assoc]
  rfl
def sep1 : ByteArray := ⟨#[46]⟩
theorem sfind (s : ByteArray) : strings_Index.f s sep1 = some (Go.Lib.indexByte s.data.toList 46) := rfl
theorem scount (s : ByteArray) : strings_Count.f s sep1 = some ((dots s.data.toList : Nat) : Int) := rfl
theorem nx1 (n : Nat) (h : n ≤ 1000000) : wrap64 ((n : Int) + 1) = ((n + 1 : Nat) : Int) := by rw [wrap_id (by omega) (by omega)]; omega
theorem nx0 (n : Nat) (h : n ≤ 1000000) : wrap64 ((n : Int) + 0) = ((n : Nat) : Int) := by rw [wrap_id (by omega) (by omega)]; omega
set_option maxHeartbeats 400000 in
theorem split_from (n : Nat) (hn : n ≤ 1000000) (m : Nat) : ∀ (done : List ByteArray) (s : ByteArray), dots s.data.toList = m → done.length + m = n → s.size ≤ 1000000 →
    Ev (fun k => strings_genSplit.l0 k s sep1 0 (n : Int) (done ++ List.replicate (m + 1) (⟨#[]⟩ : ByteArray)) (done.length : Int)) (done ++ (pcs [] s.data.toList).map mkB) := by
  induction m with
  | zero =>
    intro done s hd hl hs
    have hend : ((done ++ List.replicate (0 + 1) (⟨#[]⟩ : ByteArray)).set done.length s).take (done.length + 1) = done ++ (pcs [] s.data.toList).map mkB := by
      rw [set_at, pcs_last _ _ hd, List.nil_append, List.map_cons, List.map_nil, mkB_of, List.replicate_zero, List.append_nil, List.take_of_length_le (by simp)]
    have hlen : (done ++ List.replicate (0 + 1) (⟨#[]⟩ : ByteArray)).length = done.length + 1 := by simp
    have hw : wrap64 ((done.length : Int) + 1) = ((done.length + 1 : Nat) : Int) := by rw [wrap_id (by omega) (by omega)]; omega
    refine Ev_shift 1 (f := fun _ => some (done ++ (pcs [] s.data.toList).map mkB)) (fun k => ?_) (Ev_const rfl)
    rw [strings_genSplit.l0, if_neg (by omega), if_pos (by omega), hlen, if_pos (by omega), hw, if_pos (by omega), if_pos (by omega), Int.toNat_natCast, Int.toNat_natCast, hend]
  | succ m ih0 =>
    intro done s hd hl hs
    obtain ⟨p, q, e, hp, hi⟩ := idx_some s.data.toList (by omega)
    have hsz := size_data s
    have hsl : s.size = p.length + (q.length + 1) := by rw [hsz, e]; simp
    have hq : dots q = m := by
      have : dots s.data.toList = dots p + (dots q + 1) := by rw [e, dots, List.count_append, List.count_cons_self]; rfl
      omega
    have e1 : (s.extract (p.length + 1) s.size).data.toList = q := by
      rw [data_ext, e, ← List.drop_drop, List.drop_left, List.drop_one, List.tail_cons, List.take_of_length_le (by omega)]
    have e0 : s.extract 0 p.length = mkB p := by
      apply data_inj
      rw [data_ext, e, mkB_data, List.drop_zero, Nat.sub_zero, List.take_left]
    have hsz2 : (s.extract (p.length + 1) s.size).size ≤ 1000000 := by rw [size_data, e1]; omega
    obtain ⟨s2, hs2⟩ : ∃ s2, s2 = s.extract (p.length + 1) s.size := ⟨_, rfl⟩
    rw [← hs2] at e1 hsz2
    have ih := ih0 (done ++ [mkB p]) s2 (by rw [e1]; exact hq) (by rw [List.length_append, List.length_singleton]; omega) hsz2
    rw [e1] at ih
    have g1 : (done.length : Int) < (n : Int) := by omega
    have g2 : ¬ ((p.length : Int) < 0) := by omega
    have g3 : (0 : Int) ≤ ((p.length : Nat) : Int) := by omega
    have g4 : ((p.length : Nat) : Int) ≤ (s.size : Int) := by omega
    have g5 : (0 : Int) ≤ (done.length : Int) := by omega
    have g6 : (done.length : Int) < ((done.length + (m + 2) : Nat) : Int) := by omega
    have g7 : (0 : Int) ≤ ((p.length + 1 : Nat) : Int) := by omega
    have g8 : ((p.length + 1 : Nat) : Int) ≤ (s.size : Int) := by omega
    have g9 : p.length ≤ 1000000 := by omega
    have g10 : done.length ≤ 1000000 := by omega
    have hs1 : ((sep1.size : Nat) : Int) = 1 := rfl
    have hlen : (done ++ List.replicate (m + 1 + 1) (⟨#[]⟩ : ByteArray)).length = done.length + (m + 2) := by simp
    have hr : done ++ (pcs [] s.data.toList).map mkB = done ++ [mkB p] ++ (pcs [] q).map mkB := by
      rw [e, pcs_front p [] q hp, List.nil_append, List.map_cons, List.append_assoc]
      rfl
    rw [hr]
    have hw1 := nx0 p.length g9
    have hw2 := nx1 p.length g9
    have hw3 := nx1 done.length g10
    refine Ev_shift 1 (fun k => ?_) ih
    rw [strings_genSplit.l0, if_pos g1, sfind, hi, Option.bind_some, if_neg g2, hs1, hw1, hw2, hw3, if_pos g3, if_pos g4, if_pos g5, hlen, if_pos g6, if_pos g7, if_pos g8, Int.toNat_natCast, Int.toNat_natCast, Int.toNat_natCast, set_at, e0, List.length_append, List.length_singleton, ← hs2]
theorem split_ev (s : ByteArray) (hs : s.size ≤ 1000000) : Ev (fun k => strings_Split.f k s sep1) ((pcs [] s.data.toList).map mkB) := by
  have hd := dots_le s.data.toList
  have hsz := size_data s
  unfold strings_Split.f strings_genSplit.f
  have h0 : ¬ sep1.toList = ([] : List UInt8) := by rw [toL]; exact List.cons_ne_nil _ _
  simp only [if_neg (show ¬ (-1 : Int) = 0 by omega), if_neg h0, if_pos (show (-1 : Int) < 0 by omega), scount, Option.bind_some]
  have hw : wrap64 (((dots s.data.toList : Nat) : Int) + 1) = ((dots s.data.toList + 1 : Nat) : Int) := by rw [wrap_id (by omega) (by omega)]; omega
  have hw2 : wrap64 ((s.size : Int) + 1) = ((s.size + 1 : Nat) : Int) := by rw [wrap_id (by omega) (by omega)]; omega
  have hm : mn ((dots s.data.toList + 1 : Nat) : Int) ((s.size + 1 : Nat) : Int) = ((dots s.data.toList + 1 : Nat) : Int) := by rw [mn_len, Nat.min_eq_left (by omega)]
  have hw3 : wrap64 (((dots s.data.toList + 1 : Nat) : Int) - 1) = ((dots s.data.toList : Nat) : Int) := by rw [wrap_id (by omega) (by omega)]; omega
  rw [hw]
  refine Ev.bind (a := (pcs [] s.data.toList).map mkB) ?_ (Ev_const rfl)
  refine Ev_shift 1 (fun k => by rw [strings_genSplit.j0, hw2, hm, if_pos (by omega), Int.toNat_natCast, if_pos (by omega), hw3]) ?_
  exact split_from (dots s.data.toList) (by omega) (dots s.data.toList) [] s rfl (by simp) (by omega)
/-- The labels, each by its place. -/
def oks : Bool → List (List UInt8) → Bool
  | _, [] => true
  | first, x :: r => (ordB x || (first && decide (x = [42]))) && oks false r
theorem labels_from (l : List (List UInt8)) (hl : l.length ≤ 1000001) (hsz : ∀ x ∈ l, x.length ≤ 1000000) : ∀ (r : List (List UInt8)) (i : Nat), l.drop i = r →
    Ev (fun k => dname_Valid.l0 k (l.map mkB) (((l.map mkB).length : Nat) : Int) (i : Int)) (oks (decide (i = 0)) r)
  | [], i, h => by
    have := drop_end h
    refine Ev_shift 1 (f := fun _ => some true) (fun k => ?_) (Ev_const rfl)
    rw [dname_Valid.l0, if_neg (by rw [List.length_map]; omega)]
  | x :: r, i, h => by
    obtain ⟨hi, hx, hr⟩ := drop_at h
    have hlm : (l.map mkB).length = l.length := List.length_map _
    have hrd : rdOf ByteArray.empty (l.map mkB) (i : Int) = mkB x := by
      simp [rdOf, List.getD_eq_getElem?_getD, List.getElem?_eq_getElem hi, hx]
    have ih := labels_from l hl hsz r (i + 1) hr
    have hxs : (mkB x).size ≤ 140737488351232 := by
      have := hsz x (hx ▸ List.getElem_mem hi)
      rw [mkB_size]
      omega
    have key : ∀ b : Bool, b = !(ordB x || (decide (i = 0) && decide (x = [42]))) → Ev (fun k => dname_Valid.j2 k (l.map mkB) (((l.map mkB).length : Nat) : Int) (i : Int) b) (oks (decide (i = 0)) (x :: r)) := by
      intro b hb
      rw [oks]
      cases hk : (ordB x || (decide (i = 0) && decide (x = [42]))) with
      | false =>
        rw [hk] at hb
        subst hb
        refine Ev_shift 1 (f := fun _ => some false) (fun k => ?_) (Ev_const rfl)
        rw [dname_Valid.j2]
        rfl
      | true =>
        rw [hk] at hb
        subst hb
        rw [Bool.true_and]
        have hi1 : decide (i + 1 = 0) = false := decide_eq_false (by omega)
        rw [hi1] at ih
        refine Ev_shift 1 (fun k => ?_) ih
        rw [dname_Valid.j2, next i l.length hi (by omega)]
        rfl
    refine Ev_shift 1 (fun k => by rw [dname_Valid.l0, if_pos (by omega), if_pos (by omega), if_pos (by omega), hrd]) ?_
    refine Ev.bind (ord_ev (mkB x) hxs) ?_
    rw [mkB_data]
    cases ho : ordB x with
    | true =>
      simp only [if_true]
      exact key false (by rw [ho]; rfl)
    | false =>
      simp only [Bool.false_eq_true, if_false]
      by_cases h0 : i = 0
      · subst h0
        simp only [if_neg (show ¬ ((0 : Nat) : Int) > 0 by omega)]
        refine key _ ?_
        rw [ho, toL, mkB_data]
        by_cases h42 : x = [42]
        · simp [h42]
        · have : (x != [42]) = true := by simpa using h42
          rw [this]
          simp [h42]
      · simp only [if_pos (show (i : Int) > 0 by omega)]
        exact key true (by rw [ho]; simp [h0])
end Go.Proofs.YtonpcojdpfmbkaaDoor.Cm
namespace Go.Proofs.YtonpcojdpfmbkaaDoor.Cm
open Go.RowKit Go.Proofs.YtonpcojdpfmbkaaDoorW.PrintWords Go.Proofs.YtonpcojdpfmbkaaDoorW.PrintLast Go.Proofs.YtonpcojdpfmbkaaDoorW.PrintMore Go.Proofs.YtonpcojdpfmbkaaDoor.XP Go.Proofs.YtonpcojdpfmbkaaDoor.QA
set_option linter.unusedVariables false
set_option linter.unusedSimpArgs false
/-- A domain name, by its bytes. -/
def nameB (l : List UInt8) : Bool := decide (l = [46]) || (decide (2 ≤ l.length ∧ l.length ≤ 254) && (decide (l.getLast? = some 46) && oks true (pcs [] l.dropLast)))
theorem wsub1 (n : Nat) (h : 1 ≤ n) (h2 : n ≤ 140737488351232) : wrap64 ((n : Int) - 1) = ((n - 1 : Nat) : Int) := by
  rw [wrap_id (by omega) (by omega)]
  omega
theorem wsub1' (n : Nat) (h : 1 ≤ n) (h2 : n ≤ 140737488351232) : wrap64 ((n : Int) - ((1 : Nat) : Int)) = ((n - 1 : Nat) : Int) := wsub1 n h h2
theorem last_iff (s : ByteArray) (h1 : 1 ≤ s.size) (hs : s.size ≤ 1000000) : (bt s ((s.size - 1 : Nat) : Int) = 46) ↔ s.data.toList.getLast? = some 46 := by
  have hsz := size_data s
  have hi : s.size - 1 < s.data.toList.length := by omega
  rw [bt_get s (s.size - 1) hi, List.getLast?_eq_getElem?, ← hsz, List.getElem?_eq_getElem hi]
  constructor
  · intro h
    have : (s.data.toList[s.size - 1]).toNat = 46 := by omega
    have h2 : s.data.toList[s.size - 1] = 46 := UInt8.toNat.inj this
    rw [h2]
  · intro h
    injection h with h
    rw [h]
    rfl
theorem suffix_val (s : ByteArray) (hs : s.size ≤ 1000000) : strings_HasSuffix.f s sep1 = some (decide (s.data.toList.getLast? = some 46)) := by
  have hsz := size_data s
  unfold strings_HasSuffix.f stringslite_HasSuffix.f
  have h1 : sep1.size = 1 := rfl
  rw [h1]
  by_cases h0 : 1 ≤ s.size
  · have hw : wrap64 ((s.size : Int) - ((1 : Nat) : Int)) = ((s.size - 1 : Nat) : Int) := by rw [wrap_id (by omega) (by omega)]; omega
    rw [if_pos (by omega), hw, if_pos (by omega), if_pos (by omega), Int.toNat_natCast, Option.bind_some, toL, toL]
    have hi : s.size - 1 < s.data.toList.length := by omega
    have e : (s.extract (s.size - 1) s.size).data.toList = [s.data.toList[s.size - 1]] := by
      rw [data_ext, List.drop_eq_getElem_cons hi, List.drop_eq_nil_of_le (by omega), List.take_of_length_le (by simp; omega)]
    rw [e, List.getLast?_eq_getElem?, ← hsz, List.getElem?_eq_getElem hi]
    congr 1
    rw [Bool.eq_iff_iff, beq_iff_eq, decide_eq_true_eq]
    show [_] = [46] ↔ _
    simp
  · have : s.data.toList = [] := List.length_eq_zero_iff.1 (by omega)
    rw [if_neg (by omega), Option.bind_some, this]
    rfl
theorem pcs_small : ∀ (l cur : List UInt8) (x : List UInt8), x ∈ pcs cur l → x.length ≤ cur.length + l.length
  | [], cur, x, h => by simp [pcs] at h; subst h; simp
  | c :: r, cur, x, h => by
    rw [pcs] at h
    split at h
    · rcases List.mem_cons.1 h with h | h
      · subst h; simp
      · have := pcs_small r [] x h; simp at this ⊢; omega
    · have := pcs_small r _ x h; simp at this ⊢; omega
theorem name_ev (s : ByteArray) (hs : s.size ≤ 140737488351232) : Ev (fun k => dname_Valid.f k s) (nameB s.data.toList) := by
  have hsz := size_data s
  unfold dname_Valid.f nameB
  rw [toL]
  by_cases h46 : s.data.toList = [46]
  · simp only [if_pos h46, h46, decide_true, Bool.true_or]
    exact Ev_const rfl
  · simp only [h46, if_false, decide_false, Bool.false_or]
    by_cases hbig : (s.size : Int) ≥ 255
    · simp only [if_pos hbig]
      have : decide (2 ≤ s.data.toList.length ∧ s.data.toList.length ≤ 254) = false := decide_eq_false (by omega)
      rw [this, Bool.false_and]
      exact Ev_shift 1 (f := fun _ => some false) (fun k => by rw [dname_Valid.j0, if_pos rfl]) (Ev_const rfl)
    · simp only [if_neg hbig]
      have hsf := suffix_val s (by omega)
      simp only [show (⟨#[46]⟩ : ByteArray) = sep1 from rfl, hsf, Option.bind_some]
      cases hl : decide (s.data.toList.getLast? = some 46) with
      | false =>
        rw [Bool.false_and, Bool.and_false]
        exact Ev_shift 1 (f := fun _ => some false) (fun k => by rw [dname_Valid.j0]; rfl) (Ev_const rfl)
      | true =>
        have hl' := of_decide_eq_true hl
        have hn2 : 2 ≤ s.data.toList.length := by
          cases hd : s.data.toList with
          | nil => rw [hd] at hl'; cases hl'
          | cons c r =>
            cases r with
            | nil =>
              rw [hd] at hl'
              have hl2 : c = 46 := by simpa using hl'
              exact absurd (by rw [hd, hl2]) h46
            | cons => simp
        have : decide (2 ≤ s.data.toList.length ∧ s.data.toList.length ≤ 254) = true := decide_eq_true (by omega)
        rw [this, Bool.true_and, Bool.true_and]
        refine Ev_shift 1 (fun k => by rw [dname_Valid.j0, Bool.not_true, if_neg (by decide), wsub1 s.size (by rw [hsz]; omega) hs, if_pos (by omega), if_pos (by omega), Int.toNat_natCast]) ?_
        have he : (s.extract 0 (s.size - 1)).data.toList = s.data.toList.dropLast := by
          rw [data_ext, List.drop_zero, Nat.sub_zero, List.dropLast_eq_take, hsz]
        have hes : (s.extract 0 (s.size - 1)).size ≤ 254 := by rw [size_data, he, List.length_dropLast]; omega
        have hsp := split_ev (s.extract 0 (s.size - 1)) (by omega)
        rw [he] at hsp
        refine Ev.bind hsp ?_
        have hdl : s.data.toList.dropLast.length ≤ 254 := by rw [List.length_dropLast]; omega
        have := labels_from (pcs [] s.data.toList.dropLast) (by have := pcs_len s.data.toList.dropLast []; have := dots_le s.data.toList.dropLast; omega) (fun x hx => by have := pcs_small _ _ x hx; simp at this; omega) _ 0 rfl
        exact this
/-! ### the reference's -/
theorem rsplit_from (s : ByteArray) (hs : s.size ≤ 254) : ∀ (r : List UInt8) (i st : Nat) (l : List ByteArray), s.data.toList.drop i = r → st ≤ i → dots ((s.data.toList.drop st).take (i - st)) = 0 → l.length ≤ i → (s.data.toList.getLast? = some 46) →
    ∃ q : List ByteArray, Ev (fun k => ddiref01_split.l0 k s l (st : Int) (i : Int)) (q, if r = [] then true else oks (decide (st = 0)) (pcs ((s.data.toList.drop st).take (i - st)) r.dropLast))
  | [], i, st, l, h, hst, hd, hl, hlast => by
    have := size_end s i h
    refine ⟨l, Ev_shift 1 (f := fun _ => some (l, true)) (fun k => ?_) (Ev_const rfl)⟩
    rw [ddiref01_split.l0, if_neg (by omega)]
  | c :: r, i, st, l, h, hst, hd, hl, hlast => by
    have hsz := size_data s
    obtain ⟨hi, hb, hr⟩ := bt_at_drop s i c r h
    have hlen : r.length = s.size - (i + 1) := by rw [← hr, List.length_drop]; omega
    have hsb : s.size ≤ 140737488351232 := by omega
    have hcur : (s.data.toList.drop st).take (i + 1 - st) = (s.data.toList.drop st).take (i - st) ++ [c] := by
      have : i - st < (s.data.toList.drop st).length := by rw [List.length_drop]; omega
      rw [show i + 1 - st = (i - st) + 1 by omega, List.take_succ_eq_append_getElem this]
      congr 2
      rw [List.getElem_drop]
      have h2 := (drop_at h).2.1
      rw [← h2]
      congr 1
      omega
    by_cases hc : c = 46
    · subst hc
      have hx : (s.extract st i).data.toList = (s.data.toList.drop st).take (i - st) := data_ext s st i
      generalize hcr : (s.data.toList.drop st).take (i - st) = cur at hx hd hcur
      have hxs : (s.extract st i).size ≤ 140737488351232 := by
        rw [size_data, hx, ← hcr, List.length_take, List.length_drop]
        omega
      have hgo : (labB cur && !(decide (cur = [42]) && decide (0 < st))) = (ordB cur || (decide (st = 0) && decide (cur = [42]))) := by
        unfold labB
        by_cases h42 : cur = [42]
        · have ho : ordB cur = false := by rw [h42]; decide
          by_cases h0 : st = 0
          · simp [h42, h0]
          · have : 0 < st := by omega
            rw [ho]
            simp [h42, h0, this]
        · simp [h42]
          skip
      have hpc : (if ((46 : UInt8) :: r) = [] then true else oks (decide (st = 0)) (pcs cur ((46 : UInt8) :: r).dropLast)) = ((ordB cur || (decide (st = 0) && decide (cur = [42]))) && (if r = [] then true else oks false (pcs [] r.dropLast))) := by
        rw [if_neg (List.cons_ne_nil _ _)]
        cases r with
        | nil => rw [if_pos rfl, show ([46] : List UInt8).dropLast = [] from rfl, pcs, oks, oks]
        | cons c2 r2 => rw [if_neg (List.cons_ne_nil _ _), List.dropLast_cons_of_ne_nil (List.cons_ne_nil _ _), pcs, if_pos rfl, oks]
      rw [hpc]
      have hj : ∀ b : Bool, b = !(ordB cur || (decide (st = 0) && decide (cur = [42]))) → ∃ q : List ByteArray, Ev (fun k => ddiref01_split.j2 k s l (i : Int) (s.extract st i) b) (q, (ordB cur || (decide (st = 0) && decide (cur = [42]))) && (if r = [] then true else oks false (pcs [] r.dropLast))) := by
        intro b hbk
        cases hk : (ordB cur || (decide (st = 0) && decide (cur = [42]))) with
        | false =>
          rw [hk] at hbk
          subst hbk
          refine ⟨[], Ev_shift 1 (f := fun _ => some ([], false)) (fun k => ?_) (Ev_const rfl)⟩
          rw [ddiref01_split.j2]
          rfl
        | true =>
          rw [hk] at hbk
          subst hbk
          obtain ⟨q, ih⟩ := rsplit_from s hs r (i + 1) (i + 1) (l ++ [s.extract st i]) hr (Nat.le_refl _) (by rw [Nat.sub_self, List.take_zero]; rfl) (by simp; omega) hlast
          rw [Nat.sub_self, List.take_zero, show decide (i + 1 = 0) = false from decide_eq_false (by omega)] at ih
          refine ⟨q, Ev_shift 1 (fun k => ?_) (by rw [Bool.true_and]; exact ih)⟩
          rw [ddiref01_split.j2, Bool.not_true, if_neg (by decide), if_pos (by omega), next i s.size hi (by omega)]
      have hlab := lab_ev (s.extract st i) hxs
      rw [hx] at hlab
      have hfst : ∃ b : Bool, b = !(ordB cur || (decide (st = 0) && decide (cur = [42]))) ∧ ∀ q v, Ev (fun k => ddiref01_split.j2 k s l (i : Int) (s.extract st i) b) (q, v) → Ev (fun k => ddiref01_split.l0 k s l (st : Int) (i : Int)) (q, v) := by
        refine ⟨_, rfl, fun q v hq => ?_⟩
        refine Ev_shift 1 (fun k => by rw [ddiref01_split.l0, if_pos (by omega), if_pos (by omega), hb, if_pos (by rfl), if_pos (by omega), if_pos (by omega), if_pos (by omega), Int.toNat_natCast, Int.toNat_natCast]) ?_
        refine Ev.bind hlab ?_
        rw [toL, hx]
        rw [← hgo] at hq
        cases hl2 : labB cur with
        | false =>
          rw [hl2] at hq
          simp only [Bool.false_eq_true, if_false]
          exact hq
        | true =>
          rw [hl2] at hq
          simp only [if_true]
          by_cases h42 : cur = [42]
          · simp only [if_pos h42]
            rw [show decide ((st : Int) > 0) = decide (0 < st) from by rw [Bool.eq_iff_iff]; simp]
            simpa [h42] using hq
          · simp only [if_neg h42]
            simpa [h42] using hq
      obtain ⟨b, hb1, hb2⟩ := hfst
      obtain ⟨q, hq⟩ := hj b hb1
      exact ⟨q, hb2 q _ hq⟩
    · have hcn : ¬ (c.toNat : Int) = 46 := by
        intro e
        exact hc (UInt8.toNat.inj (by show c.toNat = 46; omega))
      have hd2 : dots ((s.data.toList.drop st).take (i + 1 - st)) = 0 := by
        rw [hcur, dots, List.count_append, List.count_singleton]
        have : (c == 46) = false := by simpa using hc
        rw [this]
        simpa [dots] using hd
      have hrn : r ≠ [] := by
        rintro rfl
        have : s.data.toList.getLast? = some c := by
          rw [← List.take_append_drop i s.data.toList, h]
          simp
        rw [this] at hlast
        injection hlast with hlast
        exact hc hlast
      obtain ⟨q, ih⟩ := rsplit_from s hs r (i + 1) st l hr (by omega) hd2 (by omega) hlast
      refine ⟨q, Ev_shift 1 (f := fun k => ddiref01_split.l0 k s l (st : Int) ((i + 1 : Nat) : Int)) (fun k => ?_) ?_⟩
      · rw [ddiref01_split.l0, if_pos (by omega), if_pos (by omega), hb, if_neg hcn, next i s.size hi (by omega)]
      · rw [if_neg (List.cons_ne_nil _ _), List.dropLast_cons_of_ne_nil hrn, pcs, if_neg hc, ← hcur]
        rw [if_neg hrn] at ih
        exact ih
theorem rname_ev (s : ByteArray) (hs : s.size ≤ 140737488351232) : Ev (fun k => ddiref01_Valid.f k s) (nameB s.data.toList) := by
  have hsz := size_data s
  unfold ddiref01_Valid.f ddiref01_split.f nameB
  rw [toL]
  have hbad : ∀ v : Bool, v = false → Ev (fun k => (ddiref01_split.j0 k s true).bind fun bt => some bt.2) v := by
    rintro v rfl
    refine Ev.bind (a := (([] : List ByteArray), false)) ?_ (Ev_const rfl)
    exact Ev_shift 1 (f := fun _ => some ([], false)) (fun k => by rw [ddiref01_split.j0, if_pos rfl]) (Ev_const rfl)
  by_cases h46 : s.data.toList = [46]
  · simp only [if_pos h46, h46, decide_true, Bool.true_or, Option.bind_some]
    exact Ev_const rfl
  · simp only [h46, if_false, decide_false, Bool.false_or]
    by_cases h2 : (s.size : Int) < 2
    · simp only [if_pos h2]
      exact hbad _ (by rw [show decide (2 ≤ s.data.toList.length ∧ s.data.toList.length ≤ 254) = false from decide_eq_false (by omega)]; rfl)
    · simp only [if_neg h2]
      by_cases h254 : (s.size : Int) > 254
      · simp only [if_pos h254]
        exact hbad _ (by rw [show decide (2 ≤ s.data.toList.length ∧ s.data.toList.length ≤ 254) = false from decide_eq_false (by omega)]; rfl)
      · simp only [if_neg h254]
        simp only [wsub1 s.size (by omega) hs, if_pos (show (0 : Int) ≤ ((s.size - 1 : Nat) : Int) by omega), if_pos (show ((s.size - 1 : Nat) : Int) < (s.size : Int) by omega)]
        rw [show decide (2 ≤ s.data.toList.length ∧ s.data.toList.length ≤ 254) = true from decide_eq_true (by omega), Bool.true_and]
        have hli := last_iff s (by omega) (by omega)
        by_cases hl : s.data.toList.getLast? = some 46
        · have hb : (bt s ((s.size - 1 : Nat) : Int) != 46) = false := by simpa using hli.2 hl
          rw [hb, hl, decide_eq_true rfl, Bool.true_and]
          obtain ⟨q, hq⟩ := rsplit_from s (by omega) s.data.toList 0 0 [] rfl (Nat.le_refl _) (by rw [Nat.sub_self, List.take_zero]; rfl) (by simp) hl
          have hne : s.data.toList ≠ [] := by
            intro e
            rw [e] at hl
            cases hl
          rw [if_neg hne, Nat.sub_self, List.take_zero] at hq
          refine Ev.bind (Ev_shift 1 (fun k => by rw [ddiref01_split.j0, if_neg (by decide)]; rfl) hq) (Ev_const rfl)
        · have hb : (bt s ((s.size - 1 : Nat) : Int) != 46) = true := by
            rw [bne_iff_ne]
            exact fun e => hl (hli.1 e)
          rw [hb]
          exact hbad _ (by rw [decide_eq_false hl]; rfl)
end Go.Proofs.YtonpcojdpfmbkaaDoor.Cm
namespace Go.Proofs.YtonpcojdpfmbkaaDoor.Cm
open Go.RowKit Go.Proofs.YtonpcojdpfmbkaaDoorW.PrintWords Go.Proofs.YtonpcojdpfmbkaaDoorW.PrintLast Go.Proofs.YtonpcojdpfmbkaaDoorW.PrintMore Go.Proofs.YtonpcojdpfmbkaaDoor.XP Go.Proofs.YtonpcojdpfmbkaaDoor.QA
set_option linter.unusedVariables false
set_option linter.unusedSimpArgs false
theorem rdAddr (l : List S29) (i : Nat) (h : i < l.length) : rd_T29 l (i : Int) = l[i] := by
  simp [rd_T29, List.getD_eq_getElem?_getD, List.getElem?_eq_getElem h]
def ea (a x : S29) : Bool := a.f0 == x.f0 && (a.f1 == x.f1 && (a.f2 == x.f2))
theorem ea_iff (a x : S29) : ea a x = true ↔ a = x := by
  obtain ⟨a0, a1, a2⟩ := a
  obtain ⟨x0, x1, x2⟩ := x
  simp [ea]
theorem ea_self (a : S29) : ea a a = true := (ea_iff a a).2 rfl
theorem ea_comm (a x : S29) : ea a x = ea x a := by
  rw [Bool.eq_iff_iff, ea_iff, ea_iff]
  exact ⟨Eq.symm, Eq.symm⟩
theorem ea_ne (a x : S29) : ea a x = false ↔ a ≠ x := by
  rw [← Bool.not_eq_true, ea_iff]
def cmp (a b : S29) : Int := if (a.f0 != b.f0) = true then (if b.f0 = true then -1 else 1) else (if a.f1 = b.f1 then (if a.f2 < b.f2 then -1 else (if a.f2 > b.f2 then 1 else 0)) else (if a.f1 < b.f1 then -1 else 1))
theorem rcmp (a b : S29) : ddiref02_Compare.f a.f0 a.f1 a.f2 b.f0 b.f1 b.f2 = some (cmp a b) := by
  unfold ddiref02_Compare.f cmp
  repeat' split
  all_goals first | rfl | omega
theorem num (a b : Int) : addr_number.f a b = some (if a < b then -1 else (if a > b then 1 else 0)) := by
  unfold addr_number.f
  repeat' split
  all_goals rfl
theorem ucmp (a b : S29) : Ev (fun k => addr_Compare.f k a.f0 a.f1 a.f2 b.f0 b.f1 b.f2) (cmp a b) := by
  refine Ev_shift 1 (f := fun _ => some (cmp a b)) (fun k => ?_) (Ev_const rfl)
  unfold addr_Compare.f addr_Compare.j0 cmp
  simp only [num]
  cases h0 : a.f0 <;> cases h1 : b.f0 <;> simp
  all_goals
    by_cases h : a.f1 = b.f1
    · simp [h]
    · simp only [h, if_false]
      by_cases h2 : a.f1 < b.f1
      · simp [h2]
      · simp [h2]
        omega
theorem cmp_cases (a b : S29) : cmp a b = -1 ∨ cmp a b = 0 ∨ cmp a b = 1 := by
  unfold cmp
  repeat' split
  all_goals omega
theorem cmp_zero (a b : S29) : cmp a b = 0 ↔ a = b := by
  obtain ⟨a0, a1, a2⟩ := a
  obtain ⟨b0, b1, b2⟩ := b
  simp only [cmp, S29.mk.injEq]
  cases a0 <;> cases b0 <;> simp <;> repeat' split
  all_goals omega
theorem cmp_self (a : S29) : cmp a a = 0 := (cmp_zero a a).2 rfl
theorem cmp_flip (a b : S29) : cmp b a = -cmp a b := by
  obtain ⟨a0, a1, a2⟩ := a
  obtain ⟨b0, b1, b2⟩ := b
  simp only [cmp]
  cases a0 <;> cases b0 <;> simp <;> repeat' split
  all_goals omega
theorem cmp_trans {a b c : S29} : cmp a b < 0 → cmp b c < 0 → cmp a c < 0 := by
  obtain ⟨a0, a1, a2⟩ := a
  obtain ⟨b0, b1, b2⟩ := b
  obtain ⟨c0, c1, c2⟩ := c
  simp only [cmp]
  cases a0 <;> cases b0 <;> cases c0 <;> simp <;> repeat' split
  all_goals omega
end Go.Proofs.YtonpcojdpfmbkaaDoor.Cm
namespace Go.Proofs.YtonpcojdpfmbkaaDoor.Ma
open Go.RowKit Go.Proofs.YtonpcojdpfmbkaaDoorW.PrintWords Go.Proofs.YtonpcojdpfmbkaaDoorW.PrintLast Go.Proofs.YtonpcojdpfmbkaaDoorW.PrintMore Go.Proofs.YtonpcojdpfmbkaaDoor.XP Go.Proofs.YtonpcojdpfmbkaaDoor.QA Go.Proofs.YtonpcojdpfmbkaaDoor.Cm
set_option linter.unusedVariables false
set_option linter.unusedSimpArgs false
def vis (c : UInt8) : Bool := decide (33 ≤ c.toNat) && decide (c.toNat ≤ 126)
def szB (n : Nat) : Bool := decide (1 ≤ n) && decide (n ≤ 32)
theorem vis_at (c : UInt8) {β : Type} (g : Bool → β) : (if (c.toNat : Int) < 33 then g true else g (decide ((c.toNat : Int) > 126))) = g (!vis c) := by
  unfold vis
  split
  · rw [decide_eq_false (show ¬ 33 ≤ c.toNat by omega)]; rfl
  · rw [decide_eq_true (show 33 ≤ c.toNat by omega), Bool.true_and]
    congr 1
    rw [Bool.eq_iff_iff]
    simp
    omega
theorem cli_from (s : ByteArray) (hs : s.size ≤ 140737488351232) : ∀ (r : List UInt8) (i : Nat), s.data.toList.drop i = r → Ev (fun k => lease_isClient.l0 k s (i : Int)) (r.all vis && szB s.size)
  | [], i, h => by
    have := size_end s i h
    refine Ev_shift 1 (f := fun _ => some (szB s.size)) (fun k => ?_) (Ev_const rfl)
    rw [lease_isClient.l0, if_neg (by omega)]
    unfold szB
    by_cases h1 : 1 ≤ s.size
    · rw [if_pos (by omega), decide_eq_true h1, Bool.true_and]
      congr 1
      rw [Bool.eq_iff_iff]
      simp
      omega
    · rw [if_neg (by omega), decide_eq_false h1]; rfl
  | c :: r, i, h => by
    obtain ⟨hi, hb, hr⟩ := bt_at_drop s i c r h
    have ih := cli_from s hs r (i + 1) hr
    refine Ev_shift 1 (f := fun k => lease_isClient.j1 k s (i : Int) (!vis c)) (fun k => ?_) ?_
    · rw [lease_isClient.l0, if_pos (by omega), if_pos (by omega), hb]
      exact vis_at c (fun b => lease_isClient.j1 k s (i : Int) b)
    · rw [List.all_cons]
      cases vis c with
      | false => exact Ev_shift 1 (f := fun _ => some false) (fun k => by rw [lease_isClient.j1]; rfl) (Ev_const rfl)
      | true =>
        rw [Bool.true_and]
        exact Ev_shift 1 (fun k => by rw [lease_isClient.j1, next i s.size hi (by omega)]; rfl) ih
theorem rcli_from (s : ByteArray) (hs : s.size ≤ 140737488351232) : ∀ (r : List UInt8) (i : Nat), s.data.toList.drop i = r → Ev (fun k => ddiref38_Client.l0 k s (i : Int)) (r.all vis)
  | [], i, h => by
    have := size_end s i h
    exact Ev_shift 1 (f := fun _ => some true) (fun k => by rw [ddiref38_Client.l0, if_neg (by omega)]) (Ev_const rfl)
  | c :: r, i, h => by
    obtain ⟨hi, hb, hr⟩ := bt_at_drop s i c r h
    have ih := rcli_from s hs r (i + 1) hr
    refine Ev_shift 1 (f := fun k => ddiref38_Client.j2 k s (i : Int) (!vis c)) (fun k => ?_) ?_
    · rw [ddiref38_Client.l0, if_pos (by omega), if_pos (by omega), hb]
      exact vis_at c (fun b => ddiref38_Client.j2 k s (i : Int) b)
    · rw [List.all_cons]
      cases vis c with
      | false => exact Ev_shift 1 (f := fun _ => some false) (fun k => by rw [ddiref38_Client.j2]; rfl) (Ev_const rfl)
      | true =>
        rw [Bool.true_and]
        exact Ev_shift 1 (fun k => by rw [ddiref38_Client.j2, next i s.size hi (by omega)]; rfl) ih
def cliB (s : ByteArray) : Bool := s.data.toList.all vis && szB s.size
theorem cli_ev (s : ByteArray) (hs : s.size ≤ 140737488351232) : Ev (fun k => lease_isClient.f k s) (cliB s) := by
  unfold lease_isClient.f
  exact cli_from s hs s.data.toList 0 rfl
theorem rcli_ev (s : ByteArray) (hs : s.size ≤ 140737488351232) : Ev (fun k => ddiref38_Client.f k s) (cliB s) := by
  unfold ddiref38_Client.f cliB
  have hj : ∀ b : Bool, b = !szB s.size → Ev (fun k => ddiref38_Client.j0 k s b) (s.data.toList.all vis && szB s.size) := by
    intro b hb
    cases h : szB s.size with
    | false =>
      rw [h] at hb
      subst hb
      rw [Bool.and_false]
      exact Ev_shift 1 (f := fun _ => some false) (fun k => by rw [ddiref38_Client.j0]; rfl) (Ev_const rfl)
    | true =>
      rw [h] at hb
      subst hb
      rw [Bool.and_true]
      exact Ev_shift 1 (fun k => by rw [ddiref38_Client.j0]; rfl) (rcli_from s hs s.data.toList 0 rfl)
  by_cases h : (s.size : Int) < 1
  · simp only [if_pos h]
    exact hj true (by unfold szB; rw [decide_eq_false (by omega)]; rfl)
  · simp only [if_neg h]
    refine hj _ ?_
    unfold szB
    rw [decide_eq_true (show 1 ≤ s.size by omega), Bool.true_and, Bool.eq_iff_iff]
    simp
    omega
def hostB (s : ByteArray) : Bool := decide (s.data.toList = []) || nameB s.data.toList
theorem host_ev (s : ByteArray) (hs : s.size ≤ 140737488351232) : Ev (fun k => lease_isHost.f k s) (hostB s) := by
  unfold lease_isHost.f hostB
  rw [toL]
  by_cases h : s.data.toList = []
  · simp only [if_pos h, h, decide_true, Bool.true_or, if_true]
    exact Ev_const rfl
  · simp only [h, decide_false, Bool.false_or, if_false]
    exact Ev.bind (name_ev s hs) (Ev_const rfl)
def timeB (t : Int) : Bool := decide (0 ≤ t) && decide (t ≤ 4294967295)
theorem time_v (t : Int) : lease_isTime.f t = some (timeB t) := by
  unfold lease_isTime.f timeB
  by_cases h : t ≥ 0
  · rw [if_pos h, decide_eq_true h, Bool.true_and]
  · rw [if_neg h, decide_eq_false h]; rfl
theorem rtime_v (t : Int) : ddiref38_Time.f t = some (timeB t) := time_v t
theorem xid_v (t : Int) : lease_isXID.f t = some (timeB t) := by
  unfold lease_isXID.f timeB
  by_cases h : t ≥ 0
  · rw [if_pos h, decide_eq_true h, Bool.true_and]
    congr 1
    rw [Bool.eq_iff_iff]
    simp
    omega
  · rw [if_neg h, decide_eq_false h]; rfl
def adB (x : S29) : Bool := x.f0 || (decide (x.f1 = 0) && decide (x.f2 ≤ 4294967295))
theorem ad_v (x : S29) : addr_Valid.f x.f0 x.f1 x.f2 = some (adB x) := by
  unfold addr_Valid.f adB
  by_cases h : x.f0 = true
  · rw [if_pos h, h]; rfl
  · have : x.f0 = false := by simpa using h
    rw [if_neg h, this, Bool.false_or]
    by_cases h1 : x.f1 = 0
    · rw [if_pos h1, decide_eq_true h1, Bool.true_and]
    · rw [if_neg h1, decide_eq_false h1]; rfl
theorem rad_v (x : S29) : ddiref02_Valid.f x.f0 x.f1 x.f2 = some (adB x) := by
  rw [← ad_v]
  unfold ddiref02_Valid.f addr_Valid.f
  split
  · rfl
  · split
    · congr 1
      rw [Bool.eq_iff_iff]
      simp
      omega
    · rfl
/-- A lease's own form: 3 the address, 1 the arguments, 2 the name, 0 in order. -/
def argB (x : S41) : Bool := decide (1 ≤ x.f2) && (decide (x.f2 ≤ 5) && (cliB x.f1 && (timeB x.f6 && (timeB x.f3 && (timeB x.f4 && decide (x.f3 ≤ x.f4))))))
def one (x : S41) : Int := if adB x.f0 = true then (if argB x = true then (if hostB x.f5 = true then 0 else 2) else 1) else 3
def upB : Option S29 → S29 → Bool
  | none, _ => true
  | some p, a => decide (cmp p a < 0)
def chk (p : Option S29) : List S41 → Int
  | [] => 0
  | x :: r => if adB x.f0 = true then (if upB p x.f0 = true then (if one x = 0 then chk (some x.f0) r else one x) else 7) else 3
end Go.Proofs.YtonpcojdpfmbkaaDoor.Ma
namespace Go.Proofs.YtonpcojdpfmbkaaDoor.Ma
open Go.RowKit Go.Proofs.YtonpcojdpfmbkaaDoorW.PrintWords Go.Proofs.YtonpcojdpfmbkaaDoorW.PrintLast Go.Proofs.YtonpcojdpfmbkaaDoorW.PrintMore Go.Proofs.YtonpcojdpfmbkaaDoor.XP Go.Proofs.YtonpcojdpfmbkaaDoor.QA Go.Proofs.YtonpcojdpfmbkaaDoor.Cm
set_option linter.unusedVariables false
set_option linter.unusedSimpArgs false
theorem rd41 (l : List S41) (i : Nat) (x : S41) (r : List S41) (h : l.drop i = x :: r) : i < l.length ∧ rd_T41 l (i : Int) = x ∧ l.drop (i + 1) = r := by
  obtain ⟨hi, hx, hr⟩ := drop_at h
  refine ⟨hi, ?_, hr⟩
  simp [rd_T41, List.getD_eq_getElem?_getD, List.getElem?_eq_getElem hi, hx]
theorem one_true (x : S41) (h1 : adB x.f0 = true) : one x = if argB x = true then (if hostB x.f5 = true then 0 else 2) else 1 := by
  unfold one
  rw [if_pos h1]
theorem j3_ev (l : List S41) (n i : Int) (x : S41) (hx : okS41 x) (R : Int) (hR : Ev (fun k => lease_Check.l0 k l l n (wrap64 (i + 1))) R) (b : Bool) : Ev (fun k => lease_Check.j3 k l l n i b x.f0.f0 x.f0.f1 x.f0.f2 x.f1 x.f2 x.f3 x.f4 x.f5 x.f6) (if b = true then 1 else (if hostB x.f5 = true then R else 2)) := by
  cases b with
  | true => exact Ev_shift 1 (f := fun _ => some 1) (fun k => by rw [lease_Check.j3, if_pos rfl]) (Ev_const rfl)
  | false =>
    refine Ev_shift 1 (fun k => by rw [lease_Check.j3, if_neg Bool.false_ne_true]) ?_
    refine Ev.bind (host_ev x.f5 hx.2.2.2.2.2.1) ?_
    cases hostB x.f5 with
    | false => exact Ev_const rfl
    | true => exact hR
theorem j2_ev (l : List S41) (n i : Int) (x : S41) (hx : okS41 x) (R : Int) (hR : Ev (fun k => lease_Check.l0 k l l n (wrap64 (i + 1))) R) (b : Bool) : Ev (fun k => lease_Check.j2 k l l n i b x.f0.f0 x.f0.f1 x.f0.f2 x.f1 x.f2 x.f3 x.f4 x.f5 x.f6) (if b = true then 1 else (if (timeB x.f3 && (timeB x.f4 && decide (x.f3 ≤ x.f4))) = true then (if hostB x.f5 = true then R else 2) else 1)) := by
  cases b with
  | true => exact Ev_shift 1 (f := fun _ => some 1) (fun k => by rw [lease_Check.j2, if_pos rfl]) (Ev_const rfl)
  | false =>
    refine Ev_shift 1 (fun k => by rw [lease_Check.j2, if_neg Bool.false_ne_true, time_v, time_v]) ?_
    have h3 := j3_ev l n i x hx R hR
    cases timeB x.f3 with
    | false => exact h3 true
    | true =>
      cases timeB x.f4 with
      | false => exact h3 true
      | true =>
        by_cases h : x.f3 ≤ x.f4
        · rw [decide_eq_true h]
          have := h3 (decide (x.f3 > x.f4))
          rw [decide_eq_false (show ¬ x.f3 > x.f4 by omega)] at this
          simp only [Option.bind_some, if_true, decide_eq_false (show ¬ x.f3 > x.f4 by omega)]
          exact this
        · rw [decide_eq_false h]
          have := h3 (decide (x.f3 > x.f4))
          rw [decide_eq_true (show x.f3 > x.f4 by omega)] at this
          simp only [Option.bind_some, if_true, decide_eq_true (show x.f3 > x.f4 by omega)]
          exact this
theorem j1_ev (l : List S41) (n i : Int) (x : S41) (hx : okS41 x) (had : adB x.f0 = true) (R : Int) (hR : Ev (fun k => lease_Check.l0 k l l n (wrap64 (i + 1))) R) (u b : Bool) (hb : b = !u) : Ev (fun k => lease_Check.j1 k l l n i b x.f0.f0 x.f0.f1 x.f0.f2 x.f1 x.f2 x.f3 x.f4 x.f5 x.f6) (if u = true then (if one x = 0 then R else one x) else 7) := by
  subst hb
  cases u with
  | false => exact Ev_shift 1 (f := fun _ => some 7) (fun k => by rw [lease_Check.j1, Bool.not_false, if_pos rfl]) (Ev_const rfl)
  | true =>
    have h2 := j2_ev l n i x hx R hR
    have hg : (if one x = 0 then R else one x) = if (!(decide (1 ≤ x.f2) && (decide (x.f2 ≤ 5) && (cliB x.f1 && timeB x.f6)))) = true then 1 else (if (timeB x.f3 && (timeB x.f4 && decide (x.f3 ≤ x.f4))) = true then (if hostB x.f5 = true then R else 2) else 1) := by
      rw [one_true x had]
      unfold argB
      cases decide (1 ≤ x.f2) <;> cases decide (x.f2 ≤ 5) <;> cases cliB x.f1 <;> cases timeB x.f6 <;> cases timeB x.f3 <;> cases timeB x.f4 <;> cases decide (x.f3 ≤ x.f4) <;> cases hostB x.f5 <;> rfl
    rw [if_pos rfl, hg]
    refine Ev_shift 1 (fun k => by rw [lease_Check.j1, Bool.not_true, if_neg Bool.false_ne_true]) ?_
    by_cases h1 : x.f2 < 1
    · simp only [if_pos h1, decide_eq_false (show ¬ 1 ≤ x.f2 by omega), Bool.false_and, Bool.not_false]
      exact h2 true
    · simp only [if_neg h1, decide_eq_true (show 1 ≤ x.f2 by omega), Bool.true_and]
      by_cases h5 : x.f2 > 5
      · simp only [if_pos h5, decide_eq_false (show ¬ x.f2 ≤ 5 by omega), Bool.false_and, Bool.not_false]
        exact h2 true
      · simp only [if_neg h5, decide_eq_true (show x.f2 ≤ 5 by omega), Bool.true_and]
        refine Ev.bind (cli_ev x.f1 hx.2.1) ?_
        cases cliB x.f1 with
        | false => exact h2 true
        | true =>
          simp only [if_true, xid_v, Option.bind_some, Bool.true_and]
          exact h2 _
theorem check_from (l : List S41) (hl : l.length ≤ 140737488351232) (ok : ∀ y ∈ l, okS41 y) : ∀ (r : List S41) (i : Nat) (p : Option S29), l.drop i = r → (i = 0 → p = none) → (∀ j : Nat, i = j + 1 → p = some (rd_T41 l (j : Int)).f0) → Ev (fun k => lease_Check.l0 k l l (l.length : Int) (i : Int)) (chk p r)
  | [], i, p, h, _, _ => by
    have := drop_end h
    exact Ev_shift 1 (f := fun _ => some 0) (fun k => by rw [lease_Check.l0, if_neg (by omega)]) (Ev_const rfl)
  | x :: r, i, p, h, hp0, hp1 => by
    obtain ⟨hi, hx, hr⟩ := rd41 l i x r h
    have hxl : x ∈ l := List.mem_of_mem_drop (i := i) (by rw [h]; exact List.mem_cons_self ..)
    have ih := check_from l hl ok r (i + 1) (some x.f0) hr (fun e => by omega) (fun j e => by
      have : j = i := by omega
      rw [this, hx])
    rw [← next i l.length hi (by omega)] at ih
    unfold chk
    cases had : adB x.f0 with
    | false => exact Ev_shift 1 (f := fun _ => some 3) (fun k => by rw [lease_Check.l0, if_pos (by omega), if_pos (by omega), if_pos (by omega), hx, ad_v, had]; rfl) (Ev_const rfl)
    | true =>
      rw [if_pos rfl]
      have h1 := j1_ev l (l.length : Int) (i : Int) x (ok x hxl) had _ ih (upB p x.f0)
      cases i with
      | zero =>
        rw [hp0 rfl]
        refine Ev_shift 1 (fun k => by rw [lease_Check.l0, if_pos (by omega), if_pos (by omega), if_pos (by omega), hx, ad_v, had, Option.bind_some, if_pos rfl, if_neg (by omega)]) ?_
        rw [hp0 rfl] at h1
        exact h1 false rfl
      | succ j =>
        have hpj := hp1 j rfl
        have hj : (wrap64 (((j + 1 : Nat) : Int) - 1)) = (j : Int) := wsub1 (j + 1) (by omega) (by omega)
        have e0 : (0 : Int) ≤ (j : Int) := by omega
        have e1 : (j : Int) < (l.length : Int) := by omega
        have e2 : ((j + 1 : Nat) : Int) > 0 := by omega
        refine Ev_shift 1 (fun k => by rw [lease_Check.l0, if_pos (by omega), if_pos (by omega), if_pos (by omega), hx, ad_v, had, Option.bind_some, if_pos rfl, if_pos e2, hj, if_pos e0, if_pos e1]) ?_
        refine Ev.bind (ucmp (rd_T41 l (j : Int)).f0 x.f0) ?_
        refine h1 _ ?_
        rw [hpj]
        unfold upB
        rw [Bool.eq_iff_iff]
        simp
theorem rone_ev (x : S41) (hx : okS41 x) : Ev (fun k => ddiref38_One.f k x.f0.f0 x.f0.f1 x.f0.f2 x.f1 x.f2 x.f3 x.f4 x.f5 x.f6) (one x) := by
  unfold ddiref38_One.f
  simp only [rad_v, Option.bind_some]
  cases had : adB x.f0 with
  | false => exact Ev_const (by unfold one; rw [had]; rfl)
  | true =>
    rw [one_true x had]
    have hj1 : ∀ b : Bool, Ev (fun k => ddiref38_One.j1 k b) (if b = true then 2 else 0) := by
      intro b
      refine Ev_shift 1 (f := fun _ => some (if b = true then 2 else 0)) (fun k => ?_) (Ev_const rfl)
      rw [ddiref38_One.j1]
      cases b <;> rfl
    have hj0 : ∀ b : Bool, b = !argB x → Ev (fun k => ddiref38_One.j0 k b x.f0.f0 x.f0.f1 x.f0.f2 x.f1 x.f2 x.f3 x.f4 x.f5 x.f6) (if argB x = true then (if hostB x.f5 = true then 0 else 2) else 1) := by
      rintro b rfl
      cases argB x with
      | false => exact Ev_shift 1 (f := fun _ => some 1) (fun k => by rw [ddiref38_One.j0, Bool.not_false, if_pos rfl]) (Ev_const rfl)
      | true =>
        refine Ev_shift 1 (fun k => by rw [ddiref38_One.j0, Bool.not_true, if_neg Bool.false_ne_true, toL]) ?_
        unfold hostB
        by_cases h : x.f5.data.toList = []
        · simp only [h, decide_true, Bool.true_or, if_true]
          exact hj1 false
        · simp only [h, decide_false, Bool.false_or, if_false]
          refine Ev.bind (rname_ev x.f5 hx.2.2.2.2.2.1) ?_
          have := hj1 (!nameB x.f5.data.toList)
          cases hn : nameB x.f5.data.toList <;> rw [hn] at this <;> exact this
    simp only [if_true, rtime_v, Option.bind_some]
    by_cases h1 : x.f2 < 1
    · simp only [if_pos h1]
      exact hj0 true (by unfold argB; rw [decide_eq_false (show ¬ 1 ≤ x.f2 by omega)]; rfl)
    · simp only [if_neg h1]
      have a1 : decide (1 ≤ x.f2) = true := decide_eq_true (by omega)
      by_cases h5 : x.f2 > 5
      · simp only [if_pos h5]
        exact hj0 true (by unfold argB; rw [a1, decide_eq_false (show ¬ x.f2 ≤ 5 by omega)]; rfl)
      · simp only [if_neg h5]
        have a5 : decide (x.f2 ≤ 5) = true := decide_eq_true (by omega)
        refine Ev.bind (rcli_ev x.f1 hx.2.1) ?_
        have hab : argB x = (cliB x.f1 && (timeB x.f6 && (timeB x.f3 && (timeB x.f4 && decide (x.f3 ≤ x.f4))))) := by
          unfold argB
          rw [a1, a5, Bool.true_and, Bool.true_and]
        cases hc : cliB x.f1 with
        | false =>
          simp only [Bool.false_eq_true, if_false]
          exact hj0 true (by rw [hab, hc]; rfl)
        | true =>
          cases h3 : timeB x.f3 with
          | false =>
            simp only [Bool.false_eq_true, if_false, if_true]
            exact hj0 true (by rw [hab, h3]; cases cliB x.f1 <;> cases timeB x.f6 <;> rfl)
          | true =>
            cases h4 : timeB x.f4 with
            | false =>
              simp only [Bool.false_eq_true, if_false, if_true]
              exact hj0 true (by rw [hab, h4]; cases cliB x.f1 <;> cases timeB x.f6 <;> cases timeB x.f3 <;> rfl)
            | true =>
              by_cases h : x.f3 > x.f4
              · simp only [if_true, if_pos h]
                exact hj0 true (by rw [hab, decide_eq_false (show ¬ x.f3 ≤ x.f4 by omega)]; cases cliB x.f1 <;> cases timeB x.f6 <;> cases timeB x.f3 <;> cases timeB x.f4 <;> rfl)
              · simp only [if_true, if_neg h]
                exact hj0 _ (by rw [hab, hc, h3, h4, decide_eq_true (show x.f3 ≤ x.f4 by omega)]; cases timeB x.f6 <;> rfl)
theorem rcheck_from (l : List S41) (hl : l.length ≤ 140737488351232) (ok : ∀ y ∈ l, okS41 y) : ∀ (r : List S41) (i : Nat) (p : Option S29), l.drop i = r → (i = 0 → p = none) → (∀ j : Nat, i = j + 1 → p = some (rd_T41 l (j : Int)).f0) → Ev (fun k => ddiref38_Check.l0 k l (i : Int)) (chk p r)
  | [], i, p, h, _, _ => by
    have := drop_end h
    exact Ev_shift 1 (f := fun _ => some 0) (fun k => by rw [ddiref38_Check.l0, if_neg (by omega)]) (Ev_const rfl)
  | x :: r, i, p, h, hp0, hp1 => by
    obtain ⟨hi, hx, hr⟩ := rd41 l i x r h
    have hxl : x ∈ l := List.mem_of_mem_drop (i := i) (by rw [h]; exact List.mem_cons_self ..)
    have ih := rcheck_from l hl ok r (i + 1) (some x.f0) hr (fun e => by omega) (fun j e => by
      have : j = i := by omega
      rw [this, hx])
    rw [← next i l.length hi (by omega)] at ih
    unfold chk
    cases had : adB x.f0 with
    | false => exact Ev_shift 1 (f := fun _ => some 3) (fun k => by rw [ddiref38_Check.l0, if_pos (by omega), if_pos (by omega), hx, rad_v, had]; rfl) (Ev_const rfl)
    | true =>
      rw [if_pos rfl]
      have h1 : ∀ b : Bool, b = !upB p x.f0 → Ev (fun k => ddiref38_Check.j1 k l (i : Int) b) (if upB p x.f0 = true then (if one x = 0 then chk (some x.f0) r else one x) else 7) := by
        rintro b rfl
        cases upB p x.f0 with
        | false => exact Ev_shift 1 (f := fun _ => some 7) (fun k => by rw [ddiref38_Check.j1, Bool.not_false, if_pos rfl]) (Ev_const rfl)
        | true =>
          refine Ev_shift 1 (fun k => by rw [ddiref38_Check.j1, Bool.not_true, if_neg Bool.false_ne_true, if_pos (by omega), if_pos (by omega), hx]) ?_
          refine Ev.bind (rone_ev x (ok x hxl)) ?_
          by_cases h0 : one x = 0
          · simp only [if_pos h0, if_true]
            exact ih
          · simp only [if_neg h0, if_true]
            exact Ev_const rfl
      cases i with
      | zero =>
        refine Ev_shift 1 (fun k => by rw [ddiref38_Check.l0, if_pos (by omega), if_pos (by omega), hx, rad_v, had, Option.bind_some, if_pos rfl, if_neg (by omega)]) ?_
        exact h1 false (by rw [hp0 rfl]; rfl)
      | succ j =>
        have hpj := hp1 j rfl
        have hj : (wrap64 (((j + 1 : Nat) : Int) - 1)) = (j : Int) := wsub1 (j + 1) (by omega) (by omega)
        have e0 : (0 : Int) ≤ (j : Int) := by omega
        have e1 : (j : Int) < (l.length : Int) := by omega
        have e2 : ((j + 1 : Nat) : Int) > 0 := by omega
        refine Ev_shift 1 (fun k => by rw [ddiref38_Check.l0, if_pos (by omega), if_pos (by omega), hx, rad_v, had, Option.bind_some, if_pos rfl, if_pos e2, hj, if_pos e0, if_pos e1, rcmp, Option.bind_some]) ?_
        refine h1 _ ?_
        rw [hpj]
        unfold upB
        rw [Bool.eq_iff_iff]
        simp
/-- The check of a table. -/
def chkT (l : List S41) : Int := if l.length > 512 then 9 else chk none l
theorem check_ev (l : List S41) (hl : l.length ≤ 140737488351232) (ok : ∀ y ∈ l, okS41 y) : Ev (fun k => lease_Check.f k l) (chkT l) := by
  unfold lease_Check.f chkT
  by_cases h : l.length > 512
  · simp only [if_pos h, if_pos (show (l.length : Int) > 512 by omega)]
    exact Ev_const rfl
  · simp only [if_neg h, if_neg (show ¬ (l.length : Int) > 512 by omega)]
    exact check_from l hl ok l 0 none rfl (fun _ => rfl) (fun j e => by omega)
theorem rcheck_ev (l : List S41) (hl : l.length ≤ 140737488351232) (ok : ∀ y ∈ l, okS41 y) : Ev (fun k => ddiref38_Check.f k l) (chkT l) := by
  unfold ddiref38_Check.f chkT
  by_cases h : l.length > 512
  · simp only [if_pos h, if_pos (show (l.length : Int) > 512 by omega)]
    exact Ev_const rfl
  · simp only [if_neg h, if_neg (show ¬ (l.length : Int) > 512 by omega)]
    exact rcheck_from l hl ok l 0 none rfl (fun _ => rfl) (fun j e => by omega)
end Go.Proofs.YtonpcojdpfmbkaaDoor.Ma
namespace Go.Proofs.YtonpcojdpfmbkaaDoor.Ma
open Go.RowKit Go.Proofs.YtonpcojdpfmbkaaDoorW.PrintWords Go.Proofs.YtonpcojdpfmbkaaDoorW.PrintLast Go.Proofs.YtonpcojdpfmbkaaDoorW.PrintMore Go.Proofs.YtonpcojdpfmbkaaDoor.XP Go.Proofs.YtonpcojdpfmbkaaDoor.QA Go.Proofs.YtonpcojdpfmbkaaDoor.Cm
set_option linter.unusedVariables false
set_option linter.unusedSimpArgs false
def Srt (l : List S41) : Prop := l.Pairwise fun x y => cmp x.f0 y.f0 < 0
theorem chk_srt : ∀ (l : List S41) (p : Option S29), chk p l = 0 → (∀ q, p = some q → ∀ x ∈ l, cmp q x.f0 < 0) ∧ Srt l
  | [], p, _ => ⟨fun _ _ x hx => absurd hx List.not_mem_nil, List.Pairwise.nil⟩
  | x :: r, p, h => by
    unfold chk at h
    split at h
    · split at h
      · split at h
        · rename_i h1 h2 h3
          obtain ⟨i1, i2⟩ := chk_srt r (some x.f0) h
          refine ⟨?_, List.pairwise_cons.2 ⟨fun y hy => i1 _ rfl y hy, i2⟩⟩
          rintro q rfl y hy
          have hq : cmp q x.f0 < 0 := of_decide_eq_true h2
          rcases List.mem_cons.1 hy with rfl | hy
          · exact hq
          · exact cmp_trans hq (i1 _ rfl y hy)
        · rename_i h3
          exact absurd h h3
      · cases h
    · cases h
theorem chkT_zero (l : List S41) (h : chkT l = 0) : l.length ≤ 512 ∧ Srt l := by
  unfold chkT at h
  split at h
  · cases h
  · exact ⟨by omega, (chk_srt l none h).2⟩
def pos (a : S29) : List S41 → Nat
  | [] => 0
  | x :: r => if cmp x.f0 a < 0 then pos a r + 1 else 0
theorem pos_le (a : S29) : ∀ l : List S41, pos a l ≤ l.length
  | [] => Nat.le_refl _
  | x :: r => by
    have := pos_le a r
    unfold pos
    split
    · simp; omega
    · simp
theorem pos_iff (a : S29) : ∀ (l : List S41) (_ : Srt l) (q : Nat) (h : q < l.length), cmp (l[q]).f0 a < 0 ↔ q < pos a l
  | [], _, q, h => by simp at h
  | x :: r, hs, q, h => by
    obtain ⟨h1, h2⟩ := List.pairwise_cons.1 hs
    unfold pos
    cases q with
    | zero =>
      simp only [List.getElem_cons_zero]
      split
      · rename_i hc; exact ⟨fun _ => by omega, fun _ => hc⟩
      · rename_i hc; exact ⟨fun h => absurd h hc, fun h => absurd h (by omega)⟩
    | succ q =>
      simp only [List.getElem_cons_succ]
      have hq : q < r.length := by simpa using h
      have ih := pos_iff a r h2 q hq
      split
      · rw [ih]; omega
      · rename_i hc
        exact ⟨fun h => absurd (cmp_trans (h1 _ (List.getElem_mem hq)) h) hc, fun h => absurd h (by omega)⟩
def get (a : S29) (l : List S41) : Option S41 := l.find? fun x => ea x.f0 a
theorem get_none_of_gt (a : S29) (x : S41) : ∀ r : List S41, (∀ y ∈ r, cmp x.f0 y.f0 < 0) → ¬ cmp x.f0 a < 0 → get a r = none := by
  intro r h hn
  unfold get
  rw [List.find?_eq_none]
  intro y hy he
  have := (ea_iff _ _).1 he
  have h1 := h y hy
  rw [this] at h1
  exact hn h1
theorem get_pos (a : S29) : ∀ (l : List S41), Srt l → get a l = match l[pos a l]? with | some x => if ea x.f0 a = true then some x else none | none => none
  | [], _ => rfl
  | x :: r, hs => by
    obtain ⟨h1, h2⟩ := List.pairwise_cons.1 hs
    have ih := get_pos a r h2
    by_cases hc : cmp x.f0 a < 0
    · have he : ea x.f0 a = false := by
        rw [ea_ne]
        intro e
        rw [e, cmp_self] at hc
        omega
      have hp : pos a (x :: r) = pos a r + 1 := by rw [pos, if_pos hc]
      rw [hp, List.getElem?_cons_succ, ← ih]
      unfold get
      rw [List.find?_cons, he]
    · have hp : pos a (x :: r) = 0 := by rw [pos, if_neg hc]
      rw [hp, List.getElem?_cons_zero]
      have hr := get_none_of_gt a x r h1 hc
      unfold get at hr ⊢
      rw [List.find?_cons]
      cases he : ea x.f0 a with
      | true => simp only [he, if_true]
      | false => simp only [hr, he, Bool.false_eq_true, if_false]
theorem mid (i j : Nat) (h : i + j ≤ 1000000000000000) : wrap64 ((IntKind.u64.wrap (wrap64 ((i : Int) + (j : Int)))) / 2) = (((i + j) / 2 : Nat) : Int) := by
  rw [wrap_id (x := (i : Int) + (j : Int)) (by omega) (by omega), IntKind.wrap_u64]
  rw [wrap_id (by omega) (by omega)]
  omega
theorem pl1 (x : S41) (a : S29) : Ev (fun k => lease_place_1.f k x.f0.f0 x.f0.f1 x.f0.f2 x.f1 x.f2 x.f3 x.f4 x.f5 x.f6 a.f0 a.f1 a.f2) (cmp x.f0 a) := by
  unfold lease_place_1.f
  exact Ev.bind (ucmp x.f0 a) (Ev_const rfl)
theorem rdAt (l : List S41) (q : Nat) (h : q < l.length) : rd_T41 l (q : Int) = l[q] := by
  simp [rd_T41, List.getD_eq_getElem?_getD, List.getElem?_eq_getElem h]
theorem wnext (q : Nat) (h : q ≤ 1000000000000000) : wrap64 ((q : Int) + 1) = ((q + 1 : Nat) : Int) := by
  rw [wrap_id (by omega) (by omega)]
  omega
theorem bs_from (l : List S41) (hl : l.length ≤ 140737488351232) (hs : Srt l) (a : S29) : ∀ (d i j : Nat), j - i ≤ d → i ≤ pos a l → pos a l ≤ j → j ≤ l.length → Ev (fun k => slices_BinarySearchFunc_69.l0 k l (l.length : Int) (i : Int) (j : Int) a.f0 a.f1 a.f2) ((pos a l : Int), (get a l).isSome)
  | d, i, j, hd, hi, hj, hjl => by
    by_cases hij : i < j
    · have hm : (i + j) / 2 < l.length := by omega
      have e0 : (i : Int) < (j : Int) := by omega
      have e1 : (0 : Int) ≤ (((i + j) / 2 : Nat) : Int) := by omega
      have e2 : (((i + j) / 2 : Nat) : Int) < (l.length : Int) := by omega
      have hmw := mid i j (by omega)
      have hpi := pos_iff a l hs ((i + j) / 2) hm
      have hwn := wnext ((i + j) / 2) (by omega)
      cases d with
      | zero => exact absurd hd (by omega)
      | succ d =>
        have ihl : ((i + j) / 2 < pos a l) → Ev (fun k => slices_BinarySearchFunc_69.l0 k l (l.length : Int) (((i + j) / 2 + 1 : Nat) : Int) (j : Int) a.f0 a.f1 a.f2) ((pos a l : Int), (get a l).isSome) := fun h => bs_from l hl hs a d _ j (by clear hmw hwn; omega) (by clear hmw hwn; omega) hj hjl
        have ihr : ¬ ((i + j) / 2 < pos a l) → Ev (fun k => slices_BinarySearchFunc_69.l0 k l (l.length : Int) (i : Int) (((i + j) / 2 : Nat) : Int) a.f0 a.f1 a.f2) ((pos a l : Int), (get a l).isSome) := fun h => bs_from l hl hs a d i _ (by clear hmw hwn; omega) hi (by clear hmw hwn; omega) (by clear hmw hwn; omega)
        refine Ev_shift 1 (fun k => by rw [slices_BinarySearchFunc_69.l0, if_pos e0, hmw, if_pos e1, if_pos e2, rdAt l _ hm]) ?_
        refine Ev.bind (pl1 (l[(i + j) / 2]) a) ?_
        by_cases hc : cmp (l[(i + j) / 2]).f0 a < 0
        · simp only [if_pos hc, hwn]
          exact ihl (hpi.1 hc)
        · simp only [if_neg hc]
          exact ihr (fun h => hc (hpi.2 h))
    · have hip : pos a l = i := by omega
      have e0 : ¬ (i : Int) < (j : Int) := by omega
      rw [get_pos a l hs, hip]
      by_cases hil : i < l.length
      · have e1 : (i : Int) < (l.length : Int) := by omega
        have e2 : (0 : Int) ≤ (i : Int) := by omega
        refine Ev_shift 1 (fun k => by rw [slices_BinarySearchFunc_69.l0, if_neg e0, if_pos e1, if_pos e2, if_pos e1, rdAt l _ hil]) ?_
        refine Ev.bind (pl1 (l[i]) a) (Ev_const ?_)
        rw [List.getElem?_eq_getElem hil]
        congr 2
        show (cmp (l[i]).f0 a == 0) = _
        simp only []
        cases he : ea (l[i]).f0 a with
        | true =>
          rw [(ea_iff _ _).1 he, cmp_self]
          rfl
        | false =>
          have := (ea_ne _ _).1 he
          have h0 : ¬ cmp (l[i]).f0 a = 0 := fun h => this ((cmp_zero _ _).1 h)
          simpa using h0
      · have e1 : ¬ (i : Int) < (l.length : Int) := by omega
        refine Ev_shift 1 (f := fun _ => some ((i : Int), false)) (fun k => by rw [slices_BinarySearchFunc_69.l0, if_neg e0, if_neg e1]) (Ev_const ?_)
        rw [List.getElem?_eq_none (by omega)]
        rfl
theorem place_ev (l : List S41) (hl : l.length ≤ 140737488351232) (hs : Srt l) (a : S29) : Ev (fun k => lease_place.f k l a.f0 a.f1 a.f2) ((pos a l : Int), (get a l).isSome) := by
  unfold lease_place.f slices_BinarySearchFunc_69.f
  exact Ev.bind (bs_from l hl hs a l.length 0 l.length (by omega) (by omega) (pos_le a l) (Nat.le_refl _)) (Ev_const rfl)
/-- A found entry as Find hands it back. -/
def tup : Option S41 → Bool × Int × Int × ByteArray × Int × Int × Int × ByteArray × Int × Bool
  | some x => (x.f0.f0, x.f0.f1, x.f0.f2, x.f1, x.f2, x.f3, x.f4, x.f5, x.f6, true)
  | none => (false, 0, 0, ⟨#[]⟩, 0, 0, 0, ⟨#[]⟩, 0, false)
theorem find_ev (l : List S41) (hl : l.length ≤ 140737488351232) (hs : Srt l) (a : S29) : Ev (fun k => lease_Find.f k l a.f0 a.f1 a.f2) (tup (get a l)) := by
  unfold lease_Find.f
  refine Ev.bind (place_ev l hl hs a) ?_
  have hg := get_pos a l hs
  by_cases hp : pos a l < l.length
  · rw [List.getElem?_eq_getElem hp] at hg
    simp only [] at hg
    split at hg
    · rw [hg]
      simp only [Option.isSome_some, if_true, if_pos (show (0 : Int) ≤ (pos a l : Int) by omega), if_pos (show (pos a l : Int) < (l.length : Int) by omega), rdAt l _ hp]
      exact Ev_const rfl
    · rw [hg]
      exact Ev_const rfl
  · rw [List.getElem?_eq_none (by omega)] at hg
    rw [hg]
    exact Ev_const rfl
theorem rfind_from (l : List S41) (hl : l.length ≤ 140737488351232) (a : S29) : ∀ (r : List S41) (i : Nat), l.drop i = r → Ev (fun k => ddiref38_Find.l0 k l (i : Int) a.f0 a.f1 a.f2) (tup (get a r))
  | [], i, h => by
    have := drop_end h
    exact Ev_shift 1 (f := fun _ => some (tup none)) (fun k => by rw [ddiref38_Find.l0, if_neg (by omega)]; rfl) (Ev_const rfl)
  | x :: r, i, h => by
    obtain ⟨hi, hx, hr⟩ := rd41 l i x r h
    have ih := rfind_from l hl a r (i + 1) hr
    unfold get
    rw [List.find?_cons]
    cases he : ea x.f0 a with
    | true =>
      refine Ev_shift 1 (f := fun _ => some (tup (some x))) (fun k => ?_) (Ev_const rfl)
      have he' := he
      unfold ea at he'
      rw [ddiref38_Find.l0, if_pos (by omega), if_pos (by omega), hx, if_pos he']
      rfl
    | false =>
      have he' := he
      unfold ea at he'
      refine Ev_shift 1 (fun k => by rw [ddiref38_Find.l0, if_pos (by omega), if_pos (by omega), hx, if_neg (by rw [he']; exact Bool.false_ne_true), next i l.length hi (by omega)]) ih
theorem rfind_ev (l : List S41) (hl : l.length ≤ 140737488351232) (a : S29) : Ev (fun k => ddiref38_Find.f k l a.f0 a.f1 a.f2) (tup (get a l)) := by
  unfold ddiref38_Find.f
  exact rfind_from l hl a l 0 rfl
def forB (x : S41) (t : Int) : Bool := decide (t < x.f4) && (decide (x.f2 = 1) || (decide (x.f2 = 2) || decide (x.f2 = 5)))
def freeB (x : S41) (c : ByteArray) (t : Int) : Bool := !forB x t || (decide (x.f2 ≠ 5) && decide (x.f1.data.toList = c.data.toList))
theorem force_v (x : S41) (t : Int) : lease_inForce.f x.f0.f0 x.f0.f1 x.f0.f2 x.f1 x.f2 x.f3 x.f4 x.f5 x.f6 t = some (forB x t) := by
  unfold lease_inForce.f forB
  by_cases h : t < x.f4
  · rw [if_pos h, decide_eq_true h, Bool.true_and]
    by_cases h1 : x.f2 = 1
    · rw [if_pos h1, decide_eq_true h1]; rfl
    · rw [if_neg h1, decide_eq_false h1, Bool.false_or]
      by_cases h2 : x.f2 = 2
      · rw [if_pos h2, decide_eq_true h2]; rfl
      · rw [if_neg h2, decide_eq_false h2, Bool.false_or]
        rfl
  · rw [if_neg h, decide_eq_false h]; rfl
theorem rforce_v (x : S41) (t : Int) : ddiref38_Force.f x.f0.f0 x.f0.f1 x.f0.f2 x.f1 x.f2 x.f3 x.f4 x.f5 x.f6 t = some (forB x t) := by
  unfold ddiref38_Force.f forB
  by_cases h1 : x.f2 = 1
  · rw [if_pos h1, decide_eq_true h1, Bool.true_or, Bool.and_true]
  · rw [if_neg h1, decide_eq_false h1, Bool.false_or]
    by_cases h2 : x.f2 = 2
    · rw [if_pos h2, decide_eq_true h2, Bool.true_or, Bool.and_true]
    · rw [if_neg h2, decide_eq_false h2, Bool.false_or]
      by_cases h3 : x.f2 = 5
      · rw [if_pos h3, decide_eq_true h3, Bool.and_true]
      · rw [if_neg h3, decide_eq_false h3, Bool.and_false]
theorem free_v (x : S41) (c : ByteArray) (t : Int) : lease_free.f x.f0.f0 x.f0.f1 x.f0.f2 x.f1 x.f2 x.f3 x.f4 x.f5 x.f6 c t = some (freeB x c t) := by
  unfold lease_free.f freeB
  rw [force_v, Option.bind_some, toL, toL]
  cases forB x t with
  | false => rfl
  | true =>
    rw [if_pos rfl]
    by_cases h : x.f2 = 5
    · rw [if_pos h, decide_eq_false (by omega)]; rfl
    · rw [if_neg h, decide_eq_true (by omega)]
      congr 1
      rw [Bool.eq_iff_iff]
      simp
def frB (o : Option S41) (c : ByteArray) (t : Int) : Bool := match o with | some x => freeB x c t | none => true
theorem free_ev (l : List S41) (hl : l.length ≤ 140737488351232) (hs : Srt l) (a : S29) (c : ByteArray) (t : Int) : Ev (fun k => lease_Free.f k l a.f0 a.f1 a.f2 c t) (frB (get a l) c t) := by
  unfold lease_Free.f
  refine Ev.bind (find_ev l hl hs a) ?_
  cases get a l with
  | none => exact Ev_const rfl
  | some x =>
    simp only [tup, if_true, free_v, Option.bind_some]
    exact Ev_const rfl
theorem rfree_ev (l : List S41) (hl : l.length ≤ 140737488351232) (a : S29) (c : ByteArray) (t : Int) : Ev (fun k => ddiref38_Free.f k l a.f0 a.f1 a.f2 c t) (frB (get a l) c t) := by
  unfold ddiref38_Free.f
  refine Ev.bind (rfind_ev l hl a) ?_
  cases get a l with
  | none => exact Ev_const rfl
  | some x =>
    simp only [tup, if_true, rforce_v, Option.bind_some, toL]
    unfold frB freeB
    cases hfo : forB x t with
    | false => exact Ev_const (by simp only [hfo]; rfl)
    | true =>
      simp only [if_true, hfo, Bool.not_true, Bool.false_or]
      by_cases h : x.f1.data.toList = c.data.toList
      · simp only [h, if_true, decide_true, Bool.and_true]
        refine Ev_const ?_
        congr 1
        rw [Bool.eq_iff_iff]
        simp
      · simp only [h, if_false, decide_false, Bool.and_false]
        exact Ev_const rfl
end Go.Proofs.YtonpcojdpfmbkaaDoor.Ma
namespace Go.Proofs.YtonpcojdpfmbkaaDoor.Ma
open Go.RowKit Go.Proofs.YtonpcojdpfmbkaaDoorW.PrintWords Go.Proofs.YtonpcojdpfmbkaaDoorW.PrintLast Go.Proofs.YtonpcojdpfmbkaaDoorW.PrintMore Go.Proofs.YtonpcojdpfmbkaaDoor.XP Go.Proofs.YtonpcojdpfmbkaaDoor.QA Go.Proofs.YtonpcojdpfmbkaaDoor.Cm
set_option linter.unusedVariables false
set_option linter.unusedSimpArgs false
/-- The first entry that is out of force, from i on; -1 where there is none. -/
def low (t : Int) : List S41 → Nat → Int
  | [], _ => -1
  | x :: r, i => if forB x t = true then low t r (i + 1) else (i : Int)
theorem low_spec (t : Int) : ∀ (l : List S41) (i : Nat), low t l i = -1 ∨ ∃ n, low t l i = ((i + n : Nat) : Int) ∧ n < l.length
  | [], _ => Or.inl rfl
  | x :: r, i => by
    unfold low
    split
    · rcases low_spec t r (i + 1) with h | ⟨n, h, hn⟩
      · exact Or.inl h
      · exact Or.inr ⟨n + 1, by rw [h]; omega, by simp; omega⟩
    · exact Or.inr ⟨0, by omega, by simp⟩
theorem low_from (l : List S41) (hl : l.length ≤ 140737488351232) (t : Int) : ∀ (r : List S41) (i : Nat), l.drop i = r → Ev (fun k => slices_IndexFunc_63.l0 k l (l.length : Int) (i : Int) t) (low t r i)
  | [], i, h => by
    have := drop_end h
    exact Ev_shift 1 (f := fun _ => some (-1)) (fun k => by rw [slices_IndexFunc_63.l0, if_neg (by omega)]) (Ev_const rfl)
  | x :: r, i, h => by
    obtain ⟨hi, hx, hr⟩ := rd41 l i x r h
    have ih := low_from l hl t r (i + 1) hr
    have hf : lease_set_1.f x.f0.f0 x.f0.f1 x.f0.f2 x.f1 x.f2 x.f3 x.f4 x.f5 x.f6 t = some (!forB x t) := by
      unfold lease_set_1.f
      rw [force_v]
      rfl
    unfold low
    cases hb : forB x t with
    | true => exact Ev_shift 1 (fun k => by rw [slices_IndexFunc_63.l0, if_pos (by omega), if_pos (by omega), if_pos (by omega), hx, hf, hb, Option.bind_some, if_neg (by decide), next i l.length hi (by omega)]) ih
    | false => exact Ev_shift 1 (f := fun _ => some (i : Int)) (fun k => by rw [slices_IndexFunc_63.l0, if_pos (by omega), if_pos (by omega), if_pos (by omega), hx, hf, hb, Option.bind_some, if_pos (by decide)]) (Ev_const rfl)
def ins (x : S41) (l : List S41) : List S41 := l.take (pos x.f0 l) ++ [x] ++ l.drop (pos x.f0 l)
def setT (l : List S41) (x : S41) (t : Int) : List S41 × Int :=
  if (get x.f0 l).isSome = true then (l.set (pos x.f0 l) x, 0)
  else if 512 ≤ l.length then (if low t l 0 < 0 then ([], 9) else (ins x (l.take (low t l 0).toNat ++ l.drop ((low t l 0).toNat + 1)), 0))
  else (ins x l, 0)
theorem srt_drop (l : List S41) (hs : Srt l) (n : Nat) : Srt (l.take n ++ l.drop (n + 1)) := by
  unfold Srt at hs ⊢
  rw [← List.eraseIdx_eq_take_drop_succ]
  exact hs.sublist (List.eraseIdx_sublist l n)
theorem get_sub (a : S29) (l q : List S41) (hq : ∀ x ∈ q, x ∈ l) (h : (get a l).isSome = false) : (get a q).isSome = false := by
  have h1 : get a l = none := by simpa using h
  have : get a q = none := by
    unfold get at h1 ⊢
    rw [List.find?_eq_none] at h1 ⊢
    exact fun x hx => h1 x (hq x hx)
  rw [this]
  rfl
theorem mem_cut (l : List S41) (n : Nat) (x : S41) (h : x ∈ l.take n ++ l.drop (n + 1)) : x ∈ l := by
  rcases List.mem_append.1 h with h | h
  · exact List.mem_of_mem_take h
  · exact List.mem_of_mem_drop h
theorem setj_ev (l : List S41) (hl : l.length ≤ 512) (x : S41) : Ev (fun k => lease_set.j0 k l (pos x.f0 l : Int) x.f0.f0 x.f0.f1 x.f0.f2 x.f1 x.f2 x.f3 x.f4 x.f5 x.f6) (ins x l, 0) := by
  have := pos_le x.f0 l
  refine Ev_shift 1 (f := fun _ => some (ins x l, 0)) (fun k => ?_) (Ev_const rfl)
  rw [lease_set.j0, slices_Insert.f, if_pos (by omega), if_pos (by omega), if_pos (by show (l.length + 1) * 88 ≤ _; omega), Int.toNat_natCast]
  rfl
theorem set_ev (l : List S41) (hl : l.length ≤ 512) (hs : Srt l) (x : S41) (t : Int) : Ev (fun k => lease_set.f k l x.f0.f0 x.f0.f1 x.f0.f2 x.f1 x.f2 x.f3 x.f4 x.f5 x.f6 t) (setT l x t) := by
  have hp := pos_le x.f0 l
  unfold lease_set.f slices_Clone.f setT
  simp only [if_pos (show l.length * 88 ≤ 140737488355328 by omega), Option.bind_some]
  refine Ev.bind (place_ev l (by omega) hs x.f0) ?_
  cases hg : (get x.f0 l).isSome with
  | true =>
    have hlt : pos x.f0 l < l.length := by
      rcases Nat.lt_or_ge (pos x.f0 l) l.length with h | h
      · exact h
      · have := get_pos x.f0 l hs
        rw [List.getElem?_eq_none h] at this
        rw [this] at hg
        cases hg
    simp only [if_true, if_pos (show (0 : Int) ≤ (pos x.f0 l : Int) by omega), if_pos (show (pos x.f0 l : Int) < (l.length : Int) by omega), Int.toNat_natCast]
    exact Ev_const rfl
  | false =>
    simp only [Bool.false_eq_true, if_false]
    by_cases hfull : 512 ≤ l.length
    · simp only [if_pos hfull, if_pos (show (l.length : Int) ≥ 512 by omega)]
      refine Ev.bind (show Ev (fun k => slices_IndexFunc_63.f k l t) (low t l 0) by unfold slices_IndexFunc_63.f; exact low_from l (by omega) t l 0 rfl) ?_
      rcases low_spec t l 0 with h | ⟨n, h, hn⟩
      · simp only [h, if_pos (show (-1 : Int) < 0 by decide)]
        exact Ev_const rfl
      · rw [Nat.zero_add] at h
        have hneg : ¬ (n : Int) < 0 := by omega
        have hw := wnext n (by omega)
        have e1 : (0 : Int) ≤ (n : Int) := by omega
        have e2 : (n : Int) ≤ ((n + 1 : Nat) : Int) := by omega
        have e3 : ((n + 1 : Nat) : Int) ≤ (l.length : Int) := by omega
        simp only [h, if_neg hneg, hw, slices_Delete.f, if_pos e1, if_pos e2, if_pos e3, Int.toNat_natCast, Option.bind_some]
        have hlen : (l.take n ++ l.drop (n + 1)).length ≤ 512 := by
          rw [List.length_append, List.length_take, List.length_drop]
          clear hw
          omega
        refine Ev.bind (place_ev _ (by clear hw; omega) (srt_drop l hs n) x.f0) ?_
        exact setj_ev _ hlen x
    · simp only [if_neg hfull, if_neg (show ¬ (l.length : Int) ≥ 512 by omega)]
      exact setj_ev l hl x
def aft (a b : Int) : Int := if b ≥ wrap64 (4294967295 - a) then 4294967295 else wrap64 (a + b)
theorem aft_v (a b : Int) : lease_after.f a b = some (aft a b) := by
  unfold lease_after.f aft
  split <;> rfl
def mine (x : S41) (c : ByteArray) : Bool := decide (x.f1.data.toList = c.data.toList)
def keep (o : Option S41) (c : ByteArray) (t : Int) : Bool := match o with | some x => mine x c && (decide (x.f2 = 2) && forB x t) | none => false
def xidO (o : Option S41) (c : ByteArray) : Int := match o with | some x => if mine x c = true then x.f6 else 0 | none => 0
def offT (l : List S41) (a : S29) (c : ByteArray) (t d : Int) : List S41 × Int :=
  if adB a = true then (if (cliB c && (timeB t && decide (1 ≤ d))) = true then (if frB (get a l) c t = true then (if keep (get a l) c t = true then (l, 0) else setT l ⟨a, c, 1, t, aft t d, ⟨#[]⟩, xidO (get a l) c⟩ t) else ([], 23)) else ([], 1)) else ([], 3)
theorem off2_ev (l : List S41) (hl : l.length ≤ 512) (hs : Srt l) (a : S29) (c : ByteArray) (t d : Int) (own kp : Bool) (x : Bool × Int × Int × ByteArray × Int × Int × Int × ByteArray × Int) : Ev (fun k => lease_Offer.j2 k l c t d own kp a.f0 a.f1 a.f2 x.1 x.2.1 x.2.2.1 x.2.2.2.1 x.2.2.2.2.1 x.2.2.2.2.2.1 x.2.2.2.2.2.2.1 x.2.2.2.2.2.2.2.1 x.2.2.2.2.2.2.2.2) (if kp = true then (l, 0) else setT l ⟨a, c, 1, t, aft t d, ⟨#[]⟩, if own = true then x.2.2.2.2.2.2.2.2 else 0⟩ t) := by
  cases kp with
  | true => exact Ev_shift 1 (f := fun _ => some (l, 0)) (fun k => by rw [lease_Offer.j2, if_pos rfl, slices_Clone.f, if_pos (by omega)]; rfl) (Ev_const rfl)
  | false =>
    have h3 : ∀ y : Int, Ev (fun k => lease_Offer.j3 k l t a.f0 a.f1 a.f2 c 1 t (aft t d) ⟨#[]⟩ y) (setT l ⟨a, c, 1, t, aft t d, ⟨#[]⟩, y⟩ t) := by
      intro y
      refine Ev_shift 1 (fun k => by rw [lease_Offer.j3]) ?_
      exact Ev.bind (set_ev l hl hs ⟨a, c, 1, t, aft t d, ⟨#[]⟩, y⟩ t) (Ev_const rfl)
    refine Ev_shift 1 (fun k => by rw [lease_Offer.j2, if_neg Bool.false_ne_true, aft_v, Option.bind_some]) ?_
    cases own with
    | true => exact h3 _
    | false => exact h3 0
theorem offer_ev (l : List S41) (hl : l.length ≤ 512) (hs : Srt l) (a : S29) (c : ByteArray) (hc : c.size ≤ 140737488351232) (t d : Int) : Ev (fun k => lease_Offer.f k l a.f0 a.f1 a.f2 c t d) (offT l a c t d) := by
  unfold lease_Offer.f offT
  simp only [ad_v, Option.bind_some, time_v]
  cases adB a with
  | false => exact Ev_const rfl
  | true =>
    simp only [if_true]
    refine Ev.bind (cli_ev c hc) ?_
    have hj0 : ∀ b : Bool, b = !(cliB c && (timeB t && decide (1 ≤ d))) → Ev (fun k => lease_Offer.j0 k l c t d b a.f0 a.f1 a.f2) (if (cliB c && (timeB t && decide (1 ≤ d))) = true then (if frB (get a l) c t = true then (if keep (get a l) c t = true then (l, 0) else setT l ⟨a, c, 1, t, aft t d, ⟨#[]⟩, xidO (get a l) c⟩ t) else ([], 23)) else ([], 1)) := by
      rintro b rfl
      cases (cliB c && (timeB t && decide (1 ≤ d))) with
      | false => exact Ev_shift 1 (f := fun _ => some ([], 1)) (fun k => by rw [lease_Offer.j0, Bool.not_false, if_pos rfl]) (Ev_const rfl)
      | true =>
        rw [if_pos rfl]
        refine Ev_shift 1 (fun k => by rw [lease_Offer.j0, Bool.not_true, if_neg Bool.false_ne_true]) ?_
        refine Ev.bind (free_ev l (by omega) hs a c t) ?_
        cases frB (get a l) c t with
        | false => exact Ev_const rfl
        | true =>
          simp only [if_true]
          refine Ev.bind (find_ev l (by omega) hs a) ?_
          cases get a l with
          | none =>
            simp only [tup, Bool.false_eq_true, if_false]
            refine Ev_shift 1 (fun k => by rw [lease_Offer.j1, if_neg Bool.false_ne_true]) ?_
            exact off2_ev l hl hs a c t d false false (false, 0, 0, ⟨#[]⟩, 0, 0, 0, ⟨#[]⟩, 0)
          | some x =>
            simp only [tup, if_true, toL]
            have hm : (x.f1.data.toList == c.data.toList) = mine x c := by
              unfold mine
              rw [Bool.eq_iff_iff]
              simp
            rw [hm]
            have h2 := fun o kp => off2_ev l hl hs a c t d o kp (x.f0.f0, x.f0.f1, x.f0.f2, x.f1, x.f2, x.f3, x.f4, x.f5, x.f6)
            have hk : keep (some x) c t = (mine x c && (decide (x.f2 = 2) && forB x t)) := rfl
            have hxi : xidO (some x) c = if mine x c = true then x.f6 else 0 := rfl
            rw [hk, hxi]
            cases mine x c with
            | false =>
              refine Ev_shift 1 (fun k => by rw [lease_Offer.j1, if_neg Bool.false_ne_true]) ?_
              exact h2 false false
            | true =>
              refine Ev_shift 1 (fun k => by rw [lease_Offer.j1, if_pos rfl, force_v, Option.bind_some]) ?_
              by_cases h : x.f2 = 2
              · simp only [if_pos h, decide_eq_true h, Bool.true_and]
                exact h2 true _
              · simp only [if_neg h, decide_eq_false h, Bool.and_false, Bool.false_and]
                exact h2 true false
    cases hcl : cliB c with
    | false =>
      simp only [Bool.false_eq_true, if_false]
      have := hj0 true (by rw [hcl]; rfl)
      rw [hcl] at this
      exact this
    | true =>
      simp only [if_true]
      cases ht : timeB t with
      | false =>
        simp only [Bool.false_eq_true, if_false]
        have := hj0 true (by rw [hcl, ht]; rfl)
        rw [hcl, ht] at this
        exact this
      | true =>
        simp only [if_true]
        have := hj0 (decide (d < 1)) (by rw [hcl, ht, Bool.true_and, Bool.true_and, Bool.eq_iff_iff]; simp)
        rw [hcl, ht] at this
        exact this
def tkB (c : ByteArray) (t : Int) (x : S41) : Bool := !freeB x c t
def takT (l : List S41) (c : ByteArray) (t : Int) : List S29 := (l.filter (tkB c t)).map (·.f0)
theorem takT_len (l : List S41) (c : ByteArray) (t : Int) : (takT l c t).length ≤ l.length := by
  unfold takT
  rw [List.length_map]
  exact List.length_filter_le _ _
theorem taken_from (l : List S41) (hl : l.length ≤ 512) (c : ByteArray) (t : Int) : ∀ (r : List S41) (i : Nat) (q : List S29), l.drop i = r → q.length ≤ i → Ev (fun k => lease_Taken.l0 k c t q l (l.length : Int) (i : Int)) (q ++ takT r c t)
  | [], i, q, h, _ => by
    have := drop_end h
    exact Ev_shift 1 (f := fun _ => some q) (fun k => by rw [lease_Taken.l0, if_neg (by omega)]) (Ev_const (by simp [takT]))
  | x :: r, i, q, h, hq => by
    obtain ⟨hi, hx, hr⟩ := rd41 l i x r h
    cases hb : freeB x c t with
    | true =>
      have hT : takT (x :: r) c t = takT r c t := by
        unfold takT
        rw [List.filter_cons_of_neg (by unfold tkB; rw [hb]; decide)]
      rw [hT]
      have ih := taken_from l hl c t r (i + 1) q hr (by omega)
      exact Ev_shift 1 (fun k => by rw [lease_Taken.l0, if_pos (by omega), if_pos (by omega), if_pos (by omega), hx, free_v, hb, Option.bind_some, if_pos rfl, next i l.length hi (by omega)]) ih
    | false =>
      have hT : takT (x :: r) c t = x.f0 :: takT r c t := by
        unfold takT
        rw [List.filter_cons_of_pos (by unfold tkB; rw [hb]; rfl), List.map_cons]
      rw [hT]
      have ih := taken_from l hl c t r (i + 1) (q ++ [x.f0]) hr (by simp; omega)
      rw [List.append_assoc] at ih
      exact Ev_shift 1 (fun k => by rw [lease_Taken.l0, if_pos (by omega), if_pos (by omega), if_pos (by omega), hx, free_v, hb, Option.bind_some, if_neg Bool.false_ne_true, if_pos (by omega), next i l.length hi (by omega)]) ih
theorem taken_ev (l : List S41) (hl : l.length ≤ 512) (c : ByteArray) (t : Int) : Ev (fun k => lease_Taken.f k l c t) (takT l c t) := by
  unfold lease_Taken.f
  exact taken_from l hl c t l 0 [] rfl (Nat.le_refl _)
end Go.Proofs.YtonpcojdpfmbkaaDoor.Ma
namespace Go.Proofs.YtonpcojdpfmbkaaDoor.Ma
open Go.RowKit Go.Proofs.YtonpcojdpfmbkaaDoorW.PrintWords Go.Proofs.YtonpcojdpfmbkaaDoorW.PrintLast Go.Proofs.YtonpcojdpfmbkaaDoorW.PrintMore Go.Proofs.YtonpcojdpfmbkaaDoor.XP Go.Proofs.YtonpcojdpfmbkaaDoor.QA Go.Proofs.YtonpcojdpfmbkaaDoor.Cm
set_option linter.unusedVariables false
set_option linter.unusedSimpArgs false
theorem awake_ev : Ev (fun k => ddilaw38_awake.f k) true := ⟨60, fun k hk => at_rounds ddilaw38_awake.mono hk (by decide +kernel)⟩
theorem leaseChecks : ddilaw38_LeaseChecks.Pure := by
  intro l ⟨hl, _, ok⟩
  refine Ev.rounds (?_ : Ev (fun k => ddilaw38_LeaseChecks.f k l) true)
  unfold ddilaw38_LeaseChecks.f
  refine Ev.bind (check_ev l (by omega) ok) ?_
  refine Ev.bind (rcheck_ev l (by omega) ok) ?_
  simp only [if_true]
  exact Ev.bind awake_ev (Ev_const rfl)
end Go.Proofs.YtonpcojdpfmbkaaDoor.Ma
namespace Go.Proofs.YtonpcojdpfmbkaaDoor.Ma
open Go.RowKit Go.Proofs.YtonpcojdpfmbkaaDoorW.PrintWords Go.Proofs.YtonpcojdpfmbkaaDoorW.PrintLast Go.Proofs.YtonpcojdpfmbkaaDoorW.PrintMore Go.Proofs.YtonpcojdpfmbkaaDoor.XP Go.Proofs.YtonpcojdpfmbkaaDoor.QA Go.Proofs.YtonpcojdpfmbkaaDoor.Cm
set_option linter.unusedVariables false
set_option linter.unusedSimpArgs false
theorem get_mem (l : List S41) (hs : Srt l) (x : S41) (h : x ∈ l) : get x.f0 l = some x := by
  induction l with
  | nil => exact absurd h List.not_mem_nil
  | cons y r ih =>
    obtain ⟨h1, h2⟩ := List.pairwise_cons.1 hs
    unfold get
    rw [List.find?_cons]
    rcases List.mem_cons.1 h with rfl | hx
    · rw [ea_self]
    · have hne : ea y.f0 x.f0 = false := by
        rw [ea_ne]
        intro e
        have := h1 x hx
        rw [e, cmp_self] at this
        omega
      rw [hne]
      exact ih h2 hx
theorem any_get (l : List S41) (hs : Srt l) (a : S29) (c : ByteArray) (t : Int) : (l.any fun x => !freeB x c t && ea x.f0 a) = !frB (get a l) c t := by
  induction l with
  | nil => rfl
  | cons y r ih =>
    obtain ⟨h1, h2⟩ := List.pairwise_cons.1 hs
    rw [List.any_cons]
    unfold get
    rw [List.find?_cons]
    cases he : ea y.f0 a with
    | false =>
      have := ih h2
      unfold get at this
      simp only [Bool.and_false, Bool.false_or, this]
    | true =>
      have hr : (r.any fun x => !freeB x c t && ea x.f0 a) = false := by
        rw [List.any_eq_false]
        intro x hx
        have hne : ea x.f0 a = false := by
          rw [ea_ne]
          intro e
          have h3 := h1 x hx
          rw [e, (ea_iff _ _).1 he, cmp_self] at h3
          omega
        rw [hne, Bool.and_false]
        exact Bool.false_ne_true
      rw [hr]
      simp [frB]
theorem setT_status (l : List S41) (hl : l.length ≤ 512) (x : S41) (t : Int) : (setT l x t).2 = 0 ∨ ((setT l x t).2 = 9 ∧ l.length = 512) := by
  unfold setT
  split
  · exact Or.inl rfl
  · split
    · split
      · exact Or.inr ⟨rfl, by omega⟩
      · exact Or.inl rfl
    · exact Or.inl rfl
theorem lt3_ev (l : List S41) (fl b : Bool) (st : Int) (h1 : b = true → st = 1) (h2 : b = false → fl = true → st = 23) (h3 : b = false → fl = false → st = 0 ∨ (st = 9 ∧ l.length = 512)) : Ev (fun k => ddilaw38_LeaseTaken.j3 k l fl st b) true := by
  cases b with
  | true =>
    refine Ev_shift 1 (fun k => by rw [ddilaw38_LeaseTaken.j3, if_pos rfl, if_pos (h1 rfl)]) ?_
    exact Ev.bind awake_ev (Ev_const rfl)
  | false =>
    cases fl with
    | true =>
      refine Ev_shift 1 (fun k => by rw [ddilaw38_LeaseTaken.j3, if_neg Bool.false_ne_true, if_pos rfl, if_pos (h2 rfl rfl)]) ?_
      exact Ev.bind awake_ev (Ev_const rfl)
    | false =>
      rcases h3 rfl rfl with h | ⟨h, hn⟩
      · refine Ev_shift 1 (fun k => by rw [ddilaw38_LeaseTaken.j3, if_neg Bool.false_ne_true, if_neg Bool.false_ne_true, if_pos h]) ?_
        exact Ev.bind awake_ev (Ev_const rfl)
      · refine Ev_shift 1 (fun k => by rw [ddilaw38_LeaseTaken.j3, if_neg Bool.false_ne_true, if_neg Bool.false_ne_true, if_neg (by rw [h]; decide), if_pos h, if_pos (by omega)]) ?_
        exact Ev.bind awake_ev (Ev_const rfl)
theorem lt2_ev (l : List S41) (hl : l.length ≤ 512) (a : S29) (c h : ByteArray) (hc : c.size ≤ 140737488351232) (z t d : Int) : Ev (fun k => ddilaw38_LeaseTaken.j2 k l (!frB (get a l) c t) (offT l a c t d).2 false a.f0 a.f1 a.f2 c h z t d) true := by
  refine Ev_shift 1 (fun k => by rw [ddilaw38_LeaseTaken.j2, if_neg Bool.false_ne_true, ad_v, Option.bind_some]) ?_
  cases had : adB a with
  | false =>
    have ho : (offT l a c t d).2 = 3 := by unfold offT; rw [had]; rfl
    simp only [Bool.false_eq_true, if_false, if_pos ho]
    exact Ev.bind awake_ev (Ev_const rfl)
  | true =>
    simp only [if_true]
    have hbad : (cliB c && (timeB t && decide (1 ≤ d))) = false → (offT l a c t d).2 = 1 := by
      intro hb
      unfold offT
      rw [had, hb]
      rfl
    have hgood : (cliB c && (timeB t && decide (1 ≤ d))) = true → frB (get a l) c t = false → (offT l a c t d).2 = 23 := by
      intro hb hf
      unfold offT
      rw [had, hb, hf]
      rfl
    have hset : (cliB c && (timeB t && decide (1 ≤ d))) = true → frB (get a l) c t = true → (offT l a c t d).2 = 0 ∨ ((offT l a c t d).2 = 9 ∧ l.length = 512) := by
      intro hb hf
      unfold offT
      rw [had, hb, hf]
      simp only [if_true]
      split
      · exact Or.inl rfl
      · exact setT_status l hl _ t
    have go : ∀ b : Bool, b = !(cliB c && (timeB t && decide (1 ≤ d))) → Ev (fun k => ddilaw38_LeaseTaken.j3 k l (!frB (get a l) c t) (offT l a c t d).2 b) true := by
      rintro b rfl
      exact lt3_ev l _ _ _ (fun h => hbad (by cases hx : (cliB c && (timeB t && decide (1 ≤ d))) <;> rw [hx] at h <;> first | rfl | cases h)) (fun h hf => hgood (by cases hx : (cliB c && (timeB t && decide (1 ≤ d))) <;> rw [hx] at h <;> first | rfl | cases h) (by simpa using hf)) (fun h hf => hset (by cases hx : (cliB c && (timeB t && decide (1 ≤ d))) <;> rw [hx] at h <;> first | rfl | cases h) (by simpa using hf))
    by_cases h1 : d < 1
    · simp only [if_pos h1]
      exact go true (by rw [decide_eq_false (show ¬ 1 ≤ d by omega), Bool.and_false, Bool.and_false]; rfl)
    · simp only [if_neg h1]
      by_cases h2 : t < 0
      · simp only [if_pos h2]
        exact go true (by unfold timeB; rw [decide_eq_false (show ¬ 0 ≤ t by omega), Bool.false_and, Bool.false_and, Bool.and_false]; rfl)
      · simp only [if_neg h2]
        by_cases h3 : t > 4294967295
        · simp only [if_pos h3]
          exact go true (by unfold timeB; rw [decide_eq_false (show ¬ t ≤ 4294967295 by omega), Bool.and_false, Bool.false_and, Bool.and_false]; rfl)
        · simp only [if_neg h3]
          refine Ev.bind (rcli_ev c hc) ?_
          exact go _ (by unfold timeB; rw [decide_eq_true (show 1 ≤ d by omega), decide_eq_true (show 0 ≤ t by omega), decide_eq_true (show t ≤ 4294967295 by omega), Bool.and_true, Bool.and_true, Bool.and_true])
theorem rd29 (q : List S29) (i : Nat) (y : S29) (r : List S29) (h : q.drop i = y :: r) : i < q.length ∧ rd_T29 q (i : Int) = y ∧ q.drop (i + 1) = r := by
  obtain ⟨hi, hx, hr⟩ := drop_at h
  refine ⟨hi, ?_, hr⟩
  simp [rd_T29, List.getD_eq_getElem?_getD, List.getElem?_eq_getElem hi, hx]
theorem lt_from (l : List S41) (hl : l.length ≤ 512) (hs : Srt l) (a : S29) (c h : ByteArray) (hc : c.size ≤ 140737488351232) (z t d : Int) : ∀ (r : List S41) (i j : Nat) (fl : Bool), l.drop i = r → (takT l c t).drop j = takT r c t → j ≤ (takT l c t).length → (fl || r.any fun x => !freeB x c t && ea x.f0 a) = !frB (get a l) c t →
    Ev (fun k => ddilaw38_LeaseTaken.l0 k l (takT l c t) (j : Int) fl (i : Int) a.f0 a.f1 a.f2 c h z t d) true
  | [], i, j, fl, hd, hj, hjl, hf => by
    have hi := drop_end hd
    have hj2 : (takT l c t).length ≤ j := drop_end hj
    have hfl : fl = !frB (get a l) c t := by simpa using hf
    have ej : (j : Int) = ((takT l c t).length : Int) := by omega
    refine Ev_shift 1 (fun k => by rw [ddilaw38_LeaseTaken.l0, if_neg (by omega)]) ?_
    refine Ev.bind (offer_ev l hl hs a c hc t d) ?_
    simp only [if_pos ej]
    refine Ev.bind (free_ev l (by omega) hs a c t) ?_
    have e2 : (fl == frB (get a l) c t) = false := by
      rw [hfl]
      cases frB (get a l) c t <;> rfl
    simp only [e2]
    rw [hfl]
    exact lt2_ev l hl a c h hc z t d
  | x :: r, i, j, fl, hd, hj, hjl, hf => by
    obtain ⟨hi, hx, hr⟩ := rd41 l i x r hd
    have hxl : x ∈ l := List.mem_of_mem_drop (i := i) (by rw [hd]; exact List.mem_cons_self ..)
    refine Ev_shift 1 (fun k => by rw [ddilaw38_LeaseTaken.l0, if_pos (by omega), if_pos (by omega), hx]) ?_
    refine Ev.bind (free_ev l (by omega) hs x.f0 c t) ?_
    rw [get_mem l hs x hxl]
    show Ev (fun k => if freeB x c t = true then _ else _) true
    rw [List.any_cons] at hf
    cases hb : freeB x c t with
    | true =>
      have hT : takT (x :: r) c t = takT r c t := by
        unfold takT
        rw [List.filter_cons_of_neg (by unfold tkB; rw [hb]; decide)]
      rw [hT] at hj
      rw [hb] at hf
      have ih := lt_from l hl hs a c h hc z t d r (i + 1) j fl hr hj hjl (by simpa using hf)
      rw [← next i l.length hi (by omega)] at ih
      simp only [if_true]
      exact ih
    | false =>
      have hT : takT (x :: r) c t = x.f0 :: takT r c t := by
        unfold takT
        rw [List.filter_cons_of_pos (by unfold tkB; rw [hb]; rfl), List.map_cons]
      rw [hT] at hj
      obtain ⟨hjlt, hjx, hjr⟩ := rd29 _ j _ _ hj
      rw [hb] at hf
      have n1 : ¬ (j : Int) ≥ ((takT l c t).length : Int) := by omega
      have n2 : (0 : Int) ≤ (j : Int) := by omega
      have n3 : (j : Int) < ((takT l c t).length : Int) := by omega
      have i1 : (0 : Int) ≤ (i : Int) := by omega
      have i2 : (i : Int) < (l.length : Int) := by omega
      simp only [Bool.false_eq_true, if_false, if_neg n1, if_pos n2, if_pos n3, hjx, beq_self_eq_true, Bool.not_true, Bool.or_false]
      have hTl := takT_len l c t
      have ih : ∀ f2 : Bool, f2 = (fl || ea x.f0 a) → Ev (fun k => ddilaw38_LeaseTaken.l0 k l (takT l c t) ((j + 1 : Nat) : Int) f2 ((i + 1 : Nat) : Int) a.f0 a.f1 a.f2 c h z t d) true := by
        rintro f2 rfl
        refine lt_from l hl hs a c h hc z t d r (i + 1) (j + 1) _ hr hjr (by omega) ?_
        rw [← hf]
        simp [Bool.or_assoc]
      cases fl with
      | true => exact Ev_shift 1 (fun k => by rw [ddilaw38_LeaseTaken.j1, if_neg Bool.false_ne_true, if_pos rfl, wnext j (by omega), next i l.length hi (by omega)]) (ih true rfl)
      | false => exact Ev_shift 1 (fun k => by rw [ddilaw38_LeaseTaken.j1, if_neg Bool.false_ne_true, if_neg Bool.false_ne_true, if_pos i1, if_pos i2, wnext j (by omega), next i l.length hi (by omega), hx]; rfl) (ih (ea x.f0 a) rfl)
theorem leaseTaken : ddilaw38_LeaseTaken.Pure := by
  intro l a0 a1 a2 c h z t d ⟨hl, _, ok⟩ oka
  refine Ev.rounds (?_ : Ev (fun k => ddilaw38_LeaseTaken.f k l a0 a1 a2 c h z t d) true)
  unfold ddilaw38_LeaseTaken.f
  refine Ev.bind (check_ev l (by omega) ok) ?_
  by_cases h0 : chkT l = 0
  · obtain ⟨hn, hs⟩ := chkT_zero l h0
    simp only [if_pos h0]
    refine Ev.bind (taken_ev l hn c t) ?_
    exact lt_from l hn hs ⟨a0, a1, a2⟩ c h oka.2.1 z t d l 0 0 false rfl rfl (Nat.zero_le _) (by rw [Bool.false_or]; exact any_get l hs _ c t)
  · simp only [if_neg h0]
    exact Ev.bind awake_ev (Ev_const rfl)
end Go.Proofs.YtonpcojdpfmbkaaDoor.Ma
namespace Go.Proofs.YtonpcojdpfmbkaaDoor.Ma
open Go.RowKit Go.Proofs.YtonpcojdpfmbkaaDoorW.PrintWords Go.Proofs.YtonpcojdpfmbkaaDoorW.PrintLast Go.Proofs.YtonpcojdpfmbkaaDoorW.PrintMore Go.Proofs.YtonpcojdpfmbkaaDoor.XP Go.Proofs.YtonpcojdpfmbkaaDoor.QA Go.Proofs.YtonpcojdpfmbkaaDoor.Cm
set_option linter.unusedVariables false
set_option linter.unusedSimpArgs false
def newer (x b : S41) : Bool := if ((x.f2 == 2) == (b.f2 == 2)) = true then decide (x.f3 > b.f3) else false
def bet (fl : Bool) (x b : S41) : Bool := if fl = true then (if x.f2 = 2 then (if b.f2 = 2 then newer x b else true) else newer x b) else true
theorem bet_at (fl : Bool) (x b : S41) {β : Type} (g : Bool → β) : (if fl = true then (if x.f2 = 2 then (if b.f2 = 2 then (if ((x.f2 == 2) == (b.f2 == 2)) = true then g (decide (x.f3 > b.f3)) else g false) else g true) else (if ((x.f2 == 2) == (b.f2 == 2)) = true then g (decide (x.f3 > b.f3)) else g false)) else g true) = g (bet fl x b) := by
  unfold bet newer
  cases fl with
  | false => rfl
  | true =>
    simp only [if_true]
    by_cases h1 : x.f2 = 2
    · simp only [if_pos h1]
      by_cases h2 : b.f2 = 2
      · simp only [if_pos h2]
        split <;> rfl
      · simp only [if_neg h2]
    · simp only [if_neg h1]
      split <;> rfl
def ofT (c : ByteArray) : List S41 → Bool → S41 → Bool × S41
  | [], fl, b => (fl, b)
  | x :: r, fl, b => if mine x c = true then (if bet fl x b = true then ofT c r true x else ofT c r fl b) else ofT c r fl b
def tupF (q : Bool × S41) : Bool × Int × Int × ByteArray × Int × Int × Int × ByteArray × Int × Bool := (q.2.f0.f0, q.2.f0.f1, q.2.f0.f2, q.2.f1, q.2.f2, q.2.f3, q.2.f4, q.2.f5, q.2.f6, q.1)
theorem of_from (l : List S41) (hl : l.length ≤ 512) (c : ByteArray) : ∀ (r : List S41) (i : Nat) (fl : Bool) (b : S41), l.drop i = r → Ev (fun k => lease_Of.l0 k c fl l (l.length : Int) (i : Int) b.f0.f0 b.f0.f1 b.f0.f2 b.f1 b.f2 b.f3 b.f4 b.f5 b.f6) (tupF (ofT c r fl b))
  | [], i, fl, b, h => by
    have := drop_end h
    exact Ev_shift 1 (f := fun _ => some (tupF (fl, b))) (fun k => by rw [lease_Of.l0, if_neg (by omega)]; rfl) (Ev_const rfl)
  | x :: r, i, fl, b, h => by
    obtain ⟨hi, hx, hr⟩ := rd41 l i x r h
    unfold ofT mine
    have ih := fun fl b => of_from l hl c r (i + 1) fl b hr
    by_cases hm : x.f1.data.toList = c.data.toList
    · rw [if_pos (decide_eq_true hm)]
      refine Ev_shift 1 (f := fun k => lease_Of.j1 k c fl l (l.length : Int) (i : Int) (bet fl x b) b.f0.f0 b.f0.f1 b.f0.f2 b.f1 b.f2 b.f3 b.f4 b.f5 b.f6 x.f0.f0 x.f0.f1 x.f0.f2 x.f1 x.f2 x.f3 x.f4 x.f5 x.f6) (fun k => ?_) ?_
      · rw [lease_Of.l0, if_pos (by omega), if_pos (by omega), if_pos (by omega), hx, toL, toL, if_pos hm]
        exact bet_at fl x b (fun y => lease_Of.j1 k c fl l (l.length : Int) (i : Int) y b.f0.f0 b.f0.f1 b.f0.f2 b.f1 b.f2 b.f3 b.f4 b.f5 b.f6 x.f0.f0 x.f0.f1 x.f0.f2 x.f1 x.f2 x.f3 x.f4 x.f5 x.f6)
      · cases bet fl x b with
        | true => exact Ev_shift 1 (fun k => by rw [lease_Of.j1, if_pos rfl, next i l.length hi (by omega)]) (ih true x)
        | false => exact Ev_shift 1 (fun k => by rw [lease_Of.j1, if_neg Bool.false_ne_true, next i l.length hi (by omega)]) (ih fl b)
    · rw [if_neg (by rw [decide_eq_false hm]; exact Bool.false_ne_true)]
      exact Ev_shift 1 (fun k => by rw [lease_Of.l0, if_pos (by omega), if_pos (by omega), if_pos (by omega), hx, toL, toL, if_neg hm, next i l.length hi (by omega)]) (ih fl b)
theorem rof_from (l : List S41) (hl : l.length ≤ 512) (c : ByteArray) : ∀ (r : List S41) (i : Nat) (fl : Bool) (b : S41), l.drop i = r → Ev (fun k => ddiref38_Of.l0 k l c fl (i : Int) b.f0.f0 b.f0.f1 b.f0.f2 b.f1 b.f2 b.f3 b.f4 b.f5 b.f6) (tupF (ofT c r fl b))
  | [], i, fl, b, h => by
    have := drop_end h
    exact Ev_shift 1 (f := fun _ => some (tupF (fl, b))) (fun k => by rw [ddiref38_Of.l0, if_neg (by omega)]; rfl) (Ev_const rfl)
  | x :: r, i, fl, b, h => by
    obtain ⟨hi, hx, hr⟩ := rd41 l i x r h
    unfold ofT mine
    have ih := fun fl b => rof_from l hl c r (i + 1) fl b hr
    by_cases hm : x.f1.data.toList = c.data.toList
    · rw [if_pos (decide_eq_true hm)]
      refine Ev_shift 1 (f := fun k => ddiref38_Of.j1 k l c fl (i : Int) (bet fl x b) b.f0.f0 b.f0.f1 b.f0.f2 b.f1 b.f2 b.f3 b.f4 b.f5 b.f6 x.f0.f0 x.f0.f1 x.f0.f2 x.f1 x.f2 x.f3 x.f4 x.f5 x.f6) (fun k => ?_) ?_
      · rw [ddiref38_Of.l0, if_pos (by omega), if_pos (by omega), hx, toL, toL, if_pos hm]
        exact bet_at fl x b (fun y => ddiref38_Of.j1 k l c fl (i : Int) y b.f0.f0 b.f0.f1 b.f0.f2 b.f1 b.f2 b.f3 b.f4 b.f5 b.f6 x.f0.f0 x.f0.f1 x.f0.f2 x.f1 x.f2 x.f3 x.f4 x.f5 x.f6)
      · cases bet fl x b with
        | true => exact Ev_shift 1 (fun k => by rw [ddiref38_Of.j1, if_pos rfl, next i l.length hi (by omega)]) (ih true x)
        | false => exact Ev_shift 1 (fun k => by rw [ddiref38_Of.j1, if_neg Bool.false_ne_true, next i l.length hi (by omega)]) (ih fl b)
    · rw [if_neg (by rw [decide_eq_false hm]; exact Bool.false_ne_true)]
      exact Ev_shift 1 (fun k => by rw [ddiref38_Of.l0, if_pos (by omega), if_pos (by omega), hx, toL, toL, if_neg hm, next i l.length hi (by omega)]) (ih fl b)
def z41 : S41 := ⟨⟨false, 0, 0⟩, ⟨#[]⟩, 0, 0, 0, ⟨#[]⟩, 0⟩
theorem of_ev (l : List S41) (hl : l.length ≤ 512) (c : ByteArray) : Ev (fun k => lease_Of.f k l c) (tupF (ofT c l false z41)) := by
  unfold lease_Of.f
  exact of_from l hl c l 0 false z41 rfl
theorem rof_ev (l : List S41) (hl : l.length ≤ 512) (c : ByteArray) : Ev (fun k => ddiref38_Of.f k l c) (tupF (ofT c l false z41)) := by
  unfold ddiref38_Of.f
  exact rof_from l hl c l 0 false z41 rfl
theorem rtaken_from (l : List S41) (hl : l.length ≤ 512) (hs : Srt l) (c : ByteArray) (t : Int) : ∀ (r : List S41) (i : Nat) (q : List S29), l.drop i = r → q.length ≤ i → Ev (fun k => ddiref38_Taken.l0 k l c t q (i : Int)) (q ++ takT r c t)
  | [], i, q, h, _ => by
    have := drop_end h
    exact Ev_shift 1 (f := fun _ => some q) (fun k => by rw [ddiref38_Taken.l0, if_neg (by omega)]) (Ev_const (by simp [takT]))
  | x :: r, i, q, h, hq => by
    obtain ⟨hi, hx, hr⟩ := rd41 l i x r h
    have hxl : x ∈ l := List.mem_of_mem_drop (i := i) (by rw [h]; exact List.mem_cons_self ..)
    refine Ev_shift 1 (fun k => by rw [ddiref38_Taken.l0, if_pos (by omega), if_pos (by omega), hx]) ?_
    refine Ev.bind (rfree_ev l (by omega) x.f0 c t) ?_
    rw [get_mem l hs x hxl]
    show Ev (fun k => if freeB x c t = true then _ else _) _
    have hq1 : q.length < 5864062014805 := by omega
    cases hb : freeB x c t with
    | true =>
      have hT : takT (x :: r) c t = takT r c t := by
        unfold takT
        rw [List.filter_cons_of_neg (by unfold tkB; rw [hb]; decide)]
      rw [hT]
      have ih := rtaken_from l hl hs c t r (i + 1) q hr (by omega)
      rw [← next i l.length hi (by omega)] at ih
      simp only [if_true]
      exact ih
    | false =>
      have hT : takT (x :: r) c t = x.f0 :: takT r c t := by
        unfold takT
        rw [List.filter_cons_of_pos (by unfold tkB; rw [hb]; rfl), List.map_cons]
      rw [hT]
      have ih := rtaken_from l hl hs c t r (i + 1) (q ++ [x.f0]) hr (by simp; omega)
      rw [List.append_assoc, ← next i l.length hi (by omega)] at ih
      simp only [Bool.false_eq_true, if_false, if_pos hq1]
      exact ih
theorem rtaken_ev (l : List S41) (hl : l.length ≤ 512) (hs : Srt l) (c : ByteArray) (t : Int) : Ev (fun k => ddiref38_Taken.f k l c t) (takT l c t) := by
  unfold ddiref38_Taken.f
  exact rtaken_from l hl hs c t l 0 [] rfl (Nat.le_refl _)
def acB (t : Int) (x : S41) : Bool := decide (x.f2 = 2) && forB x t
theorem active_from (l : List S41) (hl : l.length ≤ 512) (t : Int) : ∀ (r : List S41) (i : Nat) (q : List S41), l.drop i = r → q.length ≤ i → Ev (fun k => lease_Active.l0 k t q l (l.length : Int) (i : Int)) (q ++ r.filter (acB t))
  | [], i, q, h, _ => by
    have := drop_end h
    exact Ev_shift 1 (f := fun _ => some q) (fun k => by rw [lease_Active.l0, if_neg (by omega)]) (Ev_const (by simp))
  | x :: r, i, q, h, hq => by
    obtain ⟨hi, hx, hr⟩ := rd41 l i x r h
    have hj : ∀ b : Bool, b = acB t x → Ev (fun k => lease_Active.j1 k t q l (l.length : Int) (i : Int) b x.f0.f0 x.f0.f1 x.f0.f2 x.f1 x.f2 x.f3 x.f4 x.f5 x.f6) (q ++ (x :: r).filter (acB t)) := by
      rintro b rfl
      rw [List.filter_cons]
      cases acB t x with
      | true =>
        have ih := active_from l hl t r (i + 1) (q ++ [x]) hr (by simp; omega)
        rw [List.append_assoc] at ih
        exact Ev_shift 1 (fun k => by rw [lease_Active.j1, if_pos rfl, if_pos (by omega), next i l.length hi (by omega)]) ih
      | false =>
        have ih := active_from l hl t r (i + 1) q hr (by omega)
        exact Ev_shift 1 (fun k => by rw [lease_Active.j1, if_neg Bool.false_ne_true, next i l.length hi (by omega)]) ih
    by_cases h2 : x.f2 = 2
    · exact Ev_shift 1 (fun k => by rw [lease_Active.l0, if_pos (by omega), if_pos (by omega), if_pos (by omega), hx, if_pos h2, force_v, Option.bind_some]) (hj (forB x t) (by unfold acB; rw [decide_eq_true h2, Bool.true_and]))
    · exact Ev_shift 1 (fun k => by rw [lease_Active.l0, if_pos (by omega), if_pos (by omega), if_pos (by omega), hx, if_neg h2]) (hj false (by unfold acB; rw [decide_eq_false h2, Bool.false_and]))
theorem ractive_from (l : List S41) (hl : l.length ≤ 512) (t : Int) : ∀ (r : List S41) (i : Nat) (q : List S41), l.drop i = r → q.length ≤ i → Ev (fun k => ddiref38_Active.l0 k l t q (i : Int)) (q ++ r.filter (acB t))
  | [], i, q, h, _ => by
    have := drop_end h
    exact Ev_shift 1 (f := fun _ => some q) (fun k => by rw [ddiref38_Active.l0, if_neg (by omega)]) (Ev_const (by simp))
  | x :: r, i, q, h, hq => by
    obtain ⟨hi, hx, hr⟩ := rd41 l i x r h
    have hj : ∀ b : Bool, b = acB t x → Ev (fun k => ddiref38_Active.j1 k l t q (i : Int) b) (q ++ (x :: r).filter (acB t)) := by
      rintro b rfl
      rw [List.filter_cons]
      cases acB t x with
      | true =>
        have ih := ractive_from l hl t r (i + 1) (q ++ [x]) hr (by simp; omega)
        rw [List.append_assoc] at ih
        exact Ev_shift 1 (fun k => by rw [ddiref38_Active.j1, if_pos rfl, if_pos (by omega), if_pos (by omega), if_pos (by omega), hx, next i l.length hi (by omega)]) ih
      | false =>
        have ih := ractive_from l hl t r (i + 1) q hr (by omega)
        exact Ev_shift 1 (fun k => by rw [ddiref38_Active.j1, if_neg Bool.false_ne_true, next i l.length hi (by omega)]) ih
    by_cases h2 : x.f2 = 2
    · exact Ev_shift 1 (fun k => by rw [ddiref38_Active.l0, if_pos (by omega), if_pos (by omega), hx, if_pos h2, rforce_v, Option.bind_some]) (hj (forB x t) (by unfold acB; rw [decide_eq_true h2, Bool.true_and]))
    · exact Ev_shift 1 (fun k => by rw [ddiref38_Active.l0, if_pos (by omega), if_pos (by omega), hx, if_neg h2]) (hj false (by unfold acB; rw [decide_eq_false h2, Bool.false_and]))
theorem same_from (l : List S41) (hl : l.length ≤ 1000000) : ∀ (d i : Nat), l.length - i ≤ d → i ≤ l.length → Ev (fun k => ddiref38_Same.l0 k l l (i : Int)) true
  | d, i, hd, hi => by
    by_cases h : i < l.length
    · cases d with
      | zero => exact absurd hd (by omega)
      | succ d =>
        have ih := same_from l hl d (i + 1) (by omega) (by omega)
        refine Ev_shift 1 (fun k => ?_) ih
        rw [ddiref38_Same.l0, if_pos (by omega), if_pos (by omega), if_pos (by omega), next i l.length h (by omega)]
        simp only [beq_self_eq_true, Bool.not_true, Bool.or_false, Bool.false_eq_true, if_false]
    · exact Ev_shift 1 (f := fun _ => some true) (fun k => by rw [ddiref38_Same.l0, if_neg (by omega)]) (Ev_const rfl)
theorem same_ev (l : List S41) (hl : l.length ≤ 1000000) : Ev (fun k => ddiref38_Same.f k l l) true := by
  unfold ddiref38_Same.f
  simp only [if_true]
  exact same_from l hl l.length 0 (by omega) (by omega)
theorem addrs_from (l : List S29) (hl : l.length ≤ 1000000) : ∀ (d i : Nat), l.length - i ≤ d → i ≤ l.length → Ev (fun k => ddilaw38_addrs.l0 k l l (i : Int)) true
  | d, i, hd, hi => by
    by_cases h : i < l.length
    · cases d with
      | zero => exact absurd hd (by omega)
      | succ d =>
        have ih := addrs_from l hl d (i + 1) (by omega) (by omega)
        refine Ev_shift 1 (fun k => ?_) ih
        rw [ddilaw38_addrs.l0, if_pos (by omega), if_pos (by omega), if_pos (by omega), next i l.length h (by omega)]
        simp only [beq_self_eq_true, Bool.not_true, Bool.or_false, Bool.false_eq_true, if_false]
    · exact Ev_shift 1 (f := fun _ => some true) (fun k => by rw [ddilaw38_addrs.l0, if_neg (by omega)]) (Ev_const rfl)
theorem addrs_ev (l : List S29) (hl : l.length ≤ 1000000) : Ev (fun k => ddilaw38_addrs.f k l l) true := by
  unfold ddilaw38_addrs.f
  simp only [if_true]
  exact addrs_from l hl l.length 0 (by omega) (by omega)
theorem leaseFinds : ddilaw38_LeaseFinds.Pure := by
  intro l a0 a1 a2 c h z t d ⟨hl, _, ok⟩ oka
  refine Ev.rounds (?_ : Ev (fun k => ddilaw38_LeaseFinds.f k l a0 a1 a2 c h z t d) true)
  unfold ddilaw38_LeaseFinds.f
  refine Ev.bind (rcheck_ev l (by omega) ok) ?_
  by_cases h0 : chkT l = 0
  · obtain ⟨hn, hs⟩ := chkT_zero l h0
    simp only [if_pos h0]
    refine Ev.bind (find_ev l (by omega) hs ⟨a0, a1, a2⟩) (Ev.bind (rfind_ev l (by omega) ⟨a0, a1, a2⟩) ?_)
    refine Ev.bind (of_ev l hn c) (Ev.bind (rof_ev l hn c) ?_)
    simp only [beq_self_eq_true, Bool.and_self, if_true]
    refine Ev.bind (free_ev l (by omega) hs ⟨a0, a1, a2⟩ c t) (Ev.bind (rfree_ev l (by omega) ⟨a0, a1, a2⟩ c t) ?_)
    simp only [beq_self_eq_true, if_true]
    have ht := takT_len l c t
    refine Ev.bind (taken_ev l hn c t) (Ev.bind (rtaken_ev l hn hs c t) (Ev.bind (addrs_ev _ (by omega)) ?_))
    simp only [if_true]
    have hf : (l.filter (acB t)).length ≤ l.length := List.length_filter_le _ _
    refine Ev.bind (show Ev (fun k => lease_Active.f k l t) (l.filter (acB t)) by unfold lease_Active.f; exact active_from l hn t l 0 [] rfl (Nat.le_refl _)) ?_
    refine Ev.bind (show Ev (fun k => ddiref38_Active.f k l t) (l.filter (acB t)) by unfold ddiref38_Active.f; exact ractive_from l hn t l 0 [] rfl (Nat.le_refl _)) ?_
    refine Ev.bind (same_ev _ (by omega)) ?_
    simp only [if_true]
    exact Ev.bind awake_ev (Ev_const rfl)
  · simp only [if_neg h0]
    exact Ev.bind awake_ev (Ev_const rfl)
end Go.Proofs.YtonpcojdpfmbkaaDoor.Ma
namespace Go.Proofs.YtonpcojdpfmbkaaDoor.Pure
theorem LeaseFinds : QA.ddilaw38_LeaseFinds.Pure := Ma.leaseFinds
end Go.Proofs.YtonpcojdpfmbkaaDoor.Pure
