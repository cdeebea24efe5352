/- Offer and Bind return the specified tables or errors: the pure statement of LeaseGrants (no condition but the sizes that every argument has). -/
import Derived.Test.YtonpcojdpfmbkaaDoorQAd1
import Derived.Test.YtonpcojdpfmbkaaDoorXP
import Derived.Test.YtonpcojdpfmbkaaDoorXB
import Derived.Test.YtonpcojdpfmbkaaDoorQAd3
import Derived.Test.YtonpcojdpfmbkaaDoorQAd4
import Derived.Test.YtonpcojdpfmbkaaDoorQAd5
namespace Go.Proofs.YtonpcojdpfmbkaaDoor.Cm
open Go.RowKit Go.Proofs.YtonpcojdpfmbkaaDoorW.PrintWords Go.Proofs.YtonpcojdpfmbkaaDoorW.PrintLast Go.Proofs.YtonpcojdpfmbkaaDoorW.PrintMore Go.Proofs.YtonpcojdpfmbkaaDoor.XP Go.Proofs.YtonpcojdpfmbkaaDoor.QA
set_option linter.unusedVariables false
set_option linter.unusedSimpArgs false
/-- A byte of an ordinary label. -/
def okc (c : UInt8) : Bool := (97 ≤ c.toNat && c.toNat ≤ 122) || ((48 ≤ c.toNat && c.toNat ≤ 57) || (c.toNat == 45 || c.toNat == 95))
def ordB (l : List UInt8) : Bool := !l.isEmpty && (decide (l.length ≤ 63) && l.all okc)
theorem bt_at_drop (s : ByteArray) (i : Nat) (c : UInt8) (r : List UInt8) (h : s.data.toList.drop i = c :: r) : i < s.size ∧ bt s (i : Int) = (c.toNat : Int) ∧ s.data.toList.drop (i + 1) = r := by
  obtain ⟨hi, hx, hr⟩ := drop_at h
  refine ⟨by rw [size_data]; exact hi, ?_, hr⟩
  rw [bt_get s i hi, hx]
theorem size_end (s : ByteArray) (i : Nat) (h : s.data.toList.drop i = []) : s.size ≤ i := by rw [size_data]; exact drop_end h
theorem toL (s : ByteArray) : s.toList = s.data.toList := ByteArray.toList_eq s
theorem ord_from (s : ByteArray) (hs : s.size ≤ 140737488351232) : ∀ (r : List UInt8) (i : Nat), s.data.toList.drop i = r → Ev (fun k => dname_ordinary.l0 k s (s.size : Int) (i : Int)) (r.all okc)
  | [], i, h => by
    have := size_end s i h
    refine Ev_shift 1 (f := fun _ => some true) (fun k => ?_) (Ev_const rfl)
    rw [dname_ordinary.l0, if_neg (by omega)]
  | c :: r, i, h => by
    obtain ⟨hi, hb, hr⟩ := bt_at_drop s i c r h
    have ih := ord_from s hs r (i + 1) hr
    have key : ∀ b : Bool, b = !okc c → Ev (fun k => dname_ordinary.j2 k s (s.size : Int) (i : Int) b) (List.all (c :: r) okc) := by
      intro b hbc
      rw [List.all_cons]
      cases hc : okc c with
      | false =>
        rw [hc] at hbc
        subst hbc
        refine Ev_shift 1 (f := fun _ => some false) (fun k => ?_) (Ev_const rfl)
        rw [dname_ordinary.j2]
        rfl
      | true =>
        rw [hc] at hbc
        subst hbc
        rw [Bool.true_and]
        refine Ev_shift 1 (fun k => ?_) ih
        rw [dname_ordinary.j2, next i s.size hi (by omega)]
        rfl
    refine Ev_shift 1 (f := fun k => dname_ordinary.j2 k s (s.size : Int) (i : Int) (!okc c)) (fun k => ?_) (key _ rfl)
    rw [dname_ordinary.l0, if_pos (by omega), if_pos (by omega), if_pos (by omega), hb]
    have hc : okc c = true ↔ (97 ≤ c.toNat ∧ c.toNat ≤ 122) ∨ ((48 ≤ c.toNat ∧ c.toNat ≤ 57) ∨ (c.toNat = 45 ∨ c.toNat = 95)) := by simp [okc]
    have hbn : ((c.toNat : Int) != 95) = !decide (c.toNat = 95) := by
      rw [Bool.eq_iff_iff]
      simp
      omega
    rw [hbn]
    cases hk : okc c with
    | true =>
      have := hc.1 hk
      repeat' split
      all_goals first | rfl | omega | (congr 1; simp; omega)
    | false =>
      have hn : ¬ _ := fun h => Bool.false_ne_true (hk.symm.trans (hc.2 h))
      repeat' split
      all_goals first | rfl | (exfalso; omega) | (congr 1; simp; omega)
theorem ord_ev (s : ByteArray) (hs : s.size ≤ 140737488351232) : Ev (fun k => dname_ordinary.f k s) (ordB s.data.toList) := by
  have hl := size_data s
  unfold dname_ordinary.f
  rw [toL]
  have hj : ∀ b : Bool, b = !(!s.data.toList.isEmpty && decide (s.data.toList.length ≤ 63)) → Ev (fun k => dname_ordinary.j0 k s b) (ordB s.data.toList) := by
    intro b hb
    unfold ordB
    cases h : (!s.data.toList.isEmpty && decide (s.data.toList.length ≤ 63)) with
    | false =>
      rw [h] at hb
      subst hb
      refine Ev_shift 1 (f := fun _ => some false) (fun k => ?_) (Ev_const (by rw [← Bool.and_assoc, h]; rfl))
      rw [dname_ordinary.j0]
      rfl
    | true =>
      rw [h] at hb
      subst hb
      rw [← Bool.and_assoc, h, Bool.true_and]
      refine Ev_shift 1 (fun k => ?_) (ord_from s hs s.data.toList 0 rfl)
      rw [dname_ordinary.j0]
      rfl
  by_cases h0 : s.data.toList = []
  · simp only [if_pos h0]
    exact hj true (by rw [h0]; rfl)
  · simp only [if_neg h0]
    refine hj _ ?_
    have : s.data.toList.isEmpty = false := by simpa using h0
    rw [this, hl]
    simp only [Bool.not_false, Bool.true_and]
    by_cases h : s.data.toList.length ≤ 63
    · rw [decide_eq_true h, decide_eq_false (by omega)]; rfl
    · rw [decide_eq_false h, decide_eq_true (by omega)]; rfl
theorem lab_from (s : ByteArray) (hs : s.size ≤ 140737488351232) : ∀ (r : List UInt8) (i : Nat), s.data.toList.drop i = r → Ev (fun k => ddiref01_isLabel.l0 k s (i : Int)) (r.all okc)
  | [], i, h => by
    have := size_end s i h
    refine Ev_shift 1 (f := fun _ => some true) (fun k => ?_) (Ev_const rfl)
    rw [ddiref01_isLabel.l0, if_neg (by omega)]
  | c :: r, i, h => by
    obtain ⟨hi, hb, hr⟩ := bt_at_drop s i c r h
    have ih := lab_from s hs r (i + 1) hr
    have key : ∀ b : Bool, b = !okc c → Ev (fun k => ddiref01_isLabel.j2 k s (i : Int) b) (List.all (c :: r) okc) := by
      intro b hbc
      rw [List.all_cons]
      cases hc : okc c with
      | false =>
        rw [hc] at hbc
        subst hbc
        refine Ev_shift 1 (f := fun _ => some false) (fun k => ?_) (Ev_const rfl)
        rw [ddiref01_isLabel.j2]
        rfl
      | true =>
        rw [hc] at hbc
        subst hbc
        rw [Bool.true_and]
        refine Ev_shift 1 (fun k => ?_) ih
        rw [ddiref01_isLabel.j2, next i s.size hi (by omega)]
        rfl
    refine Ev_shift 1 (f := fun k => ddiref01_isLabel.j2 k s (i : Int) (!okc c)) (fun k => ?_) (key _ rfl)
    rw [ddiref01_isLabel.l0, if_pos (by omega), if_pos (by omega), hb]
    have hc : okc c = true ↔ (97 ≤ c.toNat ∧ c.toNat ≤ 122) ∨ ((48 ≤ c.toNat ∧ c.toNat ≤ 57) ∨ (c.toNat = 45 ∨ c.toNat = 95)) := by simp [okc]
    have hbn : ((c.toNat : Int) == 95) = decide (c.toNat = 95) := by
      rw [Bool.eq_iff_iff]
      simp
      omega
    rw [hbn]
    cases hk : okc c with
    | true =>
      have := hc.1 hk
      repeat' split
      all_goals first | rfl | omega | (congr 1; simp; omega)
    | false =>
      have hn : ¬ _ := fun h => Bool.false_ne_true (hk.symm.trans (hc.2 h))
      repeat' split
      all_goals first | rfl | (exfalso; omega) | (congr 1; simp; omega)
def labB (l : List UInt8) : Bool := decide (l = [42]) || ordB l
theorem lab_ev (s : ByteArray) (hs : s.size ≤ 140737488351232) : Ev (fun k => ddiref01_isLabel.f k s) (labB s.data.toList) := by
  have hl := size_data s
  unfold ddiref01_isLabel.f labB
  rw [toL]
  have hj : ∀ b : Bool, b = !(!s.data.toList.isEmpty && decide (s.data.toList.length ≤ 63)) → Ev (fun k => ddiref01_isLabel.j0 k s b) (ordB s.data.toList) := by
    intro b hb
    unfold ordB
    cases h : (!s.data.toList.isEmpty && decide (s.data.toList.length ≤ 63)) with
    | false =>
      rw [h] at hb
      subst hb
      refine Ev_shift 1 (f := fun _ => some false) (fun k => ?_) (Ev_const (by rw [← Bool.and_assoc, h]; rfl))
      rw [ddiref01_isLabel.j0]
      rfl
    | true =>
      rw [h] at hb
      subst hb
      rw [← Bool.and_assoc, h, Bool.true_and]
      refine Ev_shift 1 (fun k => ?_) (lab_from s hs s.data.toList 0 rfl)
      rw [ddiref01_isLabel.j0]
      rfl
  by_cases h42 : s.data.toList = [42]
  · simp only [if_pos h42, h42, decide_true, Bool.true_or]
    exact Ev_const rfl
  · simp only [if_neg h42, h42, decide_false, Bool.false_or]
    by_cases h0 : (s.size : Int) < 1
    · simp only [if_pos h0]
      refine hj true ?_
      have : s.data.toList = [] := List.length_eq_zero_iff.1 (by rw [← hl]; omega)
      rw [this]
      rfl
    · simp only [if_neg h0]
      refine hj _ ?_
      have : s.data.toList.isEmpty = false := by
        cases h : s.data.toList with
        | nil => rw [h, List.length_nil] at hl; exfalso; omega
        | cons => rfl
      rw [this, hl]
      simp only [Bool.not_false, Bool.true_and]
      by_cases h : s.data.toList.length ≤ 63
      · rw [decide_eq_true h, decide_eq_false (by omega)]; rfl
      · rw [decide_eq_false h, decide_eq_true (by omega)]; rfl
end Go.Proofs.YtonpcojdpfmbkaaDoor.Cm
namespace Go.Proofs.YtonpcojdpfmbkaaDoor.Cm
open Go.RowKit Go.Proofs.YtonpcojdpfmbkaaDoorW.PrintWords Go.Proofs.YtonpcojdpfmbkaaDoorW.PrintLast Go.Proofs.YtonpcojdpfmbkaaDoorW.PrintMore Go.Proofs.YtonpcojdpfmbkaaDoor.XP Go.Proofs.YtonpcojdpfmbkaaDoor.QA
set_option linter.unusedVariables false
set_option linter.unusedSimpArgs false
def mkB (l : List UInt8) : ByteArray := ⟨l.toArray⟩
theorem mkB_data (l : List UInt8) : (mkB l).data.toList = l := rfl
theorem mkB_of (s : ByteArray) : mkB s.data.toList = s := by
  obtain ⟨⟨l⟩⟩ := s
  rfl
theorem mkB_size (l : List UInt8) : (mkB l).size = l.length := by rw [size_data]; rfl
/-- What lies between the periods; cur is what was read since the last one. -/
def pcs : List UInt8 → List UInt8 → List (List UInt8)
  | cur, [] => [cur]
  | cur, c :: r => if c = 46 then cur :: pcs [] r else pcs (cur ++ [c]) r
def dots (l : List UInt8) : Nat := l.count 46
theorem pcs_len : ∀ (l cur : List UInt8), (pcs cur l).length = dots l + 1
  | [], _ => rfl
  | c :: r, cur => by
    rw [pcs]
    by_cases h : c = 46
    · subst h
      rw [if_pos rfl, List.length_cons, pcs_len r, dots, dots, List.count_cons_self]
    · rw [if_neg h, pcs_len r, dots, dots, List.count_cons_of_ne h]
theorem idx_some : ∀ l : List UInt8, 0 < dots l → ∃ p q, l = p ++ 46 :: q ∧ dots p = 0 ∧ Go.Lib.indexByte l 46 = (p.length : Int)
  | [], h => by cases h
  | c :: r, h => by
    by_cases hc : c = 46
    · subst hc
      exact ⟨[], r, rfl, rfl, rfl⟩
    · have hr : 0 < dots r := by
        rw [dots, List.count_cons_of_ne hc] at h
        exact h
      obtain ⟨p, q, e, hp, hi⟩ := idx_some r hr
      have hb : (c == 46) = false := by simpa using hc
      refine ⟨c :: p, q, by rw [e]; rfl, by rw [dots, List.count_cons_of_ne hc]; exact hp, ?_⟩
      rw [Go.Lib.indexByte, hb, hi]
      have : ((p.length : Int) == -1) = false := by
        rw [beq_eq_false_iff_ne]
        omega
      simp only [this, Bool.false_eq_true, if_false, List.length_cons]
      omega
theorem pcs_front : ∀ (p cur q : List UInt8), dots p = 0 → pcs cur (p ++ 46 :: q) = (cur ++ p) :: pcs [] q
  | [], cur, q, _ => by simp [pcs]
  | c :: p, cur, q, h => by
    have hc : ¬ c = 46 := by
      rintro rfl
      rw [dots, List.count_cons_self] at h
      omega
    have hp : dots p = 0 := by
      rw [dots, List.count_cons_of_ne hc] at h
      exact h
    rw [List.cons_append, pcs, if_neg hc, pcs_front p _ q hp]
    simp
theorem pcs_last : ∀ (p cur : List UInt8), dots p = 0 → pcs cur p = [cur ++ p]
  | [], cur, _ => by simp [pcs]
  | c :: p, cur, h => by
    have hc : ¬ c = 46 := by
      rintro rfl
      rw [dots, List.count_cons_self] at h
      omega
    have hp : dots p = 0 := by
      rw [dots, List.count_cons_of_ne hc] at h
      exact h
    rw [pcs, if_neg hc, pcs_last p _ hp]
    simp
theorem dots_le (l : List UInt8) : dots l ≤ l.length := List.count_le_length
theorem set_at {α : Type} (d : List α) (x e : α) (n : Nat) : (d ++ List.replicate (n + 1) e).set d.length x = d ++ [x] ++ List.replicate n e := by
  rw [List.replicate_succ, List.set_append_right _ _ (Nat.le_refl _), Nat.sub_self, List.set_cons_zero, List.append_assoc]
  rfl
def sep1 : ByteArray := ⟨#[46]⟩
theorem sfind (s : ByteArray) : strings_Index.f s sep1 = some (Go.Lib.indexByte s.data.toList 46) := rfl
theorem scount (s : ByteArray) : strings_Count.f s sep1 = some ((dots s.data.toList : Nat) : Int) := rfl
theorem nx1 (n : Nat) (h : n ≤ 1000000) : wrap64 ((n : Int) + 1) = ((n + 1 : Nat) : Int) := by rw [wrap_id (by omega) (by omega)]; omega
theorem nx0 (n : Nat) (h : n ≤ 1000000) : wrap64 ((n : Int) + 0) = ((n : Nat) : Int) := by rw [wrap_id (by omega) (by omega)]; omega
set_option maxHeartbeats 400000 in
theorem split_from (n : Nat) (hn : n ≤ 1000000) (m : Nat) : ∀ (done : List ByteArray) (s : ByteArray), dots s.data.toList = m → done.length + m = n → s.size ≤ 1000000 →
    Ev (fun k => strings_genSplit.l0 k s sep1 0 (n : Int) (done ++ List.replicate (m + 1) (⟨#[]⟩ : ByteArray)) (done.length : Int)) (done ++ (pcs [] s.data.toList).map mkB) := by
  induction m with
  | zero =>
    intro done s hd hl hs
    have hend : ((done ++ List.replicate (0 + 1) (⟨#[]⟩ : ByteArray)).set done.length s).take (done.length + 1) = done ++ (pcs [] s.data.toList).map mkB := by
      rw [set_at, pcs_last _ _ hd, List.nil_append, List.map_cons, List.map_nil, mkB_of, List.replicate_zero, List.append_nil, List.take_of_length_le (by simp)]
    have hlen : (done ++ List.replicate (0 + 1) (⟨#[]⟩ : ByteArray)).length = done.length + 1 := by simp
    have hw : wrap64 ((done.length : Int) + 1) = ((done.length + 1 : Nat) : Int) := by rw [wrap_id (by omega) (by omega)]; omega
    refine Ev_shift 1 (f := fun _ => some (done ++ (pcs [] s.data.toList).map mkB)) (fun k => ?_) (Ev_const rfl)
    rw [strings_genSplit.l0, if_neg (by omega), if_pos (by omega), hlen, if_pos (by omega), hw, if_pos (by omega), if_pos (by omega), Int.toNat_natCast, Int.toNat_natCast, hend]
  | succ m ih0 =>
    intro done s hd hl hs
    obtain ⟨p, q, e, hp, hi⟩ := idx_some s.data.toList (by omega)
    have hsz := size_data s
    have hsl : s.size = p.length + (q.length + 1) := by rw [hsz, e]; simp
    have hq : dots q = m := by
      have : dots s.data.toList = dots p + (dots q + 1) := by rw [e, dots, List.count_append, List.count_cons_self]; rfl
      omega
    have e1 : (s.extract (p.length + 1) s.size).data.toList = q := by
      rw [data_ext, e, ← List.drop_drop, List.drop_left, List.drop_one, List.tail_cons, List.take_of_length_le (by omega)]
    have e0 : s.extract 0 p.length = mkB p := by
      apply data_inj
      rw [data_ext, e, mkB_data, List.drop_zero, Nat.sub_zero, List.take_left]
    have hsz2 : (s.extract (p.length + 1) s.size).size ≤ 1000000 := by rw [size_data, e1]; omega
    obtain ⟨s2, hs2⟩ : ∃ s2, s2 = s.extract (p.length + 1) s.size := ⟨_, rfl⟩
    rw [← hs2] at e1 hsz2
    have ih := ih0 (done ++ [mkB p]) s2 (by rw [e1]; exact hq) (by rw [List.length_append, List.length_singleton]; omega) hsz2
    rw [e1] at ih
    have g1 : (done.length : Int) < (n : Int) := by omega
    have g2 : ¬ ((p.length : Int) < 0) := by omega
    have g3 : (0 : Int) ≤ ((p.length : Nat) : Int) := by omega
    have g4 : ((p.length : Nat) : Int) ≤ (s.size : Int) := by omega
    have g5 : (0 : Int) ≤ (done.length : Int) := by omega
    have g6 : (done.length : Int) < ((done.length + (m + 2) : Nat) : Int) := by omega
    have g7 : (0 : Int) ≤ ((p.length + 1 : Nat) : Int) := by omega
    have g8 : ((p.length + 1 : Nat) : Int) ≤ (s.size : Int) := by omega
    have g9 : p.length ≤ 1000000 := by omega
    have g10 : done.length ≤ 1000000 := by omega
    have hs1 : ((sep1.size : Nat) : Int) = 1 := rfl
    have hlen : (done ++ List.replicate (m + 1 + 1) (⟨#[]⟩ : ByteArray)).length = done.length + (m + 2) := by simp
    have hr : done ++ (pcs [] s.data.toList).map mkB = done ++ [mkB p] ++ (pcs [] q).map mkB := by
      rw [e, pcs_front p [] q hp, List.nil_append, List.map_cons, List.append_assoc]
      rfl
    rw [hr]
    have hw1 := nx0 p.length g9
    have hw2 := nx1 p.length g9
    have hw3 := nx1 done.length g10
    refine Ev_shift 1 (fun k => ?_) ih
    rw [strings_genSplit.l0, if_pos g1, sfind, hi, Option.bind_some, if_neg g2, hs1, hw1, hw2, hw3, if_pos g3, if_pos g4, if_pos g5, hlen, if_pos g6, if_pos g7, if_pos g8, Int.toNat_natCast, Int.toNat_natCast, Int.toNat_natCast, set_at, e0, List.length_append, List.length_singleton, ← hs2]
theorem split_ev (s : ByteArray) (hs : s.size ≤ 1000000) : Ev (fun k => strings_Split.f k s sep1) ((pcs [] s.data.toList).map mkB) := by
  have hd := dots_le s.data.toList
  have hsz := size_data s
  unfold strings_Split.f strings_genSplit.f
  have h0 : ¬ sep1.toList = ([] : List UInt8) := by rw [toL]; exact List.cons_ne_nil _ _
  simp only [if_neg (show ¬ (-1 : Int) = 0 by omega), if_neg h0, if_pos (show (-1 : Int) < 0 by omega), scount, Option.bind_some]
  have hw : wrap64 (((dots s.data.toList : Nat) : Int) + 1) = ((dots s.data.toList + 1 : Nat) : Int) := by rw [wrap_id (by omega) (by omega)]; omega
  have hw2 : wrap64 ((s.size : Int) + 1) = ((s.size + 1 : Nat) : Int) := by rw [wrap_id (by omega) (by omega)]; omega
  have hm : mn ((dots s.data.toList + 1 : Nat) : Int) ((s.size + 1 : Nat) : Int) = ((dots s.data.toList + 1 : Nat) : Int) := by rw [mn_len, Nat.min_eq_left (by omega)]
  have hw3 : wrap64 (((dots s.data.toList + 1 : Nat) : Int) - 1) = ((dots s.data.toList : Nat) : Int) := by rw [wrap_id (by omega) (by omega)]; omega
  rw [hw]
  refine Ev.bind (a := (pcs [] s.data.toList).map mkB) ?_ (Ev_const rfl)
  refine Ev_shift 1 (fun k => by rw [strings_genSplit.j0, hw2, hm, if_pos (by omega), Int.toNat_natCast, if_pos (by omega), hw3]) ?_
  exact split_from (dots s.data.toList) (by omega) (dots s.data.toList) [] s rfl (by simp) (by omega)
/-- The labels, each by its place. -/
def oks : Bool → List (List UInt8) → Bool
  | _, [] => true
  | first, x :: r => (ordB x || (first && decide (x = [42]))) && oks false r
theorem labels_from (l : List (List UInt8)) (hl : l.length ≤ 1000001) (hsz : ∀ x ∈ l, x.length ≤ 1000000) : ∀ (r : List (List UInt8)) (i : Nat), l.drop i = r →
    Ev (fun k => dname_Valid.l0 k (l.map mkB) (((l.map mkB).length : Nat) : Int) (i : Int)) (oks (decide (i = 0)) r)
  | [], i, h => by
    have := drop_end h
    refine Ev_shift 1 (f := fun _ => some true) (fun k => ?_) (Ev_const rfl)
    rw [dname_Valid.l0, if_neg (by rw [List.length_map]; omega)]
  | x :: r, i, h => by
    obtain ⟨hi, hx, hr⟩ := drop_at h
    have hlm : (l.map mkB).length = l.length := List.length_map _
    have hrd : rdOf ByteArray.empty (l.map mkB) (i : Int) = mkB x := by
      simp [rdOf, List.getD_eq_getElem?_getD, List.getElem?_eq_getElem hi, hx]
    have ih := labels_from l hl hsz r (i + 1) hr
    have hxs : (mkB x).size ≤ 140737488351232 := by
      have := hsz x (hx ▸ List.getElem_mem hi)
      rw [mkB_size]
      omega
    have key : ∀ b : Bool, b = !(ordB x || (decide (i = 0) && decide (x = [42]))) → Ev (fun k => dname_Valid.j2 k (l.map mkB) (((l.map mkB).length : Nat) : Int) (i : Int) b) (oks (decide (i = 0)) (x :: r)) := by
      intro b hb
      rw [oks]
      cases hk : (ordB x || (decide (i = 0) && decide (x = [42]))) with
      | false =>
        rw [hk] at hb
        subst hb
        refine Ev_shift 1 (f := fun _ => some false) (fun k => ?_) (Ev_const rfl)
        rw [dname_Valid.j2]
        rfl
      | true =>
        rw [hk] at hb
        subst hb
        rw [Bool.true_and]
        have hi1 : decide (i + 1 = 0) = false := decide_eq_false (by omega)
        rw [hi1] at ih
        refine Ev_shift 1 (fun k => ?_) ih
        rw [dname_Valid.j2, next i l.length hi (by omega)]
        rfl
    refine Ev_shift 1 (fun k => by rw [dname_Valid.l0, if_pos (by omega), if_pos (by omega), if_pos (by omega), hrd]) ?_
    refine Ev.bind (ord_ev (mkB x) hxs) ?_
    rw [mkB_data]
    cases ho : ordB x with
    | true =>
      simp only [if_true]
      exact key false (by rw [ho]; rfl)
    | false =>
      simp only [Bool.false_eq_true, if_false]
      by_cases h0 : i = 0
      · subst h0
        simp only [if_neg (show ¬ ((0 : Nat) : Int) > 0 by omega)]
        refine key _ ?_
        rw [ho, toL, mkB_data]
        by_cases h42 : x = [42]
        · simp [h42]
        · have : (x != [42]) = true := by simpa using h42
          rw [this]
          simp [h42]
      · simp only [if_pos (show (i : Int) > 0 by omega)]
        exact key true (by rw [ho]; simp [h0])
end Go.Proofs.YtonpcojdpfmbkaaDoor.Cm
namespace Go.Proofs.YtonpcojdpfmbkaaDoor.Cm
open Go.RowKit Go.Proofs.YtonpcojdpfmbkaaDoorW.PrintWords Go.Proofs.YtonpcojdpfmbkaaDoorW.PrintLast Go.Proofs.YtonpcojdpfmbkaaDoorW.PrintMore Go.Proofs.YtonpcojdpfmbkaaDoor.XP Go.Proofs.YtonpcojdpfmbkaaDoor.QA
set_option linter.unusedVariables false
set_option linter.unusedSimpArgs false
/-- A domain name, by its bytes. -/
def nameB (l : List UInt8) : Bool := decide (l = [46]) || (decide (2 ≤ l.length ∧ l.length ≤ 254) && (decide (l.getLast? = some 46) && oks true (pcs [] l.dropLast)))
theorem wsub1 (n : Nat) (h : 1 ≤ n) (h2 : n ≤ 140737488351232) : wrap64 ((n : Int) - 1) = ((n - 1 : Nat) : Int) := by
  rw [wrap_id (by omega) (by omega)]
  omega
theorem last_iff (s : ByteArray) (h1 : 1 ≤ s.size) (hs : s.size ≤ 1000000) : (bt s ((s.size - 1 : Nat) : Int) = 46) ↔ s.data.toList.getLast? = some 46 := by
  have hsz := size_data s
  have hi : s.size - 1 < s.data.toList.length := by omega
  rw [bt_get s (s.size - 1) hi, List.getLast?_eq_getElem?, ← hsz, List.getElem?_eq_getElem hi]
  constructor
  · intro h
    have : (s.data.toList[s.size - 1]).toNat = 46 := by omega
    have h2 : s.data.toList[s.size - 1] = 46 := UInt8.toNat.inj this
    rw [h2]
  · intro h
    injection h with h
    rw [h]
    rfl
theorem suffix_val (s : ByteArray) (hs : s.size ≤ 1000000) : strings_HasSuffix.f s sep1 = some (decide (s.data.toList.getLast? = some 46)) := by
  have hsz := size_data s
  unfold strings_HasSuffix.f stringslite_HasSuffix.f
  have h1 : sep1.size = 1 := rfl
  rw [h1]
  by_cases h0 : 1 ≤ s.size
  · have hw : wrap64 ((s.size : Int) - ((1 : Nat) : Int)) = ((s.size - 1 : Nat) : Int) := by rw [wrap_id (by omega) (by omega)]; omega
    rw [if_pos (by omega), hw, if_pos (by omega), if_pos (by omega), Int.toNat_natCast, Option.bind_some, toL, toL]
    have hi : s.size - 1 < s.data.toList.length := by omega
    have e : (s.extract (s.size - 1) s.size).data.toList = [s.data.toList[s.size - 1]] := by
      rw [data_ext, List.drop_eq_getElem_cons hi, List.drop_eq_nil_of_le (by omega), List.take_of_length_le (by simp; omega)]
    rw [e, List.getLast?_eq_getElem?, ← hsz, List.getElem?_eq_getElem hi]
    congr 1
    rw [Bool.eq_iff_iff, beq_iff_eq, decide_eq_true_eq]
    show [_] = [46] ↔ _
    simp
  · have : s.data.toList = [] := List.length_eq_zero_iff.1 (by omega)
    rw [if_neg (by omega), Option.bind_some, this]
    rfl
theorem pcs_small : ∀ (l cur : List UInt8) (x : List UInt8), x ∈ pcs cur l → x.length ≤ cur.length + l.length
  | [], cur, x, h => by simp [pcs] at h; subst h; simp
  | c :: r, cur, x, h => by
    rw [pcs] at h
    split at h
    · rcases List.mem_cons.1 h with h | h
      · subst h; simp
      · have := pcs_small r [] x h; simp at this ⊢; omega
    · have := pcs_small r _ x h; simp at this ⊢; omega
theorem name_ev (s : ByteArray) (hs : s.size ≤ 140737488351232) : Ev (fun k => dname_Valid.f k s) (nameB s.data.toList) := by
  have hsz := size_data s
  unfold dname_Valid.f nameB
  rw [toL]
  by_cases h46 : s.data.toList = [46]
  · simp only [if_pos h46, h46, decide_true, Bool.true_or]
    exact Ev_const rfl
  · simp only [h46, if_false, decide_false, Bool.false_or]
    by_cases hbig : (s.size : Int) ≥ 255
    · simp only [if_pos hbig]
      have : decide (2 ≤ s.data.toList.length ∧ s.data.toList.length ≤ 254) = false := decide_eq_false (by omega)
      rw [this, Bool.false_and]
      exact Ev_shift 1 (f := fun _ => some false) (fun k => by rw [dname_Valid.j0, if_pos rfl]) (Ev_const rfl)
    · simp only [if_neg hbig]
      have hsf := suffix_val s (by omega)
      simp only [show (⟨#[46]⟩ : ByteArray) = sep1 from rfl, hsf, Option.bind_some]
      cases hl : decide (s.data.toList.getLast? = some 46) with
      | false =>
        rw [Bool.false_and, Bool.and_false]
        exact Ev_shift 1 (f := fun _ => some false) (fun k => by rw [dname_Valid.j0]; rfl) (Ev_const rfl)
      | true =>
        have hl' := of_decide_eq_true hl
        have hn2 : 2 ≤ s.data.toList.length := by
          cases hd : s.data.toList with
          | nil => rw [hd] at hl'; cases hl'
          | cons c r =>
            cases r with
            | nil =>
              rw [hd] at hl'
              have hl2 : c = 46 := by simpa using hl'
              exact absurd (by rw [hd, hl2]) h46
            | cons => simp
        have : decide (2 ≤ s.data.toList.length ∧ s.data.toList.length ≤ 254) = true := decide_eq_true (by omega)
        rw [this, Bool.true_and, Bool.true_and]
        refine Ev_shift 1 (fun k => by rw [dname_Valid.j0, Bool.not_true, if_neg (by decide), wsub1 s.size (by rw [hsz]; omega) hs, if_pos (by omega), if_pos (by omega), Int.toNat_natCast]) ?_
        have he : (s.extract 0 (s.size - 1)).data.toList = s.data.toList.dropLast := by
          rw [data_ext, List.drop_zero, Nat.sub_zero, List.dropLast_eq_take, hsz]
        have hes : (s.extract 0 (s.size - 1)).size ≤ 254 := by rw [size_data, he, List.length_dropLast]; omega
        have hsp := split_ev (s.extract 0 (s.size - 1)) (by omega)
        rw [he] at hsp
        refine Ev.bind hsp ?_
        have hdl : s.data.toList.dropLast.length ≤ 254 := by rw [List.length_dropLast]; omega
        have := labels_from (pcs [] s.data.toList.dropLast) (by have := pcs_len s.data.toList.dropLast []; have := dots_le s.data.toList.dropLast; omega) (fun x hx => by have := pcs_small _ _ x hx; simp at this; omega) _ 0 rfl
        exact this
/-! ### the reference's -/
theorem rsplit_from (s : ByteArray) (hs : s.size ≤ 254) : ∀ (r : List UInt8) (i st : Nat) (l : List ByteArray), s.data.toList.drop i = r → st ≤ i → dots ((s.data.toList.drop st).take (i - st)) = 0 → l.length ≤ i → (s.data.toList.getLast? = some 46) →
    ∃ q : List ByteArray, Ev (fun k => ddiref01_split.l0 k s l (st : Int) (i : Int)) (q, if r = [] then true else oks (decide (st = 0)) (pcs ((s.data.toList.drop st).take (i - st)) r.dropLast))
  | [], i, st, l, h, hst, hd, hl, hlast => by
    have := size_end s i h
    refine ⟨l, Ev_shift 1 (f := fun _ => some (l, true)) (fun k => ?_) (Ev_const rfl)⟩
    rw [ddiref01_split.l0, if_neg (by omega)]
  | c :: r, i, st, l, h, hst, hd, hl, hlast => by
    have hsz := size_data s
    obtain ⟨hi, hb, hr⟩ := bt_at_drop s i c r h
    have hlen : r.length = s.size - (i + 1) := by rw [← hr, List.length_drop]; omega
    have hsb : s.size ≤ 140737488351232 := by omega
    have hcur : (s.data.toList.drop st).take (i + 1 - st) = (s.data.toList.drop st).take (i - st) ++ [c] := by
      have : i - st < (s.data.toList.drop st).length := by rw [List.length_drop]; omega
      rw [show i + 1 - st = (i - st) + 1 by omega, List.take_succ_eq_append_getElem this]
      congr 2
      rw [List.getElem_drop]
      have h2 := (drop_at h).2.1
      rw [← h2]
      congr 1
      omega
    by_cases hc : c = 46
    · subst hc
      have hx : (s.extract st i).data.toList = (s.data.toList.drop st).take (i - st) := data_ext s st i
      generalize hcr : (s.data.toList.drop st).take (i - st) = cur at hx hd hcur
      have hxs : (s.extract st i).size ≤ 140737488351232 := by
        rw [size_data, hx, ← hcr, List.length_take, List.length_drop]
        omega
      have hgo : (labB cur && !(decide (cur = [42]) && decide (0 < st))) = (ordB cur || (decide (st = 0) && decide (cur = [42]))) := by
        unfold labB
        by_cases h42 : cur = [42]
        · have ho : ordB cur = false := by rw [h42]; decide
          by_cases h0 : st = 0
          · simp [h42, h0]
          · have : 0 < st := by omega
            rw [ho]
            simp [h42, h0, this]
        · simp [h42]
          skip
      have hpc : (if ((46 : UInt8) :: r) = [] then true else oks (decide (st = 0)) (pcs cur ((46 : UInt8) :: r).dropLast)) = ((ordB cur || (decide (st = 0) && decide (cur = [42]))) && (if r = [] then true else oks false (pcs [] r.dropLast))) := by
        rw [if_neg (List.cons_ne_nil _ _)]
        cases r with
        | nil => rw [if_pos rfl, show ([46] : List UInt8).dropLast = [] from rfl, pcs, oks, oks]
        | cons c2 r2 => rw [if_neg (List.cons_ne_nil _ _), List.dropLast_cons_of_ne_nil (List.cons_ne_nil _ _), pcs, if_pos rfl, oks]
      rw [hpc]
      have hj : ∀ b : Bool, b = !(ordB cur || (decide (st = 0) && decide (cur = [42]))) → ∃ q : List ByteArray, Ev (fun k => ddiref01_split.j2 k s l (i : Int) (s.extract st i) b) (q, (ordB cur || (decide (st = 0) && decide (cur = [42]))) && (if r = [] then true else oks false (pcs [] r.dropLast))) := by
        intro b hbk
        cases hk : (ordB cur || (decide (st = 0) && decide (cur = [42]))) with
        | false =>
          rw [hk] at hbk
          subst hbk
          refine ⟨[], Ev_shift 1 (f := fun _ => some ([], false)) (fun k => ?_) (Ev_const rfl)⟩
          rw [ddiref01_split.j2]
          rfl
        | true =>
          rw [hk] at hbk
          subst hbk
          obtain ⟨q, ih⟩ := rsplit_from s hs r (i + 1) (i + 1) (l ++ [s.extract st i]) hr (Nat.le_refl _) (by rw [Nat.sub_self, List.take_zero]; rfl) (by simp; omega) hlast
          rw [Nat.sub_self, List.take_zero, show decide (i + 1 = 0) = false from decide_eq_false (by omega)] at ih
          refine ⟨q, Ev_shift 1 (fun k => ?_) (by rw [Bool.true_and]; exact ih)⟩
          rw [ddiref01_split.j2, Bool.not_true, if_neg (by decide), if_pos (by omega), next i s.size hi (by omega)]
      have hlab := lab_ev (s.extract st i) hxs
      rw [hx] at hlab
      have hfst : ∃ b : Bool, b = !(ordB cur || (decide (st = 0) && decide (cur = [42]))) ∧ ∀ q v, Ev (fun k => ddiref01_split.j2 k s l (i : Int) (s.extract st i) b) (q, v) → Ev (fun k => ddiref01_split.l0 k s l (st : Int) (i : Int)) (q, v) := by
        refine ⟨_, rfl, fun q v hq => ?_⟩
        refine Ev_shift 1 (fun k => by rw [ddiref01_split.l0, if_pos (by omega), if_pos (by omega), hb, if_pos (by rfl), if_pos (by omega), if_pos (by omega), if_pos (by omega), Int.toNat_natCast, Int.toNat_natCast]) ?_
        refine Ev.bind hlab ?_
        rw [toL, hx]
        rw [← hgo] at hq
        cases hl2 : labB cur with
        | false =>
          rw [hl2] at hq
          simp only [Bool.false_eq_true, if_false]
          exact hq
        | true =>
          rw [hl2] at hq
          simp only [if_true]
          by_cases h42 : cur = [42]
          · simp only [if_pos h42]
            rw [show decide ((st : Int) > 0) = decide (0 < st) from by rw [Bool.eq_iff_iff]; simp]
            simpa [h42] using hq
          · simp only [if_neg h42]
            simpa [h42] using hq
      obtain ⟨b, hb1, hb2⟩ := hfst
      obtain ⟨q, hq⟩ := hj b hb1
      exact ⟨q, hb2 q _ hq⟩
    · have hcn : ¬ (c.toNat : Int) = 46 := by
        intro e
        exact hc (UInt8.toNat.inj (by show c.toNat = 46; omega))
      have hd2 : dots ((s.data.toList.drop st).take (i + 1 - st)) = 0 := by
        rw [hcur, dots, List.count_append, List.count_singleton]
        have : (c == 46) = false := by simpa using hc
        rw [this]
        simpa [dots] using hd
      have hrn : r ≠ [] := by
        rintro rfl
        have : s.data.toList.getLast? = some c := by
          rw [← List.take_append_drop i s.data.toList, h]
          simp
        rw [this] at hlast
        injection hlast with hlast
        exact hc hlast
      obtain ⟨q, ih⟩ := rsplit_from s hs r (i + 1) st l hr (by omega) hd2 (by omega) hlast
      refine ⟨q, Ev_shift 1 (f := fun k => ddiref01_split.l0 k s l (st : Int) ((i + 1 : Nat) : Int)) (fun k => ?_) ?_⟩
      · rw [ddiref01_split.l0, if_pos (by omega), if_pos (by omega), hb, if_neg hcn, next i s.size hi (by omega)]
      · rw [if_neg (List.cons_ne_nil _ _), List.dropLast_cons_of_ne_nil hrn, pcs, if_neg hc, ← hcur]
        rw [if_neg hrn] at ih
        exact ih
theorem rname_ev (s : ByteArray) (hs : s.size ≤ 140737488351232) : Ev (fun k => ddiref01_Valid.f k s) (nameB s.data.toList) := by
  have hsz := size_data s
  unfold ddiref01_Valid.f ddiref01_split.f nameB
  rw [toL]
  have hbad : ∀ v : Bool, v = false → Ev (fun k => (ddiref01_split.j0 k s true).bind fun bt => some bt.2) v := by
    rintro v rfl
    refine Ev.bind (a := (([] : List ByteArray), false)) ?_ (Ev_const rfl)
    exact Ev_shift 1 (f := fun _ => some ([], false)) (fun k => by rw [ddiref01_split.j0, if_pos rfl]) (Ev_const rfl)
  by_cases h46 : s.data.toList = [46]
  · simp only [if_pos h46, h46, decide_true, Bool.true_or, Option.bind_some]
    exact Ev_const rfl
  · simp only [h46, if_false, decide_false, Bool.false_or]
    by_cases h2 : (s.size : Int) < 2
    · simp only [if_pos h2]
      exact hbad _ (by rw [show decide (2 ≤ s.data.toList.length ∧ s.data.toList.length ≤ 254) = false from decide_eq_false (by omega)]; rfl)
    · simp only [if_neg h2]
      by_cases h254 : (s.size : Int) > 254
      · simp only [if_pos h254]
        exact hbad _ (by rw [show decide (2 ≤ s.data.toList.length ∧ s.data.toList.length ≤ 254) = false from decide_eq_false (by omega)]; rfl)
      · simp only [if_neg h254]
        simp only [wsub1 s.size (by omega) hs, if_pos (show (0 : Int) ≤ ((s.size - 1 : Nat) : Int) by omega), if_pos (show ((s.size - 1 : Nat) : Int) < (s.size : Int) by omega)]
        rw [show decide (2 ≤ s.data.toList.length ∧ s.data.toList.length ≤ 254) = true from decide_eq_true (by omega), Bool.true_and]
        have hli := last_iff s (by omega) (by omega)
        by_cases hl : s.data.toList.getLast? = some 46
        · have hb : (bt s ((s.size - 1 : Nat) : Int) != 46) = false := by simpa using hli.2 hl
          rw [hb, hl, decide_eq_true rfl, Bool.true_and]
          obtain ⟨q, hq⟩ := rsplit_from s (by omega) s.data.toList 0 0 [] rfl (Nat.le_refl _) (by rw [Nat.sub_self, List.take_zero]; rfl) (by simp) hl
          have hne : s.data.toList ≠ [] := by
            intro e
            rw [e] at hl
            cases hl
          rw [if_neg hne, Nat.sub_self, List.take_zero] at hq
          refine Ev.bind (Ev_shift 1 (fun k => by rw [ddiref01_split.j0, if_neg (by decide)]; rfl) hq) (Ev_const rfl)
        · have hb : (bt s ((s.size - 1 : Nat) : Int) != 46) = true := by
            rw [bne_iff_ne]
            exact fun e => hl (hli.1 e)
          rw [hb]
          exact hbad _ (by rw [decide_eq_false hl]; rfl)
end Go.Proofs.YtonpcojdpfmbkaaDoor.Cm
namespace Go.Proofs.YtonpcojdpfmbkaaDoor.Cm
open Go.RowKit Go.Proofs.YtonpcojdpfmbkaaDoorW.PrintWords Go.Proofs.YtonpcojdpfmbkaaDoorW.PrintLast Go.Proofs.YtonpcojdpfmbkaaDoorW.PrintMore Go.Proofs.YtonpcojdpfmbkaaDoor.XP Go.Proofs.YtonpcojdpfmbkaaDoor.QA
set_option linter.unusedVariables false
set_option linter.unusedSimpArgs false
def ea (a x : S29) : Bool := a.f0 == x.f0 && (a.f1 == x.f1 && (a.f2 == x.f2))
theorem ea_iff (a x : S29) : ea a x = true ↔ a = x := by
  obtain ⟨a0, a1, a2⟩ := a
  obtain ⟨x0, x1, x2⟩ := x
  simp [ea]
theorem ea_ne (a x : S29) : ea a x = false ↔ a ≠ x := by
  rw [← Bool.not_eq_true, ea_iff]
def cmp (a b : S29) : Int := if (a.f0 != b.f0) = true then (if b.f0 = true then -1 else 1) else (if a.f1 = b.f1 then (if a.f2 < b.f2 then -1 else (if a.f2 > b.f2 then 1 else 0)) else (if a.f1 < b.f1 then -1 else 1))
theorem rcmp (a b : S29) : ddiref02_Compare.f a.f0 a.f1 a.f2 b.f0 b.f1 b.f2 = some (cmp a b) := by
  unfold ddiref02_Compare.f cmp
  repeat' split
  all_goals first | rfl | omega
theorem num (a b : Int) : addr_number.f a b = some (if a < b then -1 else (if a > b then 1 else 0)) := by
  unfold addr_number.f
  repeat' split
  all_goals rfl
theorem ucmp (a b : S29) : Ev (fun k => addr_Compare.f k a.f0 a.f1 a.f2 b.f0 b.f1 b.f2) (cmp a b) := by
  refine Ev_shift 1 (f := fun _ => some (cmp a b)) (fun k => ?_) (Ev_const rfl)
  unfold addr_Compare.f addr_Compare.j0 cmp
  simp only [num]
  cases h0 : a.f0 <;> cases h1 : b.f0 <;> simp
  all_goals
    by_cases h : a.f1 = b.f1
    · simp [h]
    · simp only [h, if_false]
      by_cases h2 : a.f1 < b.f1
      · simp [h2]
      · simp [h2]
        omega
theorem cmp_zero (a b : S29) : cmp a b = 0 ↔ a = b := by
  obtain ⟨a0, a1, a2⟩ := a
  obtain ⟨b0, b1, b2⟩ := b
  simp only [cmp, S29.mk.injEq]
  cases a0 <;> cases b0 <;> simp <;> repeat' split
  all_goals omega
theorem cmp_self (a : S29) : cmp a a = 0 := (cmp_zero a a).2 rfl
theorem cmp_flip (a b : S29) : cmp b a = -cmp a b := by
  obtain ⟨a0, a1, a2⟩ := a
  obtain ⟨b0, b1, b2⟩ := b
  simp only [cmp]
  cases a0 <;> cases b0 <;> simp <;> repeat' split
  all_goals omega
theorem cmp_trans {a b c : S29} : cmp a b < 0 → cmp b c < 0 → cmp a c < 0 := by
  obtain ⟨a0, a1, a2⟩ := a
  obtain ⟨b0, b1, b2⟩ := b
  obtain ⟨c0, c1, c2⟩ := c
  simp only [cmp]
  cases a0 <;> cases b0 <;> cases c0 <;> simp <;> repeat' split
  all_goals omega
end Go.Proofs.YtonpcojdpfmbkaaDoor.Cm
namespace Go.Proofs.YtonpcojdpfmbkaaDoor.Ma
open Go.RowKit Go.Proofs.YtonpcojdpfmbkaaDoorW.PrintWords Go.Proofs.YtonpcojdpfmbkaaDoorW.PrintLast Go.Proofs.YtonpcojdpfmbkaaDoorW.PrintMore Go.Proofs.YtonpcojdpfmbkaaDoor.XP Go.Proofs.YtonpcojdpfmbkaaDoor.QA Go.Proofs.YtonpcojdpfmbkaaDoor.Cm
set_option linter.unusedVariables false
set_option linter.unusedSimpArgs false
def vis (c : UInt8) : Bool := decide (33 ≤ c.toNat) && decide (c.toNat ≤ 126)
def szB (n : Nat) : Bool := decide (1 ≤ n) && decide (n ≤ 32)
theorem vis_at (c : UInt8) {β : Type} (g : Bool → β) : (if (c.toNat : Int) < 33 then g true else g (decide ((c.toNat : Int) > 126))) = g (!vis c) := by
  unfold vis
  split
  · rw [decide_eq_false (show ¬ 33 ≤ c.toNat by omega)]; rfl
  · rw [decide_eq_true (show 33 ≤ c.toNat by omega), Bool.true_and]
    congr 1
    rw [Bool.eq_iff_iff]
    simp
    omega
theorem cli_from (s : ByteArray) (hs : s.size ≤ 140737488351232) : ∀ (r : List UInt8) (i : Nat), s.data.toList.drop i = r → Ev (fun k => lease_isClient.l0 k s (i : Int)) (r.all vis && szB s.size)
  | [], i, h => by
    have := size_end s i h
    refine Ev_shift 1 (f := fun _ => some (szB s.size)) (fun k => ?_) (Ev_const rfl)
    rw [lease_isClient.l0, if_neg (by omega)]
    unfold szB
    by_cases h1 : 1 ≤ s.size
    · rw [if_pos (by omega), decide_eq_true h1, Bool.true_and]
      congr 1
      rw [Bool.eq_iff_iff]
      simp
      omega
    · rw [if_neg (by omega), decide_eq_false h1]; rfl
  | c :: r, i, h => by
    obtain ⟨hi, hb, hr⟩ := bt_at_drop s i c r h
    have ih := cli_from s hs r (i + 1) hr
    refine Ev_shift 1 (f := fun k => lease_isClient.j1 k s (i : Int) (!vis c)) (fun k => ?_) ?_
    · rw [lease_isClient.l0, if_pos (by omega), if_pos (by omega), hb]
      exact vis_at c (fun b => lease_isClient.j1 k s (i : Int) b)
    · rw [List.all_cons]
      cases vis c with
      | false => exact Ev_shift 1 (f := fun _ => some false) (fun k => by rw [lease_isClient.j1]; rfl) (Ev_const rfl)
      | true =>
        rw [Bool.true_and]
        exact Ev_shift 1 (fun k => by rw [lease_isClient.j1, next i s.size hi (by omega)]; rfl) ih
theorem rcli_from (s : ByteArray) (hs : s.size ≤ 140737488351232) : ∀ (r : List UInt8) (i : Nat), s.data.toList.drop i = r → Ev (fun k => ddiref38_Client.l0 k s (i : Int)) (r.all vis)
  | [], i, h => by
    have := size_end s i h
    exact Ev_shift 1 (f := fun _ => some true) (fun k => by rw [ddiref38_Client.l0, if_neg (by omega)]) (Ev_const rfl)
  | c :: r, i, h => by
    obtain ⟨hi, hb, hr⟩ := bt_at_drop s i c r h
    have ih := rcli_from s hs r (i + 1) hr
    refine Ev_shift 1 (f := fun k => ddiref38_Client.j2 k s (i : Int) (!vis c)) (fun k => ?_) ?_
    · rw [ddiref38_Client.l0, if_pos (by omega), if_pos (by omega), hb]
      exact vis_at c (fun b => ddiref38_Client.j2 k s (i : Int) b)
    · rw [List.all_cons]
      cases vis c with
      | false => exact Ev_shift 1 (f := fun _ => some false) (fun k => by rw [ddiref38_Client.j2]; rfl) (Ev_const rfl)
      | true =>
        rw [Bool.true_and]
        exact Ev_shift 1 (fun k => by rw [ddiref38_Client.j2, next i s.size hi (by omega)]; rfl) ih
def cliB (s : ByteArray) : Bool := s.data.toList.all vis && szB s.size
theorem cli_ev (s : ByteArray) (hs : s.size ≤ 140737488351232) : Ev (fun k => lease_isClient.f k s) (cliB s) := by
  unfold lease_isClient.f
  exact cli_from s hs s.data.toList 0 rfl
theorem rcli_ev (s : ByteArray) (hs : s.size ≤ 140737488351232) : Ev (fun k => ddiref38_Client.f k s) (cliB s) := by
  unfold ddiref38_Client.f cliB
  have hj : ∀ b : Bool, b = !szB s.size → Ev (fun k => ddiref38_Client.j0 k s b) (s.data.toList.all vis && szB s.size) := by
    intro b hb
    cases h : szB s.size with
    | false =>
      rw [h] at hb
      subst hb
      rw [Bool.and_false]
      exact Ev_shift 1 (f := fun _ => some false) (fun k => by rw [ddiref38_Client.j0]; rfl) (Ev_const rfl)
    | true =>
      rw [h] at hb
      subst hb
      rw [Bool.and_true]
      exact Ev_shift 1 (fun k => by rw [ddiref38_Client.j0]; rfl) (rcli_from s hs s.data.toList 0 rfl)
  by_cases h : (s.size : Int) < 1
  · simp only [if_pos h]
    exact hj true (by unfold szB; rw [decide_eq_false (by omega)]; rfl)
  · simp only [if_neg h]
    refine hj _ ?_
    unfold szB
    rw [decide_eq_true (show 1 ≤ s.size by omega), Bool.true_and, Bool.eq_iff_iff]
    simp
    omega
def hostB (s : ByteArray) : Bool := decide (s.data.toList = []) || nameB s.data.toList
theorem host_ev (s : ByteArray) (hs : s.size ≤ 140737488351232) : Ev (fun k => lease_isHost.f k s) (hostB s) := by
  unfold lease_isHost.f hostB
  rw [toL]
  by_cases h : s.data.toList = []
  · simp only [if_pos h, h, decide_true, Bool.true_or, if_true]
    exact Ev_const rfl
  · simp only [h, decide_false, Bool.false_or, if_false]
    exact Ev.bind (name_ev s hs) (Ev_const rfl)
def timeB (t : Int) : Bool := decide (0 ≤ t) && decide (t ≤ 4294967295)
theorem time_v (t : Int) : lease_isTime.f t = some (timeB t) := by
  unfold lease_isTime.f timeB
  by_cases h : t ≥ 0
  · rw [if_pos h, decide_eq_true h, Bool.true_and]
  · rw [if_neg h, decide_eq_false h]; rfl
theorem rtime_v (t : Int) : ddiref38_Time.f t = some (timeB t) := time_v t
theorem xid_v (t : Int) : lease_isXID.f t = some (timeB t) := by
  unfold lease_isXID.f timeB
  by_cases h : t ≥ 0
  · rw [if_pos h, decide_eq_true h, Bool.true_and]
    congr 1
    rw [Bool.eq_iff_iff]
    simp
    omega
  · rw [if_neg h, decide_eq_false h]; rfl
def adB (x : S29) : Bool := x.f0 || (decide (x.f1 = 0) && decide (x.f2 ≤ 4294967295))
theorem ad_v (x : S29) : addr_Valid.f x.f0 x.f1 x.f2 = some (adB x) := by
  unfold addr_Valid.f adB
  by_cases h : x.f0 = true
  · rw [if_pos h, h]; rfl
  · have : x.f0 = false := by simpa using h
    rw [if_neg h, this, Bool.false_or]
    by_cases h1 : x.f1 = 0
    · rw [if_pos h1, decide_eq_true h1, Bool.true_and]
    · rw [if_neg h1, decide_eq_false h1]; rfl
theorem rad_v (x : S29) : ddiref02_Valid.f x.f0 x.f1 x.f2 = some (adB x) := by
  rw [← ad_v]
  unfold ddiref02_Valid.f addr_Valid.f
  split
  · rfl
  · split
    · congr 1
      rw [Bool.eq_iff_iff]
      simp
      omega
    · rfl
/-- A lease's own form: 3 the address, 1 the arguments, 2 the name, 0 in order. -/
def argB (x : S41) : Bool := decide (1 ≤ x.f2) && (decide (x.f2 ≤ 5) && (cliB x.f1 && (timeB x.f6 && (timeB x.f3 && (timeB x.f4 && decide (x.f3 ≤ x.f4))))))
def one (x : S41) : Int := if adB x.f0 = true then (if argB x = true then (if hostB x.f5 = true then 0 else 2) else 1) else 3
def upB : Option S29 → S29 → Bool
  | none, _ => true
  | some p, a => decide (cmp p a < 0)
def chk (p : Option S29) : List S41 → Int
  | [] => 0
  | x :: r => if adB x.f0 = true then (if upB p x.f0 = true then (if one x = 0 then chk (some x.f0) r else one x) else 7) else 3
end Go.Proofs.YtonpcojdpfmbkaaDoor.Ma
namespace Go.Proofs.YtonpcojdpfmbkaaDoor.Ma
open Go.RowKit Go.Proofs.YtonpcojdpfmbkaaDoorW.PrintWords Go.Proofs.YtonpcojdpfmbkaaDoorW.PrintLast Go.Proofs.YtonpcojdpfmbkaaDoorW.PrintMore Go.Proofs.YtonpcojdpfmbkaaDoor.XP Go.Proofs.YtonpcojdpfmbkaaDoor.QA Go.Proofs.YtonpcojdpfmbkaaDoor.Cm
set_option linter.unusedVariables false
set_option linter.unusedSimpArgs false
theorem rd41 (l : List S41) (i : Nat) (x : S41) (r : List S41) (h : l.drop i = x :: r) : i < l.length ∧ rd_T41 l (i : Int) = x ∧ l.drop (i + 1) = r := by
  obtain ⟨hi, hx, hr⟩ := drop_at h
  refine ⟨hi, ?_, hr⟩
  simp [rd_T41, List.getD_eq_getElem?_getD, List.getElem?_eq_getElem hi, hx]
theorem one_true (x : S41) (h1 : adB x.f0 = true) : one x = if argB x = true then (if hostB x.f5 = true then 0 else 2) else 1 := by
  unfold one
  rw [if_pos h1]
theorem rone_ev (x : S41) (hx : okS41 x) : Ev (fun k => ddiref38_One.f k x.f0.f0 x.f0.f1 x.f0.f2 x.f1 x.f2 x.f3 x.f4 x.f5 x.f6) (one x) := by
  unfold ddiref38_One.f
  simp only [rad_v, Option.bind_some]
  cases had : adB x.f0 with
  | false => exact Ev_const (by unfold one; rw [had]; rfl)
  | true =>
    rw [one_true x had]
    have hj1 : ∀ b : Bool, Ev (fun k => ddiref38_One.j1 k b) (if b = true then 2 else 0) := by
      intro b
      refine Ev_shift 1 (f := fun _ => some (if b = true then 2 else 0)) (fun k => ?_) (Ev_const rfl)
      rw [ddiref38_One.j1]
      cases b <;> rfl
    have hj0 : ∀ b : Bool, b = !argB x → Ev (fun k => ddiref38_One.j0 k b x.f0.f0 x.f0.f1 x.f0.f2 x.f1 x.f2 x.f3 x.f4 x.f5 x.f6) (if argB x = true then (if hostB x.f5 = true then 0 else 2) else 1) := by
      rintro b rfl
      cases argB x with
      | false => exact Ev_shift 1 (f := fun _ => some 1) (fun k => by rw [ddiref38_One.j0, Bool.not_false, if_pos rfl]) (Ev_const rfl)
      | true =>
        refine Ev_shift 1 (fun k => by rw [ddiref38_One.j0, Bool.not_true, if_neg Bool.false_ne_true, toL]) ?_
        unfold hostB
        by_cases h : x.f5.data.toList = []
        · simp only [h, decide_true, Bool.true_or, if_true]
          exact hj1 false
        · simp only [h, decide_false, Bool.false_or, if_false]
          refine Ev.bind (rname_ev x.f5 hx.2.2.2.2.2.1) ?_
          have := hj1 (!nameB x.f5.data.toList)
          cases hn : nameB x.f5.data.toList <;> rw [hn] at this <;> exact this
    simp only [if_true, rtime_v, Option.bind_some]
    by_cases h1 : x.f2 < 1
    · simp only [if_pos h1]
      exact hj0 true (by unfold argB; rw [decide_eq_false (show ¬ 1 ≤ x.f2 by omega)]; rfl)
    · simp only [if_neg h1]
      have a1 : decide (1 ≤ x.f2) = true := decide_eq_true (by omega)
      by_cases h5 : x.f2 > 5
      · simp only [if_pos h5]
        exact hj0 true (by unfold argB; rw [a1, decide_eq_false (show ¬ x.f2 ≤ 5 by omega)]; rfl)
      · simp only [if_neg h5]
        have a5 : decide (x.f2 ≤ 5) = true := decide_eq_true (by omega)
        refine Ev.bind (rcli_ev x.f1 hx.2.1) ?_
        have hab : argB x = (cliB x.f1 && (timeB x.f6 && (timeB x.f3 && (timeB x.f4 && decide (x.f3 ≤ x.f4))))) := by
          unfold argB
          rw [a1, a5, Bool.true_and, Bool.true_and]
        cases hc : cliB x.f1 with
        | false =>
          simp only [Bool.false_eq_true, if_false]
          exact hj0 true (by rw [hab, hc]; rfl)
        | true =>
          cases h3 : timeB x.f3 with
          | false =>
            simp only [Bool.false_eq_true, if_false, if_true]
            exact hj0 true (by rw [hab, h3]; cases cliB x.f1 <;> cases timeB x.f6 <;> rfl)
          | true =>
            cases h4 : timeB x.f4 with
            | false =>
              simp only [Bool.false_eq_true, if_false, if_true]
              exact hj0 true (by rw [hab, h4]; cases cliB x.f1 <;> cases timeB x.f6 <;> cases timeB x.f3 <;> rfl)
            | true =>
              by_cases h : x.f3 > x.f4
              · simp only [if_true, if_pos h]
                exact hj0 true (by rw [hab, decide_eq_false (show ¬ x.f3 ≤ x.f4 by omega)]; cases cliB x.f1 <;> cases timeB x.f6 <;> cases timeB x.f3 <;> cases timeB x.f4 <;> rfl)
              · simp only [if_true, if_neg h]
                exact hj0 _ (by rw [hab, hc, h3, h4, decide_eq_true (show x.f3 ≤ x.f4 by omega)]; cases timeB x.f6 <;> rfl)
theorem rcheck_from (l : List S41) (hl : l.length ≤ 140737488351232) (ok : ∀ y ∈ l, okS41 y) : ∀ (r : List S41) (i : Nat) (p : Option S29), l.drop i = r → (i = 0 → p = none) → (∀ j : Nat, i = j + 1 → p = some (rd_T41 l (j : Int)).f0) → Ev (fun k => ddiref38_Check.l0 k l (i : Int)) (chk p r)
  | [], i, p, h, _, _ => by
    have := drop_end h
    exact Ev_shift 1 (f := fun _ => some 0) (fun k => by rw [ddiref38_Check.l0, if_neg (by omega)]) (Ev_const rfl)
  | x :: r, i, p, h, hp0, hp1 => by
    obtain ⟨hi, hx, hr⟩ := rd41 l i x r h
    have hxl : x ∈ l := List.mem_of_mem_drop (i := i) (by rw [h]; exact List.mem_cons_self ..)
    have ih := rcheck_from l hl ok r (i + 1) (some x.f0) hr (fun e => by omega) (fun j e => by
      have : j = i := by omega
      rw [this, hx])
    rw [← next i l.length hi (by omega)] at ih
    unfold chk
    cases had : adB x.f0 with
    | false => exact Ev_shift 1 (f := fun _ => some 3) (fun k => by rw [ddiref38_Check.l0, if_pos (by omega), if_pos (by omega), hx, rad_v, had]; rfl) (Ev_const rfl)
    | true =>
      rw [if_pos rfl]
      have h1 : ∀ b : Bool, b = !upB p x.f0 → Ev (fun k => ddiref38_Check.j1 k l (i : Int) b) (if upB p x.f0 = true then (if one x = 0 then chk (some x.f0) r else one x) else 7) := by
        rintro b rfl
        cases upB p x.f0 with
        | false => exact Ev_shift 1 (f := fun _ => some 7) (fun k => by rw [ddiref38_Check.j1, Bool.not_false, if_pos rfl]) (Ev_const rfl)
        | true =>
          refine Ev_shift 1 (fun k => by rw [ddiref38_Check.j1, Bool.not_true, if_neg Bool.false_ne_true, if_pos (by omega), if_pos (by omega), hx]) ?_
          refine Ev.bind (rone_ev x (ok x hxl)) ?_
          by_cases h0 : one x = 0
          · simp only [if_pos h0, if_true]
            exact ih
          · simp only [if_neg h0, if_true]
            exact Ev_const rfl
      cases i with
      | zero =>
        refine Ev_shift 1 (fun k => by rw [ddiref38_Check.l0, if_pos (by omega), if_pos (by omega), hx, rad_v, had, Option.bind_some, if_pos rfl, if_neg (by omega)]) ?_
        exact h1 false (by rw [hp0 rfl]; rfl)
      | succ j =>
        have hpj := hp1 j rfl
        have hj : (wrap64 (((j + 1 : Nat) : Int) - 1)) = (j : Int) := wsub1 (j + 1) (by omega) (by omega)
        have e0 : (0 : Int) ≤ (j : Int) := by omega
        have e1 : (j : Int) < (l.length : Int) := by omega
        have e2 : ((j + 1 : Nat) : Int) > 0 := by omega
        refine Ev_shift 1 (fun k => by rw [ddiref38_Check.l0, if_pos (by omega), if_pos (by omega), hx, rad_v, had, Option.bind_some, if_pos rfl, if_pos e2, hj, if_pos e0, if_pos e1, rcmp, Option.bind_some]) ?_
        refine h1 _ ?_
        rw [hpj]
        unfold upB
        rw [Bool.eq_iff_iff]
        simp
/-- The check of a table. -/
def chkT (l : List S41) : Int := if l.length > 512 then 9 else chk none l
theorem rcheck_ev (l : List S41) (hl : l.length ≤ 140737488351232) (ok : ∀ y ∈ l, okS41 y) : Ev (fun k => ddiref38_Check.f k l) (chkT l) := by
  unfold ddiref38_Check.f chkT
  by_cases h : l.length > 512
  · simp only [if_pos h, if_pos (show (l.length : Int) > 512 by omega)]
    exact Ev_const rfl
  · simp only [if_neg h, if_neg (show ¬ (l.length : Int) > 512 by omega)]
    exact rcheck_from l hl ok l 0 none rfl (fun _ => rfl) (fun j e => by omega)
end Go.Proofs.YtonpcojdpfmbkaaDoor.Ma
namespace Go.Proofs.YtonpcojdpfmbkaaDoor.Ma
open Go.RowKit Go.Proofs.YtonpcojdpfmbkaaDoorW.PrintWords Go.Proofs.YtonpcojdpfmbkaaDoorW.PrintLast Go.Proofs.YtonpcojdpfmbkaaDoorW.PrintMore Go.Proofs.YtonpcojdpfmbkaaDoor.XP Go.Proofs.YtonpcojdpfmbkaaDoor.QA Go.Proofs.YtonpcojdpfmbkaaDoor.Cm
set_option linter.unusedVariables false
set_option linter.unusedSimpArgs false
def Srt (l : List S41) : Prop := l.Pairwise fun x y => cmp x.f0 y.f0 < 0
theorem chk_srt : ∀ (l : List S41) (p : Option S29), chk p l = 0 → (∀ q, p = some q → ∀ x ∈ l, cmp q x.f0 < 0) ∧ Srt l
  | [], p, _ => ⟨fun _ _ x hx => absurd hx List.not_mem_nil, List.Pairwise.nil⟩
  | x :: r, p, h => by
    unfold chk at h
    split at h
    · split at h
      · split at h
        · rename_i h1 h2 h3
          obtain ⟨i1, i2⟩ := chk_srt r (some x.f0) h
          refine ⟨?_, List.pairwise_cons.2 ⟨fun y hy => i1 _ rfl y hy, i2⟩⟩
          rintro q rfl y hy
          have hq : cmp q x.f0 < 0 := of_decide_eq_true h2
          rcases List.mem_cons.1 hy with rfl | hy
          · exact hq
          · exact cmp_trans hq (i1 _ rfl y hy)
        · rename_i h3
          exact absurd h h3
      · cases h
    · cases h
theorem chkT_zero (l : List S41) (h : chkT l = 0) : l.length ≤ 512 ∧ Srt l := by
  unfold chkT at h
  split at h
  · cases h
  · exact ⟨by omega, (chk_srt l none h).2⟩
def pos (a : S29) : List S41 → Nat
  | [] => 0
  | x :: r => if cmp x.f0 a < 0 then pos a r + 1 else 0
theorem pos_le (a : S29) : ∀ l : List S41, pos a l ≤ l.length
  | [] => Nat.le_refl _
  | x :: r => by
    have := pos_le a r
    unfold pos
    split
    · simp; omega
    · simp
theorem pos_iff (a : S29) : ∀ (l : List S41) (_ : Srt l) (q : Nat) (h : q < l.length), cmp (l[q]).f0 a < 0 ↔ q < pos a l
  | [], _, q, h => by simp at h
  | x :: r, hs, q, h => by
    obtain ⟨h1, h2⟩ := List.pairwise_cons.1 hs
    unfold pos
    cases q with
    | zero =>
      simp only [List.getElem_cons_zero]
      split
      · rename_i hc; exact ⟨fun _ => by omega, fun _ => hc⟩
      · rename_i hc; exact ⟨fun h => absurd h hc, fun h => absurd h (by omega)⟩
    | succ q =>
      simp only [List.getElem_cons_succ]
      have hq : q < r.length := by simpa using h
      have ih := pos_iff a r h2 q hq
      split
      · rw [ih]; omega
      · rename_i hc
        exact ⟨fun h => absurd (cmp_trans (h1 _ (List.getElem_mem hq)) h) hc, fun h => absurd h (by omega)⟩
def get (a : S29) (l : List S41) : Option S41 := l.find? fun x => ea x.f0 a
theorem get_none_of_gt (a : S29) (x : S41) : ∀ r : List S41, (∀ y ∈ r, cmp x.f0 y.f0 < 0) → ¬ cmp x.f0 a < 0 → get a r = none := by
  intro r h hn
  unfold get
  rw [List.find?_eq_none]
  intro y hy he
  have := (ea_iff _ _).1 he
  have h1 := h y hy
  rw [this] at h1
  exact hn h1
theorem get_pos (a : S29) : ∀ (l : List S41), Srt l → get a l = match l[pos a l]? with | some x => if ea x.f0 a = true then some x else none | none => none
  | [], _ => rfl
  | x :: r, hs => by
    obtain ⟨h1, h2⟩ := List.pairwise_cons.1 hs
    have ih := get_pos a r h2
    by_cases hc : cmp x.f0 a < 0
    · have he : ea x.f0 a = false := by
        rw [ea_ne]
        intro e
        rw [e, cmp_self] at hc
        omega
      have hp : pos a (x :: r) = pos a r + 1 := by rw [pos, if_pos hc]
      rw [hp, List.getElem?_cons_succ, ← ih]
      unfold get
      rw [List.find?_cons, he]
    · have hp : pos a (x :: r) = 0 := by rw [pos, if_neg hc]
      rw [hp, List.getElem?_cons_zero]
      have hr := get_none_of_gt a x r h1 hc
      unfold get at hr ⊢
      rw [List.find?_cons]
      cases he : ea x.f0 a with
      | true => simp only [he, if_true]
      | false => simp only [hr, he, Bool.false_eq_true, if_false]
theorem mid (i j : Nat) (h : i + j ≤ 1000000000000000) : wrap64 ((IntKind.u64.wrap (wrap64 ((i : Int) + (j : Int)))) / 2) = (((i + j) / 2 : Nat) : Int) := by
  rw [wrap_id (x := (i : Int) + (j : Int)) (by omega) (by omega), IntKind.wrap_u64]
  rw [wrap_id (by omega) (by omega)]
  omega
theorem pl1 (x : S41) (a : S29) : Ev (fun k => lease_place_1.f k x.f0.f0 x.f0.f1 x.f0.f2 x.f1 x.f2 x.f3 x.f4 x.f5 x.f6 a.f0 a.f1 a.f2) (cmp x.f0 a) := by
  unfold lease_place_1.f
  exact Ev.bind (ucmp x.f0 a) (Ev_const rfl)
theorem rdAt (l : List S41) (q : Nat) (h : q < l.length) : rd_T41 l (q : Int) = l[q] := by
  simp [rd_T41, List.getD_eq_getElem?_getD, List.getElem?_eq_getElem h]
theorem wnext (q : Nat) (h : q ≤ 1000000000000000) : wrap64 ((q : Int) + 1) = ((q + 1 : Nat) : Int) := by
  rw [wrap_id (by omega) (by omega)]
  omega
theorem bs_from (l : List S41) (hl : l.length ≤ 140737488351232) (hs : Srt l) (a : S29) : ∀ (d i j : Nat), j - i ≤ d → i ≤ pos a l → pos a l ≤ j → j ≤ l.length → Ev (fun k => slices_BinarySearchFunc_69.l0 k l (l.length : Int) (i : Int) (j : Int) a.f0 a.f1 a.f2) ((pos a l : Int), (get a l).isSome)
  | d, i, j, hd, hi, hj, hjl => by
    by_cases hij : i < j
    · have hm : (i + j) / 2 < l.length := by omega
      have e0 : (i : Int) < (j : Int) := by omega
      have e1 : (0 : Int) ≤ (((i + j) / 2 : Nat) : Int) := by omega
      have e2 : (((i + j) / 2 : Nat) : Int) < (l.length : Int) := by omega
      have hmw := mid i j (by omega)
      have hpi := pos_iff a l hs ((i + j) / 2) hm
      have hwn := wnext ((i + j) / 2) (by omega)
      cases d with
      | zero => exact absurd hd (by omega)
      | succ d =>
        have ihl : ((i + j) / 2 < pos a l) → Ev (fun k => slices_BinarySearchFunc_69.l0 k l (l.length : Int) (((i + j) / 2 + 1 : Nat) : Int) (j : Int) a.f0 a.f1 a.f2) ((pos a l : Int), (get a l).isSome) := fun h => bs_from l hl hs a d _ j (by clear hmw hwn; omega) (by clear hmw hwn; omega) hj hjl
        have ihr : ¬ ((i + j) / 2 < pos a l) → Ev (fun k => slices_BinarySearchFunc_69.l0 k l (l.length : Int) (i : Int) (((i + j) / 2 : Nat) : Int) a.f0 a.f1 a.f2) ((pos a l : Int), (get a l).isSome) := fun h => bs_from l hl hs a d i _ (by clear hmw hwn; omega) hi (by clear hmw hwn; omega) (by clear hmw hwn; omega)
        refine Ev_shift 1 (fun k => by rw [slices_BinarySearchFunc_69.l0, if_pos e0, hmw, if_pos e1, if_pos e2, rdAt l _ hm]) ?_
        refine Ev.bind (pl1 (l[(i + j) / 2]) a) ?_
        by_cases hc : cmp (l[(i + j) / 2]).f0 a < 0
        · simp only [if_pos hc, hwn]
          exact ihl (hpi.1 hc)
        · simp only [if_neg hc]
          exact ihr (fun h => hc (hpi.2 h))
    · have hip : pos a l = i := by omega
      have e0 : ¬ (i : Int) < (j : Int) := by omega
      rw [get_pos a l hs, hip]
      by_cases hil : i < l.length
      · have e1 : (i : Int) < (l.length : Int) := by omega
        have e2 : (0 : Int) ≤ (i : Int) := by omega
        refine Ev_shift 1 (fun k => by rw [slices_BinarySearchFunc_69.l0, if_neg e0, if_pos e1, if_pos e2, if_pos e1, rdAt l _ hil]) ?_
        refine Ev.bind (pl1 (l[i]) a) (Ev_const ?_)
        rw [List.getElem?_eq_getElem hil]
        congr 2
        show (cmp (l[i]).f0 a == 0) = _
        simp only []
        cases he : ea (l[i]).f0 a with
        | true =>
          rw [(ea_iff _ _).1 he, cmp_self]
          rfl
        | false =>
          have := (ea_ne _ _).1 he
          have h0 : ¬ cmp (l[i]).f0 a = 0 := fun h => this ((cmp_zero _ _).1 h)
          simpa using h0
      · have e1 : ¬ (i : Int) < (l.length : Int) := by omega
        refine Ev_shift 1 (f := fun _ => some ((i : Int), false)) (fun k => by rw [slices_BinarySearchFunc_69.l0, if_neg e0, if_neg e1]) (Ev_const ?_)
        rw [List.getElem?_eq_none (by omega)]
        rfl
theorem place_ev (l : List S41) (hl : l.length ≤ 140737488351232) (hs : Srt l) (a : S29) : Ev (fun k => lease_place.f k l a.f0 a.f1 a.f2) ((pos a l : Int), (get a l).isSome) := by
  unfold lease_place.f slices_BinarySearchFunc_69.f
  exact Ev.bind (bs_from l hl hs a l.length 0 l.length (by omega) (by omega) (pos_le a l) (Nat.le_refl _)) (Ev_const rfl)
/-- A found entry as Find hands it back. -/
def tup : Option S41 → Bool × Int × Int × ByteArray × Int × Int × Int × ByteArray × Int × Bool
  | some x => (x.f0.f0, x.f0.f1, x.f0.f2, x.f1, x.f2, x.f3, x.f4, x.f5, x.f6, true)
  | none => (false, 0, 0, ⟨#[]⟩, 0, 0, 0, ⟨#[]⟩, 0, false)
theorem find_ev (l : List S41) (hl : l.length ≤ 140737488351232) (hs : Srt l) (a : S29) : Ev (fun k => lease_Find.f k l a.f0 a.f1 a.f2) (tup (get a l)) := by
  unfold lease_Find.f
  refine Ev.bind (place_ev l hl hs a) ?_
  have hg := get_pos a l hs
  by_cases hp : pos a l < l.length
  · rw [List.getElem?_eq_getElem hp] at hg
    simp only [] at hg
    split at hg
    · rw [hg]
      simp only [Option.isSome_some, if_true, if_pos (show (0 : Int) ≤ (pos a l : Int) by omega), if_pos (show (pos a l : Int) < (l.length : Int) by omega), rdAt l _ hp]
      exact Ev_const rfl
    · rw [hg]
      exact Ev_const rfl
  · rw [List.getElem?_eq_none (by omega)] at hg
    rw [hg]
    exact Ev_const rfl
theorem rfind_from (l : List S41) (hl : l.length ≤ 140737488351232) (a : S29) : ∀ (r : List S41) (i : Nat), l.drop i = r → Ev (fun k => ddiref38_Find.l0 k l (i : Int) a.f0 a.f1 a.f2) (tup (get a r))
  | [], i, h => by
    have := drop_end h
    exact Ev_shift 1 (f := fun _ => some (tup none)) (fun k => by rw [ddiref38_Find.l0, if_neg (by omega)]; rfl) (Ev_const rfl)
  | x :: r, i, h => by
    obtain ⟨hi, hx, hr⟩ := rd41 l i x r h
    have ih := rfind_from l hl a r (i + 1) hr
    unfold get
    rw [List.find?_cons]
    cases he : ea x.f0 a with
    | true =>
      refine Ev_shift 1 (f := fun _ => some (tup (some x))) (fun k => ?_) (Ev_const rfl)
      have he' := he
      unfold ea at he'
      rw [ddiref38_Find.l0, if_pos (by omega), if_pos (by omega), hx, if_pos he']
      rfl
    | false =>
      have he' := he
      unfold ea at he'
      refine Ev_shift 1 (fun k => by rw [ddiref38_Find.l0, if_pos (by omega), if_pos (by omega), hx, if_neg (by rw [he']; exact Bool.false_ne_true), next i l.length hi (by omega)]) ih
theorem rfind_ev (l : List S41) (hl : l.length ≤ 140737488351232) (a : S29) : Ev (fun k => ddiref38_Find.f k l a.f0 a.f1 a.f2) (tup (get a l)) := by
  unfold ddiref38_Find.f
  exact rfind_from l hl a l 0 rfl
def forB (x : S41) (t : Int) : Bool := decide (t < x.f4) && (decide (x.f2 = 1) || (decide (x.f2 = 2) || decide (x.f2 = 5)))
def freeB (x : S41) (c : ByteArray) (t : Int) : Bool := !forB x t || (decide (x.f2 ≠ 5) && decide (x.f1.data.toList = c.data.toList))
theorem force_v (x : S41) (t : Int) : lease_inForce.f x.f0.f0 x.f0.f1 x.f0.f2 x.f1 x.f2 x.f3 x.f4 x.f5 x.f6 t = some (forB x t) := by
  unfold lease_inForce.f forB
  by_cases h : t < x.f4
  · rw [if_pos h, decide_eq_true h, Bool.true_and]
    by_cases h1 : x.f2 = 1
    · rw [if_pos h1, decide_eq_true h1]; rfl
    · rw [if_neg h1, decide_eq_false h1, Bool.false_or]
      by_cases h2 : x.f2 = 2
      · rw [if_pos h2, decide_eq_true h2]; rfl
      · rw [if_neg h2, decide_eq_false h2, Bool.false_or]
        rfl
  · rw [if_neg h, decide_eq_false h]; rfl
theorem rforce_v (x : S41) (t : Int) : ddiref38_Force.f x.f0.f0 x.f0.f1 x.f0.f2 x.f1 x.f2 x.f3 x.f4 x.f5 x.f6 t = some (forB x t) := by
  unfold ddiref38_Force.f forB
  by_cases h1 : x.f2 = 1
  · rw [if_pos h1, decide_eq_true h1, Bool.true_or, Bool.and_true]
  · rw [if_neg h1, decide_eq_false h1, Bool.false_or]
    by_cases h2 : x.f2 = 2
    · rw [if_pos h2, decide_eq_true h2, Bool.true_or, Bool.and_true]
    · rw [if_neg h2, decide_eq_false h2, Bool.false_or]
      by_cases h3 : x.f2 = 5
      · rw [if_pos h3, decide_eq_true h3, Bool.and_true]
      · rw [if_neg h3, decide_eq_false h3, Bool.and_false]
theorem free_v (x : S41) (c : ByteArray) (t : Int) : lease_free.f x.f0.f0 x.f0.f1 x.f0.f2 x.f1 x.f2 x.f3 x.f4 x.f5 x.f6 c t = some (freeB x c t) := by
  unfold lease_free.f freeB
  rw [force_v, Option.bind_some, toL, toL]
  cases forB x t with
  | false => rfl
  | true =>
    rw [if_pos rfl]
    by_cases h : x.f2 = 5
    · rw [if_pos h, decide_eq_false (by omega)]; rfl
    · rw [if_neg h, decide_eq_true (by omega)]
      congr 1
      rw [Bool.eq_iff_iff]
      simp
def frB (o : Option S41) (c : ByteArray) (t : Int) : Bool := match o with | some x => freeB x c t | none => true
theorem free_ev (l : List S41) (hl : l.length ≤ 140737488351232) (hs : Srt l) (a : S29) (c : ByteArray) (t : Int) : Ev (fun k => lease_Free.f k l a.f0 a.f1 a.f2 c t) (frB (get a l) c t) := by
  unfold lease_Free.f
  refine Ev.bind (find_ev l hl hs a) ?_
  cases get a l with
  | none => exact Ev_const rfl
  | some x =>
    simp only [tup, if_true, free_v, Option.bind_some]
    exact Ev_const rfl
theorem rfree_ev (l : List S41) (hl : l.length ≤ 140737488351232) (a : S29) (c : ByteArray) (t : Int) : Ev (fun k => ddiref38_Free.f k l a.f0 a.f1 a.f2 c t) (frB (get a l) c t) := by
  unfold ddiref38_Free.f
  refine Ev.bind (rfind_ev l hl a) ?_
  cases get a l with
  | none => exact Ev_const rfl
  | some x =>
    simp only [tup, if_true, rforce_v, Option.bind_some, toL]
    unfold frB freeB
    cases hfo : forB x t with
    | false => exact Ev_const (by simp only [hfo]; rfl)
    | true =>
      simp only [if_true, hfo, Bool.not_true, Bool.false_or]
      by_cases h : x.f1.data.toList = c.data.toList
      · simp only [h, if_true, decide_true, Bool.and_true]
        refine Ev_const ?_
        congr 1
        rw [Bool.eq_iff_iff]
        simp
      · simp only [h, if_false, decide_false, Bool.and_false]
        exact Ev_const rfl
end Go.Proofs.YtonpcojdpfmbkaaDoor.Ma
namespace Go.Proofs.YtonpcojdpfmbkaaDoor.Ma
open Go.RowKit Go.Proofs.YtonpcojdpfmbkaaDoorW.PrintWords Go.Proofs.YtonpcojdpfmbkaaDoorW.PrintLast Go.Proofs.YtonpcojdpfmbkaaDoorW.PrintMore Go.Proofs.YtonpcojdpfmbkaaDoor.XP Go.Proofs.YtonpcojdpfmbkaaDoor.QA Go.Proofs.YtonpcojdpfmbkaaDoor.Cm
set_option linter.unusedVariables false
set_option linter.unusedSimpArgs false
/-- The first entry that is out of force, from i on; -1 where there is none. -/
def low (t : Int) : List S41 → Nat → Int
  | [], _ => -1
  | x :: r, i => if forB x t = true then low t r (i + 1) else (i : Int)
theorem low_spec (t : Int) : ∀ (l : List S41) (i : Nat), low t l i = -1 ∨ ∃ n, low t l i = ((i + n : Nat) : Int) ∧ n < l.length
  | [], _ => Or.inl rfl
  | x :: r, i => by
    unfold low
    split
    · rcases low_spec t r (i + 1) with h | ⟨n, h, hn⟩
      · exact Or.inl h
      · exact Or.inr ⟨n + 1, by rw [h]; omega, by simp; omega⟩
    · exact Or.inr ⟨0, by omega, by simp⟩
theorem low_from (l : List S41) (hl : l.length ≤ 140737488351232) (t : Int) : ∀ (r : List S41) (i : Nat), l.drop i = r → Ev (fun k => slices_IndexFunc_63.l0 k l (l.length : Int) (i : Int) t) (low t r i)
  | [], i, h => by
    have := drop_end h
    exact Ev_shift 1 (f := fun _ => some (-1)) (fun k => by rw [slices_IndexFunc_63.l0, if_neg (by omega)]) (Ev_const rfl)
  | x :: r, i, h => by
    obtain ⟨hi, hx, hr⟩ := rd41 l i x r h
    have ih := low_from l hl t r (i + 1) hr
    have hf : lease_set_1.f x.f0.f0 x.f0.f1 x.f0.f2 x.f1 x.f2 x.f3 x.f4 x.f5 x.f6 t = some (!forB x t) := by
      unfold lease_set_1.f
      rw [force_v]
      rfl
    unfold low
    cases hb : forB x t with
    | true => exact Ev_shift 1 (fun k => by rw [slices_IndexFunc_63.l0, if_pos (by omega), if_pos (by omega), if_pos (by omega), hx, hf, hb, Option.bind_some, if_neg (by decide), next i l.length hi (by omega)]) ih
    | false => exact Ev_shift 1 (f := fun _ => some (i : Int)) (fun k => by rw [slices_IndexFunc_63.l0, if_pos (by omega), if_pos (by omega), if_pos (by omega), hx, hf, hb, Option.bind_some, if_pos (by decide)]) (Ev_const rfl)
def ins (x : S41) (l : List S41) : List S41 := l.take (pos x.f0 l) ++ [x] ++ l.drop (pos x.f0 l)
def setT (l : List S41) (x : S41) (t : Int) : List S41 × Int :=
  if (get x.f0 l).isSome = true then (l.set (pos x.f0 l) x, 0)
  else if 512 ≤ l.length then (if low t l 0 < 0 then ([], 9) else (ins x (l.take (low t l 0).toNat ++ l.drop ((low t l 0).toNat + 1)), 0))
  else (ins x l, 0)
theorem srt_drop (l : List S41) (hs : Srt l) (n : Nat) : Srt (l.take n ++ l.drop (n + 1)) := by
  unfold Srt at hs ⊢
  rw [← List.eraseIdx_eq_take_drop_succ]
  exact hs.sublist (List.eraseIdx_sublist l n)
theorem setj_ev (l : List S41) (hl : l.length ≤ 512) (x : S41) : Ev (fun k => lease_set.j0 k l (pos x.f0 l : Int) x.f0.f0 x.f0.f1 x.f0.f2 x.f1 x.f2 x.f3 x.f4 x.f5 x.f6) (ins x l, 0) := by
  have := pos_le x.f0 l
  refine Ev_shift 1 (f := fun _ => some (ins x l, 0)) (fun k => ?_) (Ev_const rfl)
  rw [lease_set.j0, slices_Insert.f, if_pos (by omega), if_pos (by omega), if_pos (by show (l.length + 1) * 88 ≤ _; omega), Int.toNat_natCast]
  rfl
theorem set_ev (l : List S41) (hl : l.length ≤ 512) (hs : Srt l) (x : S41) (t : Int) : Ev (fun k => lease_set.f k l x.f0.f0 x.f0.f1 x.f0.f2 x.f1 x.f2 x.f3 x.f4 x.f5 x.f6 t) (setT l x t) := by
  have hp := pos_le x.f0 l
  unfold lease_set.f slices_Clone.f setT
  simp only [if_pos (show l.length * 88 ≤ 140737488355328 by omega), Option.bind_some]
  refine Ev.bind (place_ev l (by omega) hs x.f0) ?_
  cases hg : (get x.f0 l).isSome with
  | true =>
    have hlt : pos x.f0 l < l.length := by
      rcases Nat.lt_or_ge (pos x.f0 l) l.length with h | h
      · exact h
      · have := get_pos x.f0 l hs
        rw [List.getElem?_eq_none h] at this
        rw [this] at hg
        cases hg
    simp only [if_true, if_pos (show (0 : Int) ≤ (pos x.f0 l : Int) by omega), if_pos (show (pos x.f0 l : Int) < (l.length : Int) by omega), Int.toNat_natCast]
    exact Ev_const rfl
  | false =>
    simp only [Bool.false_eq_true, if_false]
    by_cases hfull : 512 ≤ l.length
    · simp only [if_pos hfull, if_pos (show (l.length : Int) ≥ 512 by omega)]
      refine Ev.bind (show Ev (fun k => slices_IndexFunc_63.f k l t) (low t l 0) by unfold slices_IndexFunc_63.f; exact low_from l (by omega) t l 0 rfl) ?_
      rcases low_spec t l 0 with h | ⟨n, h, hn⟩
      · simp only [h, if_pos (show (-1 : Int) < 0 by decide)]
        exact Ev_const rfl
      · rw [Nat.zero_add] at h
        have hneg : ¬ (n : Int) < 0 := by omega
        have hw := wnext n (by omega)
        have e1 : (0 : Int) ≤ (n : Int) := by omega
        have e2 : (n : Int) ≤ ((n + 1 : Nat) : Int) := by omega
        have e3 : ((n + 1 : Nat) : Int) ≤ (l.length : Int) := by omega
        simp only [h, if_neg hneg, hw, slices_Delete.f, if_pos e1, if_pos e2, if_pos e3, Int.toNat_natCast, Option.bind_some]
        have hlen : (l.take n ++ l.drop (n + 1)).length ≤ 512 := by
          rw [List.length_append, List.length_take, List.length_drop]
          clear hw
          omega
        refine Ev.bind (place_ev _ (by clear hw; omega) (srt_drop l hs n) x.f0) ?_
        exact setj_ev _ hlen x
    · simp only [if_neg hfull, if_neg (show ¬ (l.length : Int) ≥ 512 by omega)]
      exact setj_ev l hl x
def aft (a b : Int) : Int := if b ≥ wrap64 (4294967295 - a) then 4294967295 else wrap64 (a + b)
theorem aft_v (a b : Int) : lease_after.f a b = some (aft a b) := by
  unfold lease_after.f aft
  split <;> rfl
def mine (x : S41) (c : ByteArray) : Bool := decide (x.f1.data.toList = c.data.toList)
def keep (o : Option S41) (c : ByteArray) (t : Int) : Bool := match o with | some x => mine x c && (decide (x.f2 = 2) && forB x t) | none => false
def xidO (o : Option S41) (c : ByteArray) : Int := match o with | some x => if mine x c = true then x.f6 else 0 | none => 0
def offT (l : List S41) (a : S29) (c : ByteArray) (t d : Int) : List S41 × Int :=
  if adB a = true then (if (cliB c && (timeB t && decide (1 ≤ d))) = true then (if frB (get a l) c t = true then (if keep (get a l) c t = true then (l, 0) else setT l ⟨a, c, 1, t, aft t d, ⟨#[]⟩, xidO (get a l) c⟩ t) else ([], 23)) else ([], 1)) else ([], 3)
theorem off2_ev (l : List S41) (hl : l.length ≤ 512) (hs : Srt l) (a : S29) (c : ByteArray) (t d : Int) (own kp : Bool) (x : Bool × Int × Int × ByteArray × Int × Int × Int × ByteArray × Int) : Ev (fun k => lease_Offer.j2 k l c t d own kp a.f0 a.f1 a.f2 x.1 x.2.1 x.2.2.1 x.2.2.2.1 x.2.2.2.2.1 x.2.2.2.2.2.1 x.2.2.2.2.2.2.1 x.2.2.2.2.2.2.2.1 x.2.2.2.2.2.2.2.2) (if kp = true then (l, 0) else setT l ⟨a, c, 1, t, aft t d, ⟨#[]⟩, if own = true then x.2.2.2.2.2.2.2.2 else 0⟩ t) := by
  cases kp with
  | true => exact Ev_shift 1 (f := fun _ => some (l, 0)) (fun k => by rw [lease_Offer.j2, if_pos rfl, slices_Clone.f, if_pos (by omega)]; rfl) (Ev_const rfl)
  | false =>
    have h3 : ∀ y : Int, Ev (fun k => lease_Offer.j3 k l t a.f0 a.f1 a.f2 c 1 t (aft t d) ⟨#[]⟩ y) (setT l ⟨a, c, 1, t, aft t d, ⟨#[]⟩, y⟩ t) := by
      intro y
      refine Ev_shift 1 (fun k => by rw [lease_Offer.j3]) ?_
      exact Ev.bind (set_ev l hl hs ⟨a, c, 1, t, aft t d, ⟨#[]⟩, y⟩ t) (Ev_const rfl)
    refine Ev_shift 1 (fun k => by rw [lease_Offer.j2, if_neg Bool.false_ne_true, aft_v, Option.bind_some]) ?_
    cases own with
    | true => exact h3 _
    | false => exact h3 0
theorem offer_ev (l : List S41) (hl : l.length ≤ 512) (hs : Srt l) (a : S29) (c : ByteArray) (hc : c.size ≤ 140737488351232) (t d : Int) : Ev (fun k => lease_Offer.f k l a.f0 a.f1 a.f2 c t d) (offT l a c t d) := by
  unfold lease_Offer.f offT
  simp only [ad_v, Option.bind_some, time_v]
  cases adB a with
  | false => exact Ev_const rfl
  | true =>
    simp only [if_true]
    refine Ev.bind (cli_ev c hc) ?_
    have hj0 : ∀ b : Bool, b = !(cliB c && (timeB t && decide (1 ≤ d))) → Ev (fun k => lease_Offer.j0 k l c t d b a.f0 a.f1 a.f2) (if (cliB c && (timeB t && decide (1 ≤ d))) = true then (if frB (get a l) c t = true then (if keep (get a l) c t = true then (l, 0) else setT l ⟨a, c, 1, t, aft t d, ⟨#[]⟩, xidO (get a l) c⟩ t) else ([], 23)) else ([], 1)) := by
      rintro b rfl
      cases (cliB c && (timeB t && decide (1 ≤ d))) with
      | false => exact Ev_shift 1 (f := fun _ => some ([], 1)) (fun k => by rw [lease_Offer.j0, Bool.not_false, if_pos rfl]) (Ev_const rfl)
      | true =>
        rw [if_pos rfl]
        refine Ev_shift 1 (fun k => by rw [lease_Offer.j0, Bool.not_true, if_neg Bool.false_ne_true]) ?_
        refine Ev.bind (free_ev l (by omega) hs a c t) ?_
        cases frB (get a l) c t with
        | false => exact Ev_const rfl
        | true =>
          simp only [if_true]
          refine Ev.bind (find_ev l (by omega) hs a) ?_
          cases get a l with
          | none =>
            simp only [tup, Bool.false_eq_true, if_false]
            refine Ev_shift 1 (fun k => by rw [lease_Offer.j1, if_neg Bool.false_ne_true]) ?_
            exact off2_ev l hl hs a c t d false false (false, 0, 0, ⟨#[]⟩, 0, 0, 0, ⟨#[]⟩, 0)
          | some x =>
            simp only [tup, if_true, toL]
            have hm : (x.f1.data.toList == c.data.toList) = mine x c := by
              unfold mine
              rw [Bool.eq_iff_iff]
              simp
            rw [hm]
            have h2 := fun o kp => off2_ev l hl hs a c t d o kp (x.f0.f0, x.f0.f1, x.f0.f2, x.f1, x.f2, x.f3, x.f4, x.f5, x.f6)
            have hk : keep (some x) c t = (mine x c && (decide (x.f2 = 2) && forB x t)) := rfl
            have hxi : xidO (some x) c = if mine x c = true then x.f6 else 0 := rfl
            rw [hk, hxi]
            cases mine x c with
            | false =>
              refine Ev_shift 1 (fun k => by rw [lease_Offer.j1, if_neg Bool.false_ne_true]) ?_
              exact h2 false false
            | true =>
              refine Ev_shift 1 (fun k => by rw [lease_Offer.j1, if_pos rfl, force_v, Option.bind_some]) ?_
              by_cases h : x.f2 = 2
              · simp only [if_pos h, decide_eq_true h, Bool.true_and]
                exact h2 true _
              · simp only [if_neg h, decide_eq_false h, Bool.and_false, Bool.false_and]
                exact h2 true false
    cases hcl : cliB c with
    | false =>
      simp only [Bool.false_eq_true, if_false]
      have := hj0 true (by rw [hcl]; rfl)
      rw [hcl] at this
      exact this
    | true =>
      simp only [if_true]
      cases ht : timeB t with
      | false =>
        simp only [Bool.false_eq_true, if_false]
        have := hj0 true (by rw [hcl, ht]; rfl)
        rw [hcl, ht] at this
        exact this
      | true =>
        simp only [if_true]
        have := hj0 (decide (d < 1)) (by rw [hcl, ht, Bool.true_and, Bool.true_and, Bool.eq_iff_iff]; simp)
        rw [hcl, ht] at this
        exact this
end Go.Proofs.YtonpcojdpfmbkaaDoor.Ma
namespace Go.Proofs.YtonpcojdpfmbkaaDoor.Ma
open Go.RowKit Go.Proofs.YtonpcojdpfmbkaaDoorW.PrintWords Go.Proofs.YtonpcojdpfmbkaaDoorW.PrintLast Go.Proofs.YtonpcojdpfmbkaaDoorW.PrintMore Go.Proofs.YtonpcojdpfmbkaaDoor.XP Go.Proofs.YtonpcojdpfmbkaaDoor.QA Go.Proofs.YtonpcojdpfmbkaaDoor.Cm
set_option linter.unusedVariables false
set_option linter.unusedSimpArgs false
theorem awake_ev : Ev (fun k => ddilaw38_awake.f k) true := ⟨60, fun k hk => at_rounds ddilaw38_awake.mono hk (by decide +kernel)⟩
end Go.Proofs.YtonpcojdpfmbkaaDoor.Ma
namespace Go.Proofs.YtonpcojdpfmbkaaDoor.Ma
open Go.RowKit Go.Proofs.YtonpcojdpfmbkaaDoorW.PrintWords Go.Proofs.YtonpcojdpfmbkaaDoorW.PrintLast Go.Proofs.YtonpcojdpfmbkaaDoorW.PrintMore Go.Proofs.YtonpcojdpfmbkaaDoor.XP Go.Proofs.YtonpcojdpfmbkaaDoor.QA Go.Proofs.YtonpcojdpfmbkaaDoor.Cm
set_option linter.unusedVariables false
set_option linter.unusedSimpArgs false
end Go.Proofs.YtonpcojdpfmbkaaDoor.Ma
namespace Go.Proofs.YtonpcojdpfmbkaaDoor.Ma
open Go.RowKit Go.Proofs.YtonpcojdpfmbkaaDoorW.PrintWords Go.Proofs.YtonpcojdpfmbkaaDoorW.PrintLast Go.Proofs.YtonpcojdpfmbkaaDoorW.PrintMore Go.Proofs.YtonpcojdpfmbkaaDoor.XP Go.Proofs.YtonpcojdpfmbkaaDoor.QA Go.Proofs.YtonpcojdpfmbkaaDoor.Cm
set_option linter.unusedVariables false
set_option linter.unusedSimpArgs false
def z41 : S41 := ⟨⟨false, 0, 0⟩, ⟨#[]⟩, 0, 0, 0, ⟨#[]⟩, 0⟩
theorem same_from (l : List S41) (hl : l.length ≤ 1000000) : ∀ (d i : Nat), l.length - i ≤ d → i ≤ l.length → Ev (fun k => ddiref38_Same.l0 k l l (i : Int)) true
  | d, i, hd, hi => by
    by_cases h : i < l.length
    · cases d with
      | zero => exact absurd hd (by omega)
      | succ d =>
        have ih := same_from l hl d (i + 1) (by omega) (by omega)
        refine Ev_shift 1 (fun k => ?_) ih
        rw [ddiref38_Same.l0, if_pos (by omega), if_pos (by omega), if_pos (by omega), next i l.length h (by omega)]
        simp only [beq_self_eq_true, Bool.not_true, Bool.or_false, Bool.false_eq_true, if_false]
    · exact Ev_shift 1 (f := fun _ => some true) (fun k => by rw [ddiref38_Same.l0, if_neg (by omega)]) (Ev_const rfl)
theorem same_ev (l : List S41) (hl : l.length ≤ 1000000) : Ev (fun k => ddiref38_Same.f k l l) true := by
  unfold ddiref38_Same.f
  simp only [if_true]
  exact same_from l hl l.length 0 (by omega) (by omega)
end Go.Proofs.YtonpcojdpfmbkaaDoor.Ma
namespace Go.Proofs.YtonpcojdpfmbkaaDoor.Ma
open Go.RowKit Go.Proofs.YtonpcojdpfmbkaaDoorW.PrintWords Go.Proofs.YtonpcojdpfmbkaaDoorW.PrintLast Go.Proofs.YtonpcojdpfmbkaaDoorW.PrintMore Go.Proofs.YtonpcojdpfmbkaaDoor.XP Go.Proofs.YtonpcojdpfmbkaaDoor.QA Go.Proofs.YtonpcojdpfmbkaaDoor.Cm
set_option linter.unusedVariables false
set_option linter.unusedSimpArgs false
/-- The reference's Set, by its loop. -/
def loopS (x : S41) (d : Int) : List S41 → Nat → Bool → List S41
  | [], _, pl => if pl = true then [] else [x]
  | y :: r, i, pl => (if pl = false ∧ cmp y.f0 x.f0 ≥ 0 then [x] else []) ++ ((if cmp y.f0 x.f0 = 0 then [] else (if (i : Int) = d then [] else [y])) ++ loopS x d r (i + 1) (pl || decide (cmp y.f0 x.f0 ≥ 0)))
theorem rset_from (l : List S41) (hl : l.length ≤ 512) (x : S41) (d : Int) : ∀ (r : List S41) (i : Nat) (q : List S41) (pl : Bool), l.drop i = r → q.length ≤ 2 * i → i ≤ 512 → Ev (fun k => ddiref38_Set.l0 k l d q pl (i : Int) x.f0.f0 x.f0.f1 x.f0.f2 x.f1 x.f2 x.f3 x.f4 x.f5 x.f6) (q ++ loopS x d r i pl, 0)
  | [], i, q, pl, h, hq, hi5 => by
    have hi := drop_end h
    unfold loopS
    cases pl with
    | true => exact Ev_shift 1 (f := fun _ => some (q, 0)) (fun k => by rw [ddiref38_Set.l0, if_neg (by omega), if_pos rfl]) (Ev_const (by simp))
    | false =>
      have hb : q.length < 1599289640401 := by omega
      exact Ev_shift 1 (f := fun _ => some (q ++ [x], 0)) (fun k => by rw [ddiref38_Set.l0, if_neg (by omega), if_neg Bool.false_ne_true, if_pos hb]) (Ev_const (by simp))
  | y :: r, i, q, pl, h, hq, _ => by
    obtain ⟨hi, hy, hr⟩ := rd41 l i y r h
    have ih := fun q pl h => rset_from l hl x d r (i + 1) q pl hr h (by omega)
    have h5 : ∀ (q2 : List S41) (pl2 b : Bool), q2.length ≤ 2 * i + 1 → Ev (fun k => ddiref38_Set.j5 k l d q2 pl2 (i : Int) b x.f0.f0 x.f0.f1 x.f0.f2 x.f1 x.f2 x.f3 x.f4 x.f5 x.f6) ((q2 ++ (if b = true then [y] else [])) ++ loopS x d r (i + 1) pl2, 0) := by
      intro q2 pl2 b hq2
      cases b with
      | true =>
        have := ih (q2 ++ [y]) pl2 (by simp; omega)
        exact Ev_shift 1 (fun k => by rw [ddiref38_Set.j5, if_pos rfl, if_pos (by omega), if_pos (by omega), if_pos (by omega), hy, next i l.length hi (by omega)]) this
      | false =>
        have := ih q2 pl2 (by omega)
        exact Ev_shift 1 (fun k => by rw [ddiref38_Set.j5, if_neg Bool.false_ne_true, next i l.length hi (by omega)]) (by rw [if_neg Bool.false_ne_true, List.append_nil]; exact this)
    have h4 : ∀ (q2 : List S41) (pl2 : Bool), q2.length ≤ 2 * i + 1 → Ev (fun k => ddiref38_Set.j4 k l d q2 pl2 (i : Int) (cmp y.f0 x.f0) x.f0.f0 x.f0.f1 x.f0.f2 x.f1 x.f2 x.f3 x.f4 x.f5 x.f6) ((q2 ++ (if cmp y.f0 x.f0 = 0 then [] else (if (i : Int) = d then [] else [y]))) ++ loopS x d r (i + 1) pl2, 0) := by
      intro q2 pl2 hq2
      by_cases h0 : cmp y.f0 x.f0 = 0
      · rw [if_pos h0]
        exact Ev_shift 1 (fun k => by rw [ddiref38_Set.j4, if_pos h0]) (h5 q2 pl2 false hq2)
      · rw [if_neg h0]
        refine Ev_shift 1 (fun k => by rw [ddiref38_Set.j4, if_neg h0]) ?_
        have := h5 q2 pl2 ((i : Int) != d) hq2
        by_cases hd : (i : Int) = d
        · rw [if_pos hd]
          have hbb : ((i : Int) != d) = false := by simpa using hd
          rw [hbb] at this ⊢
          exact this
        · rw [if_neg hd]
          have hbb : ((i : Int) != d) = true := by simpa using hd
          rw [hbb] at this ⊢
          exact this
    have hgo : ∀ b : Bool, b = (!pl && decide (cmp y.f0 x.f0 ≥ 0)) → Ev (fun k => ddiref38_Set.j3 k l d q pl (i : Int) (cmp y.f0 x.f0) b x.f0.f0 x.f0.f1 x.f0.f2 x.f1 x.f2 x.f3 x.f4 x.f5 x.f6) (q ++ loopS x d (y :: r) i pl, 0) := by
      rintro b rfl
      have hq1 : q.length < 1599289640401 := by omega
      unfold loopS
      cases pl with
      | true =>
        rw [if_neg (by simp), List.nil_append, ← List.append_assoc]
        exact Ev_shift 1 (fun k => by rw [ddiref38_Set.j3, Bool.not_true, Bool.false_and, if_neg Bool.false_ne_true]) (h4 q true (by omega))
      | false =>
        by_cases hc : cmp y.f0 x.f0 ≥ 0
        · rw [if_pos ⟨rfl, hc⟩, decide_eq_true hc]
          have := h4 (q ++ [x]) true (by simp; omega)
          rw [List.append_assoc, List.append_assoc] at this
          exact Ev_shift 1 (fun k => by rw [ddiref38_Set.j3, Bool.not_false, Bool.true_and, if_pos rfl, if_pos hq1]) this
        · rw [if_neg (fun h => hc h.2), decide_eq_false hc, List.nil_append, ← List.append_assoc]
          exact Ev_shift 1 (fun k => by rw [ddiref38_Set.j3, Bool.not_false, Bool.true_and, if_neg Bool.false_ne_true]) (h4 q false (by omega))
    by_cases hc : cmp y.f0 x.f0 ≥ 0
    · exact Ev_shift 1 (fun k => by rw [ddiref38_Set.l0, if_pos (by omega), if_pos (by omega), hy, rcmp, Option.bind_some, if_pos hc]) (hgo (!pl) (by rw [decide_eq_true hc, Bool.and_true]))
    · exact Ev_shift 1 (fun k => by rw [ddiref38_Set.l0, if_pos (by omega), if_pos (by omega), hy, rcmp, Option.bind_some, if_neg hc]) (hgo false (by rw [decide_eq_false hc, Bool.and_false]))
theorem loop_keep (x : S41) : ∀ (r : List S41) (i : Nat), (∀ y ∈ r, cmp x.f0 y.f0 < 0) → loopS x (-1) r i true = r
  | [], _, _ => rfl
  | y :: r, i, h => by
    have h1 := h y (List.mem_cons_self ..)
    have h2 := cmp_flip x.f0 y.f0
    unfold loopS
    rw [if_neg (by simp), if_neg (by omega), if_neg (by omega), Bool.true_or, loop_keep x r (i + 1) (fun z hz => h z (List.mem_cons_of_mem _ hz))]
    rfl
theorem loop_set (x : S41) : ∀ (l : List S41) (i : Nat), Srt l → (get x.f0 l).isSome = true → loopS x (-1) l i false = l.set (pos x.f0 l) x
  | [], _, _, h => by cases h
  | y :: r, i, hs, hg => by
    obtain ⟨h1, h2⟩ := List.pairwise_cons.1 hs
    unfold loopS pos
    by_cases hc : cmp y.f0 x.f0 < 0
    · have he : ea y.f0 x.f0 = false := by
        rw [ea_ne]
        intro e
        rw [e, cmp_self] at hc
        omega
      have hg2 : (get x.f0 r).isSome = true := by
        unfold get at hg ⊢
        rw [List.find?_cons, he] at hg
        exact hg
      rw [if_pos hc, if_neg (by omega), if_neg (by omega), if_neg (by omega), decide_eq_false (by omega), Bool.or_false, loop_set x r (i + 1) h2 hg2]
      rfl
    · rw [if_neg hc, if_pos ⟨rfl, by omega⟩, decide_eq_true (show cmp y.f0 x.f0 ≥ 0 by omega), Bool.or_true]
      have he : y.f0 = x.f0 := by
        cases he : ea y.f0 x.f0 with
        | true => exact (ea_iff _ _).1 he
        | false =>
          have hn := get_none_of_gt x.f0 y r h1 hc
          unfold get at hg hn
          rw [List.find?_cons, he] at hg
          simp only [hn] at hg
          cases hg
      rw [if_pos (by rw [he, cmp_self]), loop_keep x r (i + 1) (fun z hz => by rw [← he]; exact h1 z hz)]
      rfl
theorem rset_ev (l : List S41) (hl : l.length ≤ 512) (hs : Srt l) (x : S41) (t : Int) (hg : (get x.f0 l).isSome = true) : Ev (fun k => ddiref38_Set.f k l x.f0.f0 x.f0.f1 x.f0.f2 x.f1 x.f2 x.f3 x.f4 x.f5 x.f6 t) (l.set (pos x.f0 l) x, 0) := by
  unfold ddiref38_Set.f
  refine Ev.bind (rfind_ev l (by omega) x.f0) ?_
  cases ho : get x.f0 l with
  | none => rw [ho] at hg; cases hg
  | some y =>
    simp only [tup, if_true]
    refine Ev_shift 1 (fun k => by rw [ddiref38_Set.j0, if_neg Bool.false_ne_true]) ?_
    refine Ev_shift 1 (fun k => by rw [ddiref38_Set.j1]) ?_
    have := rset_from l hl x (-1) l 0 [] false rfl (Nat.le_refl _) (by omega)
    rw [List.nil_append, loop_set x l 0 hs hg] at this
    exact this
end Go.Proofs.YtonpcojdpfmbkaaDoor.Ma
namespace Go.Proofs.YtonpcojdpfmbkaaDoor.Ma
open Go.RowKit Go.Proofs.YtonpcojdpfmbkaaDoorW.PrintWords Go.Proofs.YtonpcojdpfmbkaaDoorW.PrintLast Go.Proofs.YtonpcojdpfmbkaaDoorW.PrintMore Go.Proofs.YtonpcojdpfmbkaaDoor.XP Go.Proofs.YtonpcojdpfmbkaaDoor.QA Go.Proofs.YtonpcojdpfmbkaaDoor.Cm
set_option linter.unusedVariables false
set_option linter.unusedSimpArgs false
theorem later_v (t d : Int) (ht : timeB t = true) (hd : 1 ≤ d) (hd2 : d ≤ 9223372036854775807) : ddiref38_Later.f t d = some (aft t d) := by
  unfold ddiref38_Later.f aft
  unfold timeB at ht
  have h1 : 0 ≤ t ∧ t ≤ 4294967295 := by simpa using ht
  rw [wrap_id (x := 4294967295 - t) (by omega) (by omega)]
  by_cases h : d > 4294967295 - t
  · rw [if_pos h, if_pos (by omega)]
  · rw [if_neg h]
    by_cases h2 : d ≥ 4294967295 - t
    · rw [if_pos h2, wrap_id (by omega) (by omega), show t + d = 4294967295 by omega]
    · rw [if_neg h2]
def good4 (c : ByteArray) (z t d : Int) : Bool := cliB c && (timeB z && (timeB t && decide (1 ≤ d)))
end Go.Proofs.YtonpcojdpfmbkaaDoor.Ma
namespace Go.Proofs.YtonpcojdpfmbkaaDoor.Ma
open Go.RowKit Go.Proofs.YtonpcojdpfmbkaaDoorW.PrintWords Go.Proofs.YtonpcojdpfmbkaaDoorW.PrintLast Go.Proofs.YtonpcojdpfmbkaaDoorW.PrintMore Go.Proofs.YtonpcojdpfmbkaaDoor.XP Go.Proofs.YtonpcojdpfmbkaaDoor.QA Go.Proofs.YtonpcojdpfmbkaaDoor.Cm
set_option linter.unusedVariables false
set_option linter.unusedSimpArgs false
theorem rlow_from (l : List S41) (hl : l.length ≤ 140737488351232) (t : Int) : ∀ (r : List S41) (i : Nat), l.drop i = r → Ev (fun k => ddiref38_lowest.l0 k l t (i : Int)) (low t r i)
  | [], i, h => by
    have := drop_end h
    exact Ev_shift 1 (f := fun _ => some (-1)) (fun k => by rw [ddiref38_lowest.l0, if_neg (by omega)]) (Ev_const rfl)
  | x :: r, i, h => by
    obtain ⟨hi, hx, hr⟩ := rd41 l i x r h
    have ih := rlow_from l hl t r (i + 1) hr
    unfold low
    cases hb : forB x t with
    | true => exact Ev_shift 1 (fun k => by rw [ddiref38_lowest.l0, if_pos (by omega), if_pos (by omega), hx, rforce_v, hb, Option.bind_some, if_pos rfl, next i l.length hi (by omega)]) ih
    | false => exact Ev_shift 1 (f := fun _ => some (i : Int)) (fun k => by rw [ddiref38_lowest.l0, if_pos (by omega), if_pos (by omega), hx, rforce_v, hb, Option.bind_some, if_neg Bool.false_ne_true]) (Ev_const rfl)
/-- A list without the element at place d. -/
def cutD (d : Int) : List S41 → Nat → List S41
  | [], _ => []
  | y :: r, i => (if (i : Int) = d then [] else [y]) ++ cutD d r (i + 1)
theorem cutD_mem (d : Int) : ∀ (r : List S41) (i : Nat) (x : S41), x ∈ cutD d r i → x ∈ r
  | [], _, _, h => by cases h
  | y :: r, i, x, h => by
    unfold cutD at h
    rcases List.mem_append.1 h with h | h
    · split at h
      · cases h
      · rw [List.mem_singleton.1 h]; exact List.mem_cons_self ..
    · exact List.mem_cons_of_mem _ (cutD_mem d r (i + 1) x h)
theorem cutD_neg : ∀ (r : List S41) (i : Nat), cutD (-1) r i = r
  | [], _ => rfl
  | y :: r, i => by
    unfold cutD
    rw [if_neg (by omega), cutD_neg r (i + 1)]
    rfl
theorem cutD_past : ∀ (r : List S41) (i n : Nat), n < i → cutD (n : Int) r i = r
  | [], _, _, _ => rfl
  | y :: r, i, n, h => by
    unfold cutD
    rw [if_neg (by omega), cutD_past r (i + 1) n (by omega)]
    rfl
theorem cutD_at : ∀ (r : List S41) (i n : Nat), cutD ((i + n : Nat) : Int) r i = r.take n ++ r.drop (n + 1)
  | [], _, _ => by simp [cutD]
  | y :: r, i, 0 => by
    unfold cutD
    rw [if_pos (by omega), cutD_past r (i + 1) (i + 0) (by omega)]
    rfl
  | y :: r, i, n + 1 => by
    unfold cutD
    have := cutD_at r (i + 1) n
    rw [show i + 1 + n = i + (n + 1) by omega] at this
    rw [if_neg (by omega), this]
    rfl
/-- An entry put at its place. -/
def insR (x : S41) : List S41 → List S41
  | [] => [x]
  | y :: r => if cmp y.f0 x.f0 < 0 then y :: insR x r else x :: y :: r
theorem ins_insR (x : S41) : ∀ l : List S41, ins x l = insR x l
  | [] => rfl
  | y :: r => by
    have ih := ins_insR x r
    unfold ins at ih
    unfold ins insR pos
    split
    · rw [← ih]
      simp
    · rfl
theorem insR_gt (x : S41) : ∀ L : List S41, (∀ y ∈ L, ¬ cmp y.f0 x.f0 < 0) → insR x L = x :: L
  | [], _ => rfl
  | y :: r, h => by
    unfold insR
    rw [if_neg (h y (List.mem_cons_self ..))]
theorem loop_aft (x : S41) (d : Int) : ∀ (r : List S41) (i : Nat), (∀ y ∈ r, cmp y.f0 x.f0 ≠ 0) → loopS x d r i true = cutD d r i
  | [], _, _ => rfl
  | y :: r, i, h => by
    unfold loopS cutD
    rw [if_neg (by simp), if_neg (h y (List.mem_cons_self ..)), Bool.true_or, loop_aft x d r (i + 1) (fun z hz => h z (List.mem_cons_of_mem _ hz)), List.nil_append]
theorem loop_ins (x : S41) (d : Int) : ∀ (l : List S41) (i : Nat), Srt l → (∀ y ∈ l, cmp y.f0 x.f0 ≠ 0) → loopS x d l i false = insR x (cutD d l i)
  | [], _, _, _ => rfl
  | y :: r, i, hs, h => by
    obtain ⟨h1, h2⟩ := List.pairwise_cons.1 hs
    have h0 := h y (List.mem_cons_self ..)
    have hr := fun z hz => h z (List.mem_cons_of_mem y hz)
    unfold loopS cutD
    by_cases hc : cmp y.f0 x.f0 < 0
    · rw [if_neg (by omega), if_neg h0, decide_eq_false (by omega), Bool.or_false, loop_ins x d r (i + 1) h2 hr, List.nil_append]
      split
      · rfl
      · show y :: insR x _ = insR x (y :: _)
        rw [insR, if_pos hc]
        rfl
    · have hgt : ∀ z ∈ cutD d (y :: r) i, ¬ cmp z.f0 x.f0 < 0 := by
        intro z hz
        rcases List.mem_cons.1 (cutD_mem d _ i z hz) with rfl | hz
        · exact hc
        · have a1 := h1 z hz
          have a2 := cmp_flip x.f0 y.f0
          have a3 : cmp x.f0 y.f0 < 0 := by omega
          have a4 := cmp_trans a3 a1
          have a5 := cmp_flip x.f0 z.f0
          omega
      have e := insR_gt x _ hgt
      unfold cutD at e
      rw [e, if_pos ⟨rfl, by omega⟩, if_neg h0, decide_eq_true (show cmp y.f0 x.f0 ≥ 0 by omega), Bool.or_true, loop_aft x d r (i + 1) hr]
      rfl
theorem get_none_ne (l : List S41) (a : S29) (h : (get a l).isSome = false) : ∀ y ∈ l, cmp y.f0 a ≠ 0 := by
  intro y hy he
  have h1 : get a l = none := by simpa using h
  unfold get at h1
  rw [List.find?_eq_none] at h1
  exact h1 y hy ((ea_iff _ _).2 ((cmp_zero _ _).1 he))
theorem rset_all (l : List S41) (hl : l.length ≤ 512) (hs : Srt l) (x : S41) (t : Int) : Ev (fun k => ddiref38_Set.f k l x.f0.f0 x.f0.f1 x.f0.f2 x.f1 x.f2 x.f3 x.f4 x.f5 x.f6 t) (setT l x t) := by
  cases hg : (get x.f0 l).isSome with
  | true =>
    unfold setT
    rw [if_pos hg]
    exact rset_ev l hl hs x t hg
  | false =>
    have hne := get_none_ne l x.f0 hg
    have hj1 : ∀ d : Int, Ev (fun k => ddiref38_Set.j1 k l d x.f0.f0 x.f0.f1 x.f0.f2 x.f1 x.f2 x.f3 x.f4 x.f5 x.f6) (ins x (cutD d l 0), 0) := by
      intro d
      refine Ev_shift 1 (fun k => by rw [ddiref38_Set.j1]) ?_
      have := rset_from l hl x d l 0 [] false rfl (Nat.le_refl _) (by omega)
      rw [List.nil_append, loop_ins x d l 0 hs hne, ← ins_insR] at this
      exact this
    have hn : get x.f0 l = none := by simpa using hg
    unfold ddiref38_Set.f setT
    rw [hg]
    refine Ev.bind (rfind_ev l (by omega) x.f0) ?_
    rw [hn]
    simp only [tup, Bool.false_eq_true, if_false]
    by_cases hf : 512 ≤ l.length
    · rw [if_pos hf, decide_eq_true (show (l.length : Int) ≥ 512 by omega)]
      refine Ev_shift 1 (fun k => by rw [ddiref38_Set.j0, if_pos rfl]) ?_
      refine Ev.bind (show Ev (fun k => ddiref38_lowest.f k l t) (low t l 0) by unfold ddiref38_lowest.f; exact rlow_from l (by omega) t l 0 rfl) ?_
      rcases low_spec t l 0 with h | ⟨n, h, hn2⟩
      · rw [h]
        exact Ev_const rfl
      · rw [h]
        simp only [if_neg (show ¬ (((0 + n : Nat) : Int) < 0) by omega)]
        have := hj1 ((0 + n : Nat) : Int)
        rw [cutD_at l 0 n] at this
        rw [Int.toNat_natCast, Nat.zero_add]
        rw [Nat.zero_add] at this
        exact this
    · rw [if_neg hf, decide_eq_false (show ¬ (l.length : Int) ≥ 512 by omega)]
      refine Ev_shift 1 (fun k => by rw [ddiref38_Set.j0, if_neg Bool.false_ne_true]) ?_
      have := hj1 (-1)
      rw [cutD_neg] at this
      exact this
theorem mn_comm (a b : Int) : mn a b = mn b a := by
  unfold mn
  repeat' split
  all_goals omega
theorem roffer_ev (l : List S41) (hl : l.length ≤ 512) (hs : Srt l) (a : S29) (c : ByteArray) (hc : c.size ≤ 140737488351232) (t d : Int) (hd2 : d ≤ 9223372036854775807) : Ev (fun k => ddiref38_Offer.f k l a.f0 a.f1 a.f2 c t d) (offT l a c t d) := by
  unfold ddiref38_Offer.f offT
  simp only [rad_v, Option.bind_some, rtime_v]
  cases adB a with
  | false => exact Ev_const rfl
  | true =>
    simp only [if_true]
    refine Ev.bind (rcli_ev c hc) ?_
    have hj0 : ∀ b : Bool, b = !(cliB c && (timeB t && decide (1 ≤ d))) → Ev (fun k => ddiref38_Offer.j0 k l c t d b a.f0 a.f1 a.f2) (if (cliB c && (timeB t && decide (1 ≤ d))) = true then (if frB (get a l) c t = true then (if keep (get a l) c t = true then (l, 0) else setT l ⟨a, c, 1, t, aft t d, ⟨#[]⟩, xidO (get a l) c⟩ t) else ([], 23)) else ([], 1)) := by
      rintro b rfl
      cases hgd : (cliB c && (timeB t && decide (1 ≤ d))) with
      | false => exact Ev_shift 1 (f := fun _ => some ([], 1)) (fun k => by rw [ddiref38_Offer.j0, Bool.not_false, if_pos rfl]) (Ev_const rfl)
      | true =>
        have ht : timeB t = true := by revert hgd; cases cliB c <;> cases timeB t <;> simp
        have hd : 1 ≤ d := by
          revert hgd
          cases cliB c <;> cases timeB t <;> simp
        have hlat := later_v t d ht hd hd2
        rw [if_pos rfl]
        refine Ev_shift 1 (fun k => by rw [ddiref38_Offer.j0, Bool.not_true, if_neg Bool.false_ne_true]) ?_
        refine Ev.bind (rfree_ev l (by omega) a c t) ?_
        cases frB (get a l) c t with
        | false => exact Ev_const rfl
        | true =>
          simp only [if_true]
          refine Ev.bind (rfind_ev l (by omega) a) ?_
          have off2 : ∀ (own kp : Bool) (x : Bool × Int × Int × ByteArray × Int × Int × Int × ByteArray × Int), Ev (fun k => ddiref38_Offer.j2 k l c t d own kp a.f0 a.f1 a.f2 x.1 x.2.1 x.2.2.1 x.2.2.2.1 x.2.2.2.2.1 x.2.2.2.2.2.1 x.2.2.2.2.2.2.1 x.2.2.2.2.2.2.2.1 x.2.2.2.2.2.2.2.2) (if kp = true then (l, 0) else setT l ⟨a, c, 1, t, aft t d, ⟨#[]⟩, if own = true then x.2.2.2.2.2.2.2.2 else 0⟩ t) := by
            intro own kp x
            cases kp with
            | true => exact Ev_shift 1 (f := fun _ => some (l, 0)) (fun k => by rw [ddiref38_Offer.j2, if_pos rfl]) (Ev_const rfl)
            | false =>
              have h3 : ∀ y : Int, Ev (fun k => ddiref38_Offer.j3 k l t a.f0 a.f1 a.f2 c 1 t (aft t d) ⟨#[]⟩ y) (setT l ⟨a, c, 1, t, aft t d, ⟨#[]⟩, y⟩ t) := by
                intro y
                refine Ev_shift 1 (fun k => by rw [ddiref38_Offer.j3]) ?_
                exact Ev.bind (rset_all l hl hs ⟨a, c, 1, t, aft t d, ⟨#[]⟩, y⟩ t) (Ev_const rfl)
              refine Ev_shift 1 (fun k => by rw [ddiref38_Offer.j2, if_neg Bool.false_ne_true, hlat, Option.bind_some]) ?_
              cases own with
              | true => exact h3 _
              | false => exact h3 0
          cases get a l with
          | none =>
            simp only [tup, Bool.false_eq_true, if_false]
            refine Ev_shift 1 (fun k => by rw [ddiref38_Offer.j1, if_neg Bool.false_ne_true]) ?_
            exact off2 false false (false, 0, 0, ⟨#[]⟩, 0, 0, 0, ⟨#[]⟩, 0)
          | some x =>
            simp only [tup, if_true, toL]
            have hm : (x.f1.data.toList == c.data.toList) = mine x c := by
              unfold mine
              rw [Bool.eq_iff_iff]
              simp
            rw [hm]
            have h2 := fun o kp => off2 o kp (x.f0.f0, x.f0.f1, x.f0.f2, x.f1, x.f2, x.f3, x.f4, x.f5, x.f6)
            have hk : keep (some x) c t = (mine x c && (decide (x.f2 = 2) && forB x t)) := rfl
            have hxi : xidO (some x) c = if mine x c = true then x.f6 else 0 := rfl
            rw [hk, hxi]
            cases mine x c with
            | false =>
              refine Ev_shift 1 (fun k => by rw [ddiref38_Offer.j1, if_neg Bool.false_ne_true]) ?_
              exact h2 false false
            | true =>
              refine Ev_shift 1 (fun k => by rw [ddiref38_Offer.j1, if_pos rfl, rforce_v, Option.bind_some]) ?_
              by_cases h : x.f2 = 2
              · simp only [if_pos h, decide_eq_true h, Bool.true_and]
                exact h2 true _
              · simp only [if_neg h, decide_eq_false h, Bool.and_false, Bool.false_and]
                exact h2 true false
    cases hcl : cliB c with
    | false =>
      simp only [Bool.false_eq_true, if_false]
      have := hj0 true (by rw [hcl]; rfl)
      rw [hcl] at this
      exact this
    | true =>
      simp only [if_true]
      cases ht : timeB t with
      | false =>
        simp only [Bool.false_eq_true, if_false]
        have := hj0 true (by rw [hcl, ht]; rfl)
        rw [hcl, ht] at this
        exact this
      | true =>
        simp only [if_true]
        have := hj0 (decide (d < 1)) (by rw [hcl, ht, Bool.true_and, Bool.true_and, Bool.eq_iff_iff]; simp)
        rw [hcl, ht] at this
        exact this
end Go.Proofs.YtonpcojdpfmbkaaDoor.Ma
namespace Go.Proofs.YtonpcojdpfmbkaaDoor.Ma
open Go.RowKit Go.Proofs.YtonpcojdpfmbkaaDoorW.PrintWords Go.Proofs.YtonpcojdpfmbkaaDoorW.PrintLast Go.Proofs.YtonpcojdpfmbkaaDoorW.PrintMore Go.Proofs.YtonpcojdpfmbkaaDoor.XP Go.Proofs.YtonpcojdpfmbkaaDoor.QA Go.Proofs.YtonpcojdpfmbkaaDoor.Cm
set_option linter.unusedVariables false
set_option linter.unusedSimpArgs false
def bstO (o : Option S41) (c : ByteArray) (t : Int) : Int := match o with | some x => if (mine x c && (decide (x.f2 = 2) && forB x t)) = true then mn t x.f3 else t | none => t
def bxiO (o : Option S41) (c : ByteArray) (z : Int) : Int := match o with | some x => if mine x c = true then mx z x.f6 else z | none => z
def newB (l : List S41) (a : S29) (c h : ByteArray) (z t d : Int) : S41 := ⟨a, c, 2, bstO (get a l) c t, aft t d, h, bxiO (get a l) c z⟩
def bindT (l : List S41) (a : S29) (c h : ByteArray) (z t d : Int) : List S41 × Int :=
  if adB a = true then (if good4 c z t d = true then (if hostB h = true then (if frB (get a l) c t = true then setT l (newB l a c h z t d) t else ([], 23)) else ([], 2)) else ([], 1)) else ([], 3)
theorem bind_ev (l : List S41) (hl : l.length ≤ 512) (hs : Srt l) (a : S29) (c h : ByteArray) (hc : c.size ≤ 140737488351232) (hh : h.size ≤ 140737488351232) (z t d : Int) : Ev (fun k => lease_Bind.f k l a.f0 a.f1 a.f2 c h z t d) (bindT l a c h z t d) := by
  unfold lease_Bind.f bindT
  simp only [ad_v, Option.bind_some, time_v, xid_v]
  cases adB a with
  | false => exact Ev_const rfl
  | true =>
    simp only [if_true]
    refine Ev.bind (cli_ev c hc) ?_
    have h3 : ∀ x : S41, Ev (fun k => lease_Bind.j3 k l t x.f0.f0 x.f0.f1 x.f0.f2 x.f1 x.f2 x.f3 x.f4 x.f5 x.f6) (setT l x t) := by
      intro x
      refine Ev_shift 1 (fun k => by rw [lease_Bind.j3]) ?_
      exact Ev.bind (set_ev l hl hs x t) (Ev_const rfl)
    have h2 : ∀ (x : S41) (b : Bool) (y : S41), Ev (fun k => lease_Bind.j2 k l t b x.f0.f0 x.f0.f1 x.f0.f2 x.f1 x.f2 x.f3 x.f4 x.f5 x.f6 y.f0.f0 y.f0.f1 y.f0.f2 y.f1 y.f2 y.f3 y.f4 y.f5 y.f6) (setT l ⟨x.f0, x.f1, x.f2, if b = true then mn t y.f3 else x.f3, x.f4, x.f5, x.f6⟩ t) := by
      intro x b y
      cases b with
      | true => exact Ev_shift 1 (fun k => by rw [lease_Bind.j2, if_pos rfl]) (h3 ⟨x.f0, x.f1, x.f2, mn t y.f3, x.f4, x.f5, x.f6⟩)
      | false => exact Ev_shift 1 (fun k => by rw [lease_Bind.j2, if_neg Bool.false_ne_true]) (h3 x)
    have hj0 : ∀ b : Bool, b = !good4 c z t d → Ev (fun k => lease_Bind.j0 k l c h z t d b a.f0 a.f1 a.f2) (if good4 c z t d = true then (if hostB h = true then (if frB (get a l) c t = true then setT l (newB l a c h z t d) t else ([], 23)) else ([], 2)) else ([], 1)) := by
      rintro b rfl
      cases good4 c z t d with
      | false => exact Ev_shift 1 (f := fun _ => some ([], 1)) (fun k => by rw [lease_Bind.j0, Bool.not_false, if_pos rfl]) (Ev_const rfl)
      | true =>
        rw [if_pos rfl]
        refine Ev_shift 1 (fun k => by rw [lease_Bind.j0, Bool.not_true, if_neg Bool.false_ne_true]) ?_
        refine Ev.bind (host_ev h hh) ?_
        cases hostB h with
        | false => exact Ev_const rfl
        | true =>
          simp only [if_true]
          refine Ev.bind (free_ev l (by omega) hs a c t) ?_
          cases frB (get a l) c t with
          | false => exact Ev_const rfl
          | true =>
            simp only [if_true, aft_v, Option.bind_some]
            refine Ev.bind (find_ev l (by omega) hs a) ?_
            unfold newB
            cases get a l with
            | none =>
              simp only [tup, Bool.false_eq_true, if_false]
              refine Ev_shift 1 (fun k => by rw [lease_Bind.j1, if_neg Bool.false_ne_true]) ?_
              exact h3 ⟨a, c, 2, t, aft t d, h, z⟩
            | some x =>
              simp only [tup, if_true, toL]
              have hm : (x.f1.data.toList == c.data.toList) = mine x c := by
                unfold mine
                rw [Bool.eq_iff_iff]
                simp
              rw [hm]
              have e1 : bstO (some x) c t = if (mine x c && (decide (x.f2 = 2) && forB x t)) = true then mn t x.f3 else t := rfl
              have e2 : bxiO (some x) c z = if mine x c = true then mx z x.f6 else z := rfl
              rw [e1, e2]
              cases mine x c with
              | false =>
                refine Ev_shift 1 (fun k => by rw [lease_Bind.j1, if_neg Bool.false_ne_true]) ?_
                exact h3 ⟨a, c, 2, t, aft t d, h, z⟩
              | true =>
                refine Ev_shift 1 (fun k => by rw [lease_Bind.j1, if_pos rfl, force_v, Option.bind_some]) ?_
                by_cases hx : x.f2 = 2
                · simp only [if_pos hx, decide_eq_true hx, Bool.true_and]
                  exact h2 ⟨a, c, 2, t, aft t d, h, mx z x.f6⟩ _ x
                · simp only [if_neg hx, decide_eq_false hx, Bool.and_false, Bool.false_and]
                  exact h2 ⟨a, c, 2, t, aft t d, h, mx z x.f6⟩ false x
    cases hcl : cliB c with
    | false =>
      simp only [Bool.false_eq_true, if_false]
      exact hj0 true (by unfold good4; rw [hcl]; rfl)
    | true =>
      simp only [if_true]
      cases hz : timeB z with
      | false =>
        simp only [Bool.false_eq_true, if_false]
        exact hj0 true (by unfold good4; rw [hcl, hz]; rfl)
      | true =>
        simp only [if_true]
        cases ht : timeB t with
        | false =>
          simp only [Bool.false_eq_true, if_false]
          exact hj0 true (by unfold good4; rw [hcl, hz, ht]; rfl)
        | true =>
          simp only [if_true]
          exact hj0 (decide (d < 1)) (by unfold good4; rw [hcl, hz, ht, Bool.true_and, Bool.true_and, Bool.true_and, Bool.eq_iff_iff]; simp)
theorem rbind_ev (l : List S41) (hl : l.length ≤ 512) (hs : Srt l) (a : S29) (c h : ByteArray) (hc : c.size ≤ 140737488351232) (hh : h.size ≤ 140737488351232) (z t d : Int) (hd2 : d ≤ 9223372036854775807) : Ev (fun k => ddiref38_Bind.f k l a.f0 a.f1 a.f2 c h z t d) (bindT l a c h z t d) := by
  unfold ddiref38_Bind.f bindT
  simp only [rad_v, Option.bind_some, rtime_v]
  cases adB a with
  | false => exact Ev_const rfl
  | true =>
    simp only [if_true]
    refine Ev.bind (rcli_ev c hc) ?_
    have h6 : ∀ x : S41, Ev (fun k => ddiref38_Bind.j6 k l t x.f0.f0 x.f0.f1 x.f0.f2 x.f1 x.f2 x.f3 x.f4 x.f5 x.f6) (setT l x t) := by
      intro x
      refine Ev_shift 1 (fun k => by rw [ddiref38_Bind.j6]) ?_
      exact Ev.bind (rset_all l hl hs x t) (Ev_const rfl)
    have h5 : ∀ (b : Bool) (y x : S41), Ev (fun k => ddiref38_Bind.j5 k l t b y.f0.f0 y.f0.f1 y.f0.f2 y.f1 y.f2 y.f3 y.f4 y.f5 y.f6 x.f0.f0 x.f0.f1 x.f0.f2 x.f1 x.f2 x.f3 x.f4 x.f5 x.f6) (setT l ⟨x.f0, x.f1, x.f2, x.f3, x.f4, x.f5, if b = true then y.f6 else x.f6⟩ t) := by
      intro b y x
      cases b with
      | true => exact Ev_shift 1 (fun k => by rw [ddiref38_Bind.j5, if_pos rfl]) (h6 ⟨x.f0, x.f1, x.f2, x.f3, x.f4, x.f5, y.f6⟩)
      | false => exact Ev_shift 1 (fun k => by rw [ddiref38_Bind.j5, if_neg Bool.false_ne_true]) (h6 x)
    have h4 : ∀ (o : Bool) (y x : S41), Ev (fun k => ddiref38_Bind.j4 k l z t o y.f0.f0 y.f0.f1 y.f0.f2 y.f1 y.f2 y.f3 y.f4 y.f5 y.f6 x.f0.f0 x.f0.f1 x.f0.f2 x.f1 x.f2 x.f3 x.f4 x.f5 x.f6) (setT l ⟨x.f0, x.f1, x.f2, x.f3, x.f4, x.f5, if (o && decide (y.f6 > z)) = true then y.f6 else x.f6⟩ t) := by
      intro o y x
      cases o with
      | true => exact Ev_shift 1 (fun k => by rw [ddiref38_Bind.j4, if_pos rfl]) (h5 (decide (y.f6 > z)) y x)
      | false => exact Ev_shift 1 (fun k => by rw [ddiref38_Bind.j4, if_neg Bool.false_ne_true]) (h5 false y x)
    have h3 : ∀ (o b : Bool) (y x : S41), Ev (fun k => ddiref38_Bind.j3 k l z t o b y.f0.f0 y.f0.f1 y.f0.f2 y.f1 y.f2 y.f3 y.f4 y.f5 y.f6 x.f0.f0 x.f0.f1 x.f0.f2 x.f1 x.f2 x.f3 x.f4 x.f5 x.f6) (setT l ⟨x.f0, x.f1, x.f2, if b = true then mn y.f3 t else x.f3, x.f4, x.f5, if (o && decide (y.f6 > z)) = true then y.f6 else x.f6⟩ t) := by
      intro o b y x
      cases b with
      | true => exact Ev_shift 1 (fun k => by rw [ddiref38_Bind.j3, if_pos rfl]) (h4 o y ⟨x.f0, x.f1, x.f2, mn y.f3 t, x.f4, x.f5, x.f6⟩)
      | false => exact Ev_shift 1 (fun k => by rw [ddiref38_Bind.j3, if_neg Bool.false_ne_true]) (h4 o y x)
    have hj0 : ∀ b : Bool, b = !good4 c z t d → Ev (fun k => ddiref38_Bind.j0 k l c h z t d b a.f0 a.f1 a.f2) (if good4 c z t d = true then (if hostB h = true then (if frB (get a l) c t = true then setT l (newB l a c h z t d) t else ([], 23)) else ([], 2)) else ([], 1)) := by
      rintro b rfl
      cases hgd : good4 c z t d with
      | false => exact Ev_shift 1 (f := fun _ => some ([], 1)) (fun k => by rw [ddiref38_Bind.j0, Bool.not_false, if_pos rfl]) (Ev_const rfl)
      | true =>
        have ht : timeB t = true := by revert hgd; unfold good4; cases cliB c <;> cases timeB z <;> cases timeB t <;> simp
        have hd : 1 ≤ d := by
          revert hgd
          unfold good4
          cases cliB c <;> cases timeB z <;> cases timeB t <;> simp
        have hlat := later_v t d ht hd hd2
        rw [if_pos rfl]
        have hj1 : ∀ b : Bool, b = !hostB h → Ev (fun k => ddiref38_Bind.j1 k l c h z t d b a.f0 a.f1 a.f2) (if hostB h = true then (if frB (get a l) c t = true then setT l (newB l a c h z t d) t else ([], 23)) else ([], 2)) := by
          rintro b rfl
          cases hostB h with
          | false => exact Ev_shift 1 (f := fun _ => some ([], 2)) (fun k => by rw [ddiref38_Bind.j1, Bool.not_false, if_pos rfl]) (Ev_const rfl)
          | true =>
            rw [if_pos rfl]
            refine Ev_shift 1 (fun k => by rw [ddiref38_Bind.j1, Bool.not_true, if_neg Bool.false_ne_true]) ?_
            refine Ev.bind (rfree_ev l (by omega) a c t) ?_
            cases frB (get a l) c t with
            | false => exact Ev_const rfl
            | true =>
              simp only [if_true]
              refine Ev.bind (rfind_ev l (by omega) a) ?_
              unfold newB
              cases get a l with
              | none =>
                simp only [tup, Bool.false_eq_true, if_false]
                refine Ev_shift 1 (fun k => by rw [ddiref38_Bind.j2, hlat, Option.bind_some, if_neg Bool.false_ne_true]) ?_
                exact h3 false false ⟨⟨false, 0, 0⟩, ⟨#[]⟩, 0, 0, 0, ⟨#[]⟩, 0⟩ ⟨a, c, 2, t, aft t d, h, z⟩
              | some x =>
                simp only [tup, if_true, toL]
                have hm : (x.f1.data.toList == c.data.toList) = mine x c := by
                  unfold mine
                  rw [Bool.eq_iff_iff]
                  simp
                rw [hm]
                have e1 : bstO (some x) c t = if (mine x c && (decide (x.f2 = 2) && forB x t)) = true then mn t x.f3 else t := rfl
                have e2 : bxiO (some x) c z = if mine x c = true then mx z x.f6 else z := rfl
                have e3 : mx z x.f6 = if (true && decide (x.f6 > z)) = true then x.f6 else z := by
                  unfold mx
                  rw [Bool.true_and]
                  simp only [decide_eq_true_eq]
                  repeat' split
                  all_goals omega
                rw [e1, e2, mn_comm]
                cases mine x c with
                | false =>
                  refine Ev_shift 1 (fun k => by rw [ddiref38_Bind.j2, hlat, Option.bind_some, if_neg Bool.false_ne_true]) ?_
                  exact h3 false false x ⟨a, c, 2, t, aft t d, h, z⟩
                | true =>
                  rw [if_pos rfl, e3]
                  refine Ev_shift 1 (fun k => by rw [ddiref38_Bind.j2, hlat, Option.bind_some, if_pos rfl, rforce_v, Option.bind_some]) ?_
                  by_cases hx : x.f2 = 2
                  · simp only [if_pos hx, decide_eq_true hx, Bool.true_and]
                    exact h3 true _ x ⟨a, c, 2, t, aft t d, h, z⟩
                  · simp only [if_neg hx, decide_eq_false hx, Bool.and_false, Bool.false_and]
                    exact h3 true false x ⟨a, c, 2, t, aft t d, h, z⟩
        refine Ev_shift 1 (fun k => by rw [ddiref38_Bind.j0, Bool.not_true, if_neg Bool.false_ne_true, toL]) ?_
        by_cases h0 : h.data.toList = []
        · simp only [if_pos h0]
          exact hj1 false (by unfold hostB; rw [decide_eq_true h0]; rfl)
        · simp only [if_neg h0]
          refine Ev.bind (rname_ev h hh) ?_
          exact hj1 _ (by unfold hostB; rw [decide_eq_false h0, Bool.false_or])
    cases hcl : cliB c with
    | false =>
      simp only [Bool.false_eq_true, if_false]
      exact hj0 true (by unfold good4; rw [hcl]; rfl)
    | true =>
      simp only [if_true]
      cases hz : timeB z with
      | false =>
        simp only [Bool.false_eq_true, if_false]
        exact hj0 true (by unfold good4; rw [hcl, hz]; rfl)
      | true =>
        simp only [if_true]
        cases ht : timeB t with
        | false =>
          simp only [Bool.false_eq_true, if_false]
          exact hj0 true (by unfold good4; rw [hcl, hz, ht]; rfl)
        | true =>
          simp only [if_true]
          exact hj0 (decide (d < 1)) (by unfold good4; rw [hcl, hz, ht, Bool.true_and, Bool.true_and, Bool.true_and, Bool.eq_iff_iff]; simp)
theorem set_len (l : List S41) (hl : l.length ≤ 512) (x : S41) (t : Int) : (setT l x t).1.length ≤ 512 := by
  unfold setT
  split
  · rw [List.length_set]; exact hl
  · split
    · split
      · exact Nat.zero_le _
      · rcases low_spec t l 0 with h | ⟨n, h, hn⟩
        · omega
        · have hp := pos_le x.f0 (l.take (low t l 0).toNat ++ l.drop ((low t l 0).toNat + 1))
          show (ins x _).length ≤ 512
          unfold ins
          simp only [List.length_append, List.length_take, List.length_drop, List.length_singleton, h] at hp ⊢
          omega
    · have hp := pos_le x.f0 l
      show (ins x l).length ≤ 512
      unfold ins
      simp only [List.length_append, List.length_take, List.length_drop, List.length_singleton]
      omega
theorem off_len (l : List S41) (hl : l.length ≤ 512) (a : S29) (c : ByteArray) (t d : Int) : (offT l a c t d).1.length ≤ 512 := by
  unfold offT
  repeat' split
  all_goals first | exact Nat.zero_le _ | exact hl | exact set_len l hl _ t
theorem bind_len (l : List S41) (hl : l.length ≤ 512) (a : S29) (c h : ByteArray) (z t d : Int) : (bindT l a c h z t d).1.length ≤ 512 := by
  unfold bindT
  repeat' split
  all_goals first | exact Nat.zero_le _ | exact set_len l hl _ t
theorem leaseGrants : ddilaw38_LeaseGrants.Pure := by
  intro l a0 a1 a2 c h z t d ⟨hl, _, ok⟩ oka
  refine Ev.rounds (?_ : Ev (fun k => ddilaw38_LeaseGrants.f k l a0 a1 a2 c h z t d) true)
  unfold ddilaw38_LeaseGrants.f
  refine Ev.bind (rcheck_ev l (by omega) ok) ?_
  have hd : d ≤ 9223372036854775807 := by
    have : -9223372036854775808 ≤ d ∧ d ≤ 9223372036854775807 := by simpa [Lit.wf, IntKind.min, IntKind.max, IntKind.signed, IntKind.bits] using oka.2.2.2.2.2
    omega
  by_cases h0 : chkT l = 0
  · obtain ⟨hn, hs⟩ := chkT_zero l h0
    simp only [if_pos h0]
    refine Ev.bind (offer_ev l hn hs ⟨a0, a1, a2⟩ c oka.2.1 t d) (Ev.bind (roffer_ev l hn hs ⟨a0, a1, a2⟩ c oka.2.1 t d hd) ?_)
    refine Ev.bind (bind_ev l hn hs ⟨a0, a1, a2⟩ c h oka.2.1 oka.2.2.1 z t d) (Ev.bind (rbind_ev l hn hs ⟨a0, a1, a2⟩ c h oka.2.1 oka.2.2.1 z t d hd) ?_)
    have l1 := off_len l hn ⟨a0, a1, a2⟩ c t d
    have l2 := bind_len l hn ⟨a0, a1, a2⟩ c h z t d
    refine Ev.bind (same_ev _ (by omega)) ?_
    simp only [if_true]
    refine Ev.bind (same_ev _ (by omega)) ?_
    simp only [if_true]
    exact Ev.bind awake_ev (Ev_const rfl)
  · simp only [if_neg h0]
    exact Ev.bind awake_ev (Ev_const rfl)
end Go.Proofs.YtonpcojdpfmbkaaDoor.Ma
namespace Go.Proofs.YtonpcojdpfmbkaaDoor.Pure
theorem LeaseGrants : QA.ddilaw38_LeaseGrants.Pure := Ma.leaseGrants
end Go.Proofs.YtonpcojdpfmbkaaDoor.Pure
