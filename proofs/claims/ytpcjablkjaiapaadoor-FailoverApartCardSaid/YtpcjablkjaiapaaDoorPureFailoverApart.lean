/- FailoverApart: the pure statement of FailoverApart (no condition but the sizes that every argument has). -/
import Derived.Test.YtpcjablkjaiapaaDoorQAd1
import Derived.Test.YtpcjablkjaiapaaDoorQAd2
import Derived.Test.YtpcjablkjaiapaaDoorXP
import Derived.Test.YtpcjablkjaiapaaDoorXB
import Derived.Test.YtpcjablkjaiapaaDoorQAd3
namespace Go.Proofs.YtpcjablkjaiapaaDoor.Cm
open Go.RowKit Go.Proofs.YtpcjablkjaiapaaDoorW.PrintWords Go.Proofs.YtpcjablkjaiapaaDoorW.PrintLast Go.Proofs.YtpcjablkjaiapaaDoorW.PrintMore Go.Proofs.YtpcjablkjaiapaaDoor.XP Go.Proofs.YtpcjablkjaiapaaDoor.QA
set_option linter.unusedVariables false
set_option linter.unusedSimpArgs false
/-- A byte of an ordinary label. -/
def okc (c : UInt8) : Bool := (97 ≤ c.toNat && c.toNat ≤ 122) || ((48 ≤ c.toNat && c.toNat ≤ 57) || (c.toNat == 45 || c.toNat == 95))
def ordB (l : List UInt8) : Bool := !l.isEmpty && (decide (l.length ≤ 63) && l.all okc)
theorem bt_at_drop (s : ByteArray) (i : Nat) (c : UInt8) (r : List UInt8) (h : s.data.toList.drop i = c :: r) : i < s.size ∧ bt s (i : Int) = (c.toNat : Int) ∧ s.data.toList.drop (i + 1) = r := by
  obtain ⟨hi, hx, hr⟩ := drop_at h
  refine ⟨by rw [size_data]; exact hi, ?_, hr⟩
  rw [bt_get s i hi, hx]
theorem size_end (s : ByteArray) (i : Nat) (h : s.data.toList.drop i = []) : s.size ≤ i := by rw [size_data]; exact drop_end h
theorem toL (s : ByteArray) : s.toList = s.data.toList := ByteArray.toList_eq s
theorem ord_from (s : ByteArray) (hs : s.size ≤ 140737488351232) : ∀ (r : List UInt8) (i : Nat), s.data.toList.drop i = r → Ev (fun k => dname_ordinary.l0 k s (s.size : Int) (i : Int)) (r.all okc)
  | [], i, h => by
    have := size_end s i h
    refine Ev_shift 1 (f := fun _ => some true) (fun k => ?_) (Ev_const rfl)
    rw [dname_ordinary.l0, if_neg (by omega)]
  | c :: r, i, h => by
    obtain ⟨hi, hb, hr⟩ := bt_at_drop s i c r h
    have ih := ord_from s hs r (i + 1) hr
    have key : ∀ b : Bool, b = !okc c → Ev (fun k => dname_ordinary.j2 k s (s.size : Int) (i : Int) b) (List.all (c :: r) okc) := by
      intro b hbc
      rw [List.all_cons]
      cases hc : okc c with
      | false =>
        rw [hc] at hbc
        subst hbc
        refine Ev_shift 1 (f := fun _ => some false) (fun k => ?_) (Ev_const rfl)
        rw [dname_ordinary.j2]
        rfl
      | true =>
        rw [hc] at hbc
        subst hbc
        rw [Bool.true_and]
        refine Ev_shift 1 (fun k => ?_) ih
        rw [dname_ordinary.j2, next i s.size hi (by omega)]
        rfl
    refine Ev_shift 1 (f := fun k => dname_ordinary.j2 k s (s.size : Int) (i : Int) (!okc c)) (fun k => ?_) (key _ rfl)
    rw [dname_ordinary.l0, if_pos (by omega), if_pos (by omega), if_pos (by omega), hb]
    have hc : okc c = true ↔ (97 ≤ c.toNat ∧ c.toNat ≤ 122) ∨ ((48 ≤ c.toNat ∧ c.toNat ≤ 57) ∨ (c.toNat = 45 ∨ c.toNat = 95)) := by simp [okc]
    have hbn : ((c.toNat : Int) != 95) = !decide (c.toNat = 95) := by
      rw [Bool.eq_iff_iff]
      simp
      omega
    rw [hbn]
    cases hk : okc c with
    | true =>
      have := hc.1 hk
      repeat' split
      all_goals first | rfl | omega | (congr 1; simp; omega)
    | false =>
      have hn : ¬ _ := fun h => Bool.false_ne_true (hk.symm.trans (hc.2 h))
      repeat' split
      all_goals first | rfl | (exfalso; omega) | (congr 1; simp; omega)
theorem ord_ev (s : ByteArray) (hs : s.size ≤ 140737488351232) : Ev (fun k => dname_ordinary.f k s) (ordB s.data.toList) := by
  have hl := size_data s
  unfold dname_ordinary.f
  rw [toL]
  have hj : ∀ b : Bool, b = !(!s.data.toList.isEmpty && decide (s.data.toList.length ≤ 63)) → Ev (fun k => dname_ordinary.j0 k s b) (ordB s.data.toList) := by
    intro b hb
    unfold ordB
    cases h : (!s.data.toList.isEmpty && decide (s.data.toList.length ≤ 63)) with
    | false =>
      rw [h] at hb
      subst hb
      refine Ev_shift 1 (f := fun _ => some false) (fun k => ?_) (Ev_const (by rw [← Bool.and_assoc, h]; rfl))
      rw [dname_ordinary.j0]
      rfl
    | true =>
      rw [h] at hb
      subst hb
      rw [← Bool.and_assoc, h, Bool.true_and]
      refine Ev_shift 1 (fun k => ?_) (ord_from s hs s.data.toList 0 rfl)
      rw [dname_ordinary.j0]
      rfl
  by_cases h0 : s.data.toList = []
  · simp only [if_pos h0]
    exact hj true (by rw [h0]; rfl)
  · simp only [if_neg h0]
    refine hj _ ?_
    have : s.data.toList.isEmpty = false := by simpa using h0
    rw [this, hl]
    simp only [Bool.not_false, Bool.true_and]
    by_cases h : s.data.toList.length ≤ 63
    · rw [decide_eq_true h, decide_eq_false (by omega)]; rfl
    · rw [decide_eq_false h, decide_eq_true (by omega)]; rfl
end Go.Proofs.YtpcjablkjaiapaaDoor.Cm
namespace Go.Proofs.YtpcjablkjaiapaaDoor.Cm
open Go.RowKit Go.Proofs.YtpcjablkjaiapaaDoorW.PrintWords Go.Proofs.YtpcjablkjaiapaaDoorW.PrintLast Go.Proofs.YtpcjablkjaiapaaDoorW.PrintMore Go.Proofs.YtpcjablkjaiapaaDoor.XP Go.Proofs.YtpcjablkjaiapaaDoor.QA
set_option linter.unusedVariables false
set_option linter.unusedSimpArgs false
def mkB (l : List UInt8) : ByteArray := ⟨l.toArray⟩
theorem mkB_data (l : List UInt8) : (mkB l).data.toList = l := rfl
theorem mkB_of (s : ByteArray) : mkB s.data.toList = s := by
  obtain ⟨⟨l⟩⟩ := s
  rfl
theorem mkB_size (l : List UInt8) : (mkB l).size = l.length := by rw [size_data]; rfl
/-- What lies between the periods; cur is what was read since the last one. -/
def pcs : List UInt8 → List UInt8 → List (List UInt8)
  | cur, [] => [cur]
  | cur, c :: r => if c = 46 then cur :: pcs [] r else pcs (cur ++ [c]) r
def dots (l : List UInt8) : Nat := l.count 46
theorem pcs_len : ∀ (l cur : List UInt8), (pcs cur l).length = dots l + 1
  | [], _ => rfl
  | c :: r, cur => by
    rw [pcs]
    by_cases h : c = 46
    · subst h
      rw [if_pos rfl, List.length_cons, pcs_len r, dots, dots, List.count_cons_self]
    · rw [if_neg h, pcs_len r, dots, dots, List.count_cons_of_ne h]
theorem idx_some : ∀ l : List UInt8, 0 < dots l → ∃ p q, l = p ++ 46 :: q ∧ dots p = 0 ∧ Go.Lib.indexByte l 46 = (p.length : Int)
  | [], h => by cases h
  | c :: r, h => by
    by_cases hc : c = 46
    · subst hc
      exact ⟨[], r, rfl, rfl, rfl⟩
    · have hr : 0 < dots r := by
        rw [dots, List.count_cons_of_ne hc] at h
        exact h
      obtain ⟨p, q, e, hp, hi⟩ := idx_some r hr
      have hb : (c == 46) = false := by simpa using hc
      refine ⟨c :: p, q, by rw [e]; rfl, by rw [dots, List.count_cons_of_ne hc]; exact hp, ?_⟩
      rw [Go.Lib.indexByte, hb, hi]
      have : ((p.length : Int) == -1) = false := by
        rw [beq_eq_false_iff_ne]
        omega
      simp only [this, Bool.false_eq_true, if_false, List.length_cons]
      omega
theorem pcs_front : ∀ (p cur q : List UInt8), dots p = 0 → pcs cur (p ++ 46 :: q) = (cur ++ p) :: pcs [] q
  | [], cur, q, _ => by simp [pcs]
  | c :: p, cur, q, h => by
    have hc : ¬ c = 46 := by
      rintro rfl
      rw [dots, List.count_cons_self] at h
      omega
    have hp : dots p = 0 := by
      rw [dots, List.count_cons_of_ne hc] at h
      exact h
    rw [List.cons_append, pcs, if_neg hc, pcs_front p _ q hp]
    simp
theorem pcs_last : ∀ (p cur : List UInt8), dots p = 0 → pcs cur p = [cur ++ p]
  | [], cur, _ => by simp [pcs]
  | c :: p, cur, h => by
    have hc : ¬ c = 46 := by
      rintro rfl
      rw [dots, List.count_cons_self] at h
      omega
    have hp : dots p = 0 := by
      rw [dots, List.count_cons_of_ne hc] at h
      exact h
    rw [pcs, if_neg hc, pcs_last p _ hp]
    simp
theorem dots_le (l : List UInt8) : dots l ≤ l.length := List.count_le_length
theorem set_at {α : Type} (d : List α) (x e : α) (n : Nat) : (d ++ List.replicate (n + 1) e).set d.length x = d ++ [x] ++ List.replicate n e := by
  rw [List.replicate_succ, List.set_append_right _ _ (Nat.le_refl _), Nat.sub_self, List.set_cons_zero, List.append_assoc]
  rfl
def sep1 : ByteArray := ⟨#[46]⟩
theorem sfind (s : ByteArray) : strings_Index.f s sep1 = some (Go.Lib.indexByte s.data.toList 46) := rfl
theorem scount (s : ByteArray) : strings_Count.f s sep1 = some ((dots s.data.toList : Nat) : Int) := rfl
theorem nx1 (n : Nat) (h : n ≤ 1000000) : wrap64 ((n : Int) + 1) = ((n + 1 : Nat) : Int) := by rw [wrap_id (by omega) (by omega)]; omega
theorem nx0 (n : Nat) (h : n ≤ 1000000) : wrap64 ((n : Int) + 0) = ((n : Nat) : Int) := by rw [wrap_id (by omega) (by omega)]; omega
set_option maxHeartbeats 400000 in
theorem split_from (n : Nat) (hn : n ≤ 1000000) (m : Nat) : ∀ (done : List ByteArray) (s : ByteArray), dots s.data.toList = m → done.length + m = n → s.size ≤ 1000000 →
    Ev (fun k => strings_genSplit.l0 k s sep1 0 (n : Int) (done ++ List.replicate (m + 1) (⟨#[]⟩ : ByteArray)) (done.length : Int)) (done ++ (pcs [] s.data.toList).map mkB) := by
  induction m with
  | zero =>
    intro done s hd hl hs
    have hend : ((done ++ List.replicate (0 + 1) (⟨#[]⟩ : ByteArray)).set done.length s).take (done.length + 1) = done ++ (pcs [] s.data.toList).map mkB := by
      rw [set_at, pcs_last _ _ hd, List.nil_append, List.map_cons, List.map_nil, mkB_of, List.replicate_zero, List.append_nil, List.take_of_length_le (by simp)]
    have hlen : (done ++ List.replicate (0 + 1) (⟨#[]⟩ : ByteArray)).length = done.length + 1 := by simp
    have hw : wrap64 ((done.length : Int) + 1) = ((done.length + 1 : Nat) : Int) := by rw [wrap_id (by omega) (by omega)]; omega
    refine Ev_shift 1 (f := fun _ => some (done ++ (pcs [] s.data.toList).map mkB)) (fun k => ?_) (Ev_const rfl)
    rw [strings_genSplit.l0, if_neg (by omega), if_pos (by omega), hlen, if_pos (by omega), hw, if_pos (by omega), if_pos (by omega), Int.toNat_natCast, Int.toNat_natCast, hend]
  | succ m ih0 =>
    intro done s hd hl hs
    obtain ⟨p, q, e, hp, hi⟩ := idx_some s.data.toList (by omega)
    have hsz := size_data s
    have hsl : s.size = p.length + (q.length + 1) := by rw [hsz, e]; simp
    have hq : dots q = m := by
      have : dots s.data.toList = dots p + (dots q + 1) := by rw [e, dots, List.count_append, List.count_cons_self]; rfl
      omega
    have e1 : (s.extract (p.length + 1) s.size).data.toList = q := by
      rw [data_ext, e, ← List.drop_drop, List.drop_left, List.drop_one, List.tail_cons, List.take_of_length_le (by omega)]
    have e0 : s.extract 0 p.length = mkB p := by
      apply data_inj
      rw [data_ext, e, mkB_data, List.drop_zero, Nat.sub_zero, List.take_left]
    have hsz2 : (s.extract (p.length + 1) s.size).size ≤ 1000000 := by rw [size_data, e1]; omega
    obtain ⟨s2, hs2⟩ : ∃ s2, s2 = s.extract (p.length + 1) s.size := ⟨_, rfl⟩
    rw [← hs2] at e1 hsz2
    have ih := ih0 (done ++ [mkB p]) s2 (by rw [e1]; exact hq) (by rw [List.length_append, List.length_singleton]; omega) hsz2
    rw [e1] at ih
    have g1 : (done.length : Int) < (n : Int) := by omega
    have g2 : ¬ ((p.length : Int) < 0) := by omega
    have g3 : (0 : Int) ≤ ((p.length : Nat) : Int) := by omega
    have g4 : ((p.length : Nat) : Int) ≤ (s.size : Int) := by omega
    have g5 : (0 : Int) ≤ (done.length : Int) := by omega
    have g6 : (done.length : Int) < ((done.length + (m + 2) : Nat) : Int) := by omega
    have g7 : (0 : Int) ≤ ((p.length + 1 : Nat) : Int) := by omega
    have g8 : ((p.length + 1 : Nat) : Int) ≤ (s.size : Int) := by omega
    have g9 : p.length ≤ 1000000 := by omega
    have g10 : done.length ≤ 1000000 := by omega
    have hs1 : ((sep1.size : Nat) : Int) = 1 := rfl
    have hlen : (done ++ List.replicate (m + 1 + 1) (⟨#[]⟩ : ByteArray)).length = done.length + (m + 2) := by simp
    have hr : done ++ (pcs [] s.data.toList).map mkB = done ++ [mkB p] ++ (pcs [] q).map mkB := by
      rw [e, pcs_front p [] q hp, List.nil_append, List.map_cons, List.append_assoc]
      rfl
    rw [hr]
    have hw1 := nx0 p.length g9
    have hw2 := nx1 p.length g9
    have hw3 := nx1 done.length g10
    refine Ev_shift 1 (fun k => ?_) ih
    rw [strings_genSplit.l0, if_pos g1, sfind, hi, Option.bind_some, if_neg g2, hs1, hw1, hw2, hw3, if_pos g3, if_pos g4, if_pos g5, hlen, if_pos g6, if_pos g7, if_pos g8, Int.toNat_natCast, Int.toNat_natCast, Int.toNat_natCast, set_at, e0, List.length_append, List.length_singleton, ← hs2]
theorem split_ev (s : ByteArray) (hs : s.size ≤ 1000000) : Ev (fun k => strings_Split.f k s sep1) ((pcs [] s.data.toList).map mkB) := by
  have hd := dots_le s.data.toList
  have hsz := size_data s
  unfold strings_Split.f strings_genSplit.f
  have h0 : ¬ sep1.toList = ([] : List UInt8) := by rw [toL]; exact List.cons_ne_nil _ _
  simp only [if_neg (show ¬ (-1 : Int) = 0 by omega), if_neg h0, if_pos (show (-1 : Int) < 0 by omega), scount, Option.bind_some]
  have hw : wrap64 (((dots s.data.toList : Nat) : Int) + 1) = ((dots s.data.toList + 1 : Nat) : Int) := by rw [wrap_id (by omega) (by omega)]; omega
  have hw2 : wrap64 ((s.size : Int) + 1) = ((s.size + 1 : Nat) : Int) := by rw [wrap_id (by omega) (by omega)]; omega
  have hm : mn ((dots s.data.toList + 1 : Nat) : Int) ((s.size + 1 : Nat) : Int) = ((dots s.data.toList + 1 : Nat) : Int) := by rw [mn_len, Nat.min_eq_left (by omega)]
  have hw3 : wrap64 (((dots s.data.toList + 1 : Nat) : Int) - 1) = ((dots s.data.toList : Nat) : Int) := by rw [wrap_id (by omega) (by omega)]; omega
  rw [hw]
  refine Ev.bind (a := (pcs [] s.data.toList).map mkB) ?_ (Ev_const rfl)
  refine Ev_shift 1 (fun k => by rw [strings_genSplit.j0, hw2, hm, if_pos (by omega), Int.toNat_natCast, if_pos (by omega), hw3]) ?_
  exact split_from (dots s.data.toList) (by omega) (dots s.data.toList) [] s rfl (by simp) (by omega)
/-- The labels, each by its place. -/
def oks : Bool → List (List UInt8) → Bool
  | _, [] => true
  | first, x :: r => (ordB x || (first && decide (x = [42]))) && oks false r
theorem labels_from (l : List (List UInt8)) (hl : l.length ≤ 1000001) (hsz : ∀ x ∈ l, x.length ≤ 1000000) : ∀ (r : List (List UInt8)) (i : Nat), l.drop i = r →
    Ev (fun k => dname_Valid.l0 k (l.map mkB) (((l.map mkB).length : Nat) : Int) (i : Int)) (oks (decide (i = 0)) r)
  | [], i, h => by
    have := drop_end h
    refine Ev_shift 1 (f := fun _ => some true) (fun k => ?_) (Ev_const rfl)
    rw [dname_Valid.l0, if_neg (by rw [List.length_map]; omega)]
  | x :: r, i, h => by
    obtain ⟨hi, hx, hr⟩ := drop_at h
    have hlm : (l.map mkB).length = l.length := List.length_map _
    have hrd : rdOf ByteArray.empty (l.map mkB) (i : Int) = mkB x := by
      simp [rdOf, List.getD_eq_getElem?_getD, List.getElem?_eq_getElem hi, hx]
    have ih := labels_from l hl hsz r (i + 1) hr
    have hxs : (mkB x).size ≤ 140737488351232 := by
      have := hsz x (hx ▸ List.getElem_mem hi)
      rw [mkB_size]
      omega
    have key : ∀ b : Bool, b = !(ordB x || (decide (i = 0) && decide (x = [42]))) → Ev (fun k => dname_Valid.j2 k (l.map mkB) (((l.map mkB).length : Nat) : Int) (i : Int) b) (oks (decide (i = 0)) (x :: r)) := by
      intro b hb
      rw [oks]
      cases hk : (ordB x || (decide (i = 0) && decide (x = [42]))) with
      | false =>
        rw [hk] at hb
        subst hb
        refine Ev_shift 1 (f := fun _ => some false) (fun k => ?_) (Ev_const rfl)
        rw [dname_Valid.j2]
        rfl
      | true =>
        rw [hk] at hb
        subst hb
        rw [Bool.true_and]
        have hi1 : decide (i + 1 = 0) = false := decide_eq_false (by omega)
        rw [hi1] at ih
        refine Ev_shift 1 (fun k => ?_) ih
        rw [dname_Valid.j2, next i l.length hi (by omega)]
        rfl
    refine Ev_shift 1 (fun k => by rw [dname_Valid.l0, if_pos (by omega), if_pos (by omega), if_pos (by omega), hrd]) ?_
    refine Ev.bind (ord_ev (mkB x) hxs) ?_
    rw [mkB_data]
    cases ho : ordB x with
    | true =>
      simp only [if_true]
      exact key false (by rw [ho]; rfl)
    | false =>
      simp only [Bool.false_eq_true, if_false]
      by_cases h0 : i = 0
      · subst h0
        simp only [if_neg (show ¬ ((0 : Nat) : Int) > 0 by omega)]
        refine key _ ?_
        rw [ho, toL, mkB_data]
        by_cases h42 : x = [42]
        · simp [h42]
        · have : (x != [42]) = true := by simpa using h42
          rw [this]
          simp [h42]
      · simp only [if_pos (show (i : Int) > 0 by omega)]
        exact key true (by rw [ho]; simp [h0])
end Go.Proofs.YtpcjablkjaiapaaDoor.Cm
namespace Go.Proofs.YtpcjablkjaiapaaDoor.Cm
open Go.RowKit Go.Proofs.YtpcjablkjaiapaaDoorW.PrintWords Go.Proofs.YtpcjablkjaiapaaDoorW.PrintLast Go.Proofs.YtpcjablkjaiapaaDoorW.PrintMore Go.Proofs.YtpcjablkjaiapaaDoor.XP Go.Proofs.YtpcjablkjaiapaaDoor.QA
set_option linter.unusedVariables false
set_option linter.unusedSimpArgs false
/-- A domain name, by its bytes. -/
def nameB (l : List UInt8) : Bool := decide (l = [46]) || (decide (2 ≤ l.length ∧ l.length ≤ 254) && (decide (l.getLast? = some 46) && oks true (pcs [] l.dropLast)))
theorem wsub1 (n : Nat) (h : 1 ≤ n) (h2 : n ≤ 140737488351232) : wrap64 ((n : Int) - 1) = ((n - 1 : Nat) : Int) := by
  rw [wrap_id (by omega) (by omega)]
  omega
theorem suffix_val (s : ByteArray) (hs : s.size ≤ 1000000) : strings_HasSuffix.f s sep1 = some (decide (s.data.toList.getLast? = some 46)) := by
  have hsz := size_data s
  unfold strings_HasSuffix.f stringslite_HasSuffix.f
  have h1 : sep1.size = 1 := rfl
  rw [h1]
  by_cases h0 : 1 ≤ s.size
  · have hw : wrap64 ((s.size : Int) - ((1 : Nat) : Int)) = ((s.size - 1 : Nat) : Int) := by rw [wrap_id (by omega) (by omega)]; omega
    rw [if_pos (by omega), hw, if_pos (by omega), if_pos (by omega), Int.toNat_natCast, Option.bind_some, toL, toL]
    have hi : s.size - 1 < s.data.toList.length := by omega
    have e : (s.extract (s.size - 1) s.size).data.toList = [s.data.toList[s.size - 1]] := by
      rw [data_ext, List.drop_eq_getElem_cons hi, List.drop_eq_nil_of_le (by omega), List.take_of_length_le (by simp; omega)]
    rw [e, List.getLast?_eq_getElem?, ← hsz, List.getElem?_eq_getElem hi]
    congr 1
    rw [Bool.eq_iff_iff, beq_iff_eq, decide_eq_true_eq]
    show [_] = [46] ↔ _
    simp
  · have : s.data.toList = [] := List.length_eq_zero_iff.1 (by omega)
    rw [if_neg (by omega), Option.bind_some, this]
    rfl
theorem pcs_small : ∀ (l cur : List UInt8) (x : List UInt8), x ∈ pcs cur l → x.length ≤ cur.length + l.length
  | [], cur, x, h => by simp [pcs] at h; subst h; simp
  | c :: r, cur, x, h => by
    rw [pcs] at h
    split at h
    · rcases List.mem_cons.1 h with h | h
      · subst h; simp
      · have := pcs_small r [] x h; simp at this ⊢; omega
    · have := pcs_small r _ x h; simp at this ⊢; omega
theorem name_ev (s : ByteArray) (hs : s.size ≤ 140737488351232) : Ev (fun k => dname_Valid.f k s) (nameB s.data.toList) := by
  have hsz := size_data s
  unfold dname_Valid.f nameB
  rw [toL]
  by_cases h46 : s.data.toList = [46]
  · simp only [if_pos h46, h46, decide_true, Bool.true_or]
    exact Ev_const rfl
  · simp only [h46, if_false, decide_false, Bool.false_or]
    by_cases hbig : (s.size : Int) ≥ 255
    · simp only [if_pos hbig]
      have : decide (2 ≤ s.data.toList.length ∧ s.data.toList.length ≤ 254) = false := decide_eq_false (by omega)
      rw [this, Bool.false_and]
      exact Ev_shift 1 (f := fun _ => some false) (fun k => by rw [dname_Valid.j0, if_pos rfl]) (Ev_const rfl)
    · simp only [if_neg hbig]
      have hsf := suffix_val s (by omega)
      simp only [show (⟨#[46]⟩ : ByteArray) = sep1 from rfl, hsf, Option.bind_some]
      cases hl : decide (s.data.toList.getLast? = some 46) with
      | false =>
        rw [Bool.false_and, Bool.and_false]
        exact Ev_shift 1 (f := fun _ => some false) (fun k => by rw [dname_Valid.j0]; rfl) (Ev_const rfl)
      | true =>
        have hl' := of_decide_eq_true hl
        have hn2 : 2 ≤ s.data.toList.length := by
          cases hd : s.data.toList with
          | nil => rw [hd] at hl'; cases hl'
          | cons c r =>
            cases r with
            | nil =>
              rw [hd] at hl'
              have hl2 : c = 46 := by simpa using hl'
              exact absurd (by rw [hd, hl2]) h46
            | cons => simp
        have : decide (2 ≤ s.data.toList.length ∧ s.data.toList.length ≤ 254) = true := decide_eq_true (by omega)
        rw [this, Bool.true_and, Bool.true_and]
        refine Ev_shift 1 (fun k => by rw [dname_Valid.j0, Bool.not_true, if_neg (by decide), wsub1 s.size (by rw [hsz]; omega) hs, if_pos (by omega), if_pos (by omega), Int.toNat_natCast]) ?_
        have he : (s.extract 0 (s.size - 1)).data.toList = s.data.toList.dropLast := by
          rw [data_ext, List.drop_zero, Nat.sub_zero, List.dropLast_eq_take, hsz]
        have hes : (s.extract 0 (s.size - 1)).size ≤ 254 := by rw [size_data, he, List.length_dropLast]; omega
        have hsp := split_ev (s.extract 0 (s.size - 1)) (by omega)
        rw [he] at hsp
        refine Ev.bind hsp ?_
        have hdl : s.data.toList.dropLast.length ≤ 254 := by rw [List.length_dropLast]; omega
        have := labels_from (pcs [] s.data.toList.dropLast) (by have := pcs_len s.data.toList.dropLast []; have := dots_le s.data.toList.dropLast; omega) (fun x hx => by have := pcs_small _ _ x hx; simp at this; omega) _ 0 rfl
        exact this
/-! ### the reference's -/
end Go.Proofs.YtpcjablkjaiapaaDoor.Cm
namespace Go.Proofs.YtpcjablkjaiapaaDoor.Cm
open Go.RowKit Go.Proofs.YtpcjablkjaiapaaDoorW.PrintWords Go.Proofs.YtpcjablkjaiapaaDoorW.PrintLast Go.Proofs.YtpcjablkjaiapaaDoorW.PrintMore Go.Proofs.YtpcjablkjaiapaaDoor.XP Go.Proofs.YtpcjablkjaiapaaDoor.QA
set_option linter.unusedVariables false
set_option linter.unusedSimpArgs false
def ea (a x : S25) : Bool := a.f0 == x.f0 && (a.f1 == x.f1 && (a.f2 == x.f2))
def cmp (a b : S25) : Int := if (a.f0 != b.f0) = true then (if b.f0 = true then -1 else 1) else (if a.f1 = b.f1 then (if a.f2 < b.f2 then -1 else (if a.f2 > b.f2 then 1 else 0)) else (if a.f1 < b.f1 then -1 else 1))
theorem num (a b : Int) : addr_number.f a b = some (if a < b then -1 else (if a > b then 1 else 0)) := by
  unfold addr_number.f
  repeat' split
  all_goals rfl
theorem ucmp (a b : S25) : Ev (fun k => addr_Compare.f k a.f0 a.f1 a.f2 b.f0 b.f1 b.f2) (cmp a b) := by
  refine Ev_shift 1 (f := fun _ => some (cmp a b)) (fun k => ?_) (Ev_const rfl)
  unfold addr_Compare.f addr_Compare.j0 cmp
  simp only [num]
  cases h0 : a.f0 <;> cases h1 : b.f0 <;> simp
  all_goals
    by_cases h : a.f1 = b.f1
    · simp [h]
    · simp only [h, if_false]
      by_cases h2 : a.f1 < b.f1
      · simp [h2]
      · simp [h2]
        omega
end Go.Proofs.YtpcjablkjaiapaaDoor.Cm
namespace Go.Proofs.YtpcjablkjaiapaaDoor.Ma
open Go.RowKit Go.Proofs.YtpcjablkjaiapaaDoorW.PrintWords Go.Proofs.YtpcjablkjaiapaaDoorW.PrintLast Go.Proofs.YtpcjablkjaiapaaDoorW.PrintMore Go.Proofs.YtpcjablkjaiapaaDoor.XP Go.Proofs.YtpcjablkjaiapaaDoor.QA Go.Proofs.YtpcjablkjaiapaaDoor.Cm
set_option linter.unusedVariables false
set_option linter.unusedSimpArgs false
def vis (c : UInt8) : Bool := decide (33 ≤ c.toNat) && decide (c.toNat ≤ 126)
def szB (n : Nat) : Bool := decide (1 ≤ n) && decide (n ≤ 32)
def cliB (s : ByteArray) : Bool := s.data.toList.all vis && szB s.size
def hostB (s : ByteArray) : Bool := decide (s.data.toList = []) || nameB s.data.toList
def timeB (t : Int) : Bool := decide (0 ≤ t) && decide (t ≤ 4294967295)
def adB (x : S25) : Bool := x.f0 || (decide (x.f1 = 0) && decide (x.f2 ≤ 4294967295))
theorem ad_v (x : S25) : addr_Valid.f x.f0 x.f1 x.f2 = some (adB x) := by
  unfold addr_Valid.f adB
  by_cases h : x.f0 = true
  · rw [if_pos h, h]; rfl
  · have : x.f0 = false := by simpa using h
    rw [if_neg h, this, Bool.false_or]
    by_cases h1 : x.f1 = 0
    · rw [if_pos h1, decide_eq_true h1, Bool.true_and]
    · rw [if_neg h1, decide_eq_false h1]; rfl
/-- A lease's own form: 3 the address, 1 the arguments, 2 the name, 0 in order. -/
def argB (x : S27) : Bool := decide (1 ≤ x.f2) && (decide (x.f2 ≤ 5) && (cliB x.f1 && (timeB x.f6 && (timeB x.f3 && (timeB x.f4 && decide (x.f3 ≤ x.f4))))))
def one (x : S27) : Int := if adB x.f0 = true then (if argB x = true then (if hostB x.f5 = true then 0 else 2) else 1) else 3
end Go.Proofs.YtpcjablkjaiapaaDoor.Ma
namespace Go.Proofs.YtpcjablkjaiapaaDoor.Ma
open Go.RowKit Go.Proofs.YtpcjablkjaiapaaDoorW.PrintWords Go.Proofs.YtpcjablkjaiapaaDoorW.PrintLast Go.Proofs.YtpcjablkjaiapaaDoorW.PrintMore Go.Proofs.YtpcjablkjaiapaaDoor.XP Go.Proofs.YtpcjablkjaiapaaDoor.QA Go.Proofs.YtpcjablkjaiapaaDoor.Cm
set_option linter.unusedVariables false
set_option linter.unusedSimpArgs false
end Go.Proofs.YtpcjablkjaiapaaDoor.Ma
namespace Go.Proofs.YtpcjablkjaiapaaDoor.Ma
open Go.RowKit Go.Proofs.YtpcjablkjaiapaaDoorW.PrintWords Go.Proofs.YtpcjablkjaiapaaDoorW.PrintLast Go.Proofs.YtpcjablkjaiapaaDoorW.PrintMore Go.Proofs.YtpcjablkjaiapaaDoor.XP Go.Proofs.YtpcjablkjaiapaaDoor.QA Go.Proofs.YtpcjablkjaiapaaDoor.Cm
set_option linter.unusedVariables false
set_option linter.unusedSimpArgs false
end Go.Proofs.YtpcjablkjaiapaaDoor.Ma
namespace Go.Proofs.YtpcjablkjaiapaaDoor.Ma
open Go.RowKit Go.Proofs.YtpcjablkjaiapaaDoorW.PrintWords Go.Proofs.YtpcjablkjaiapaaDoorW.PrintLast Go.Proofs.YtpcjablkjaiapaaDoorW.PrintMore Go.Proofs.YtpcjablkjaiapaaDoor.XP Go.Proofs.YtpcjablkjaiapaaDoor.QA Go.Proofs.YtpcjablkjaiapaaDoor.Cm
set_option linter.unusedVariables false
set_option linter.unusedSimpArgs false
theorem one_of {x : S27} (ha : adB x.f0 = true) (h2 : 1 ≤ x.f2) (h2' : x.f2 ≤ 5) (hc : cliB x.f1 = true) (h6 : timeB x.f6 = true) (h3 : timeB x.f3 = true) (h4 : timeB x.f4 = true) (h34 : x.f3 ≤ x.f4) (h5 : hostB x.f5 = true) : one x = 0 := by
  unfold one argB
  rw [if_pos ha, hc, h6, h3, h4, decide_eq_true h2, decide_eq_true h2', decide_eq_true h34, h5]
  rfl
end Go.Proofs.YtpcjablkjaiapaaDoor.Ma
namespace Go.Proofs.YtpcjablkjaiapaaDoor.Ma
open Go.RowKit Go.Proofs.YtpcjablkjaiapaaDoorW.PrintWords Go.Proofs.YtpcjablkjaiapaaDoorW.PrintLast Go.Proofs.YtpcjablkjaiapaaDoorW.PrintMore Go.Proofs.YtpcjablkjaiapaaDoor.XP Go.Proofs.YtpcjablkjaiapaaDoor.QA Go.Proofs.YtpcjablkjaiapaaDoor.Cm
set_option linter.unusedVariables false
set_option linter.unusedSimpArgs false
end Go.Proofs.YtpcjablkjaiapaaDoor.Ma
namespace Go.Proofs.YtpcjablkjaiapaaDoor.Ma
open Go.RowKit Go.Proofs.YtpcjablkjaiapaaDoorW.PrintWords Go.Proofs.YtpcjablkjaiapaaDoorW.PrintLast Go.Proofs.YtpcjablkjaiapaaDoorW.PrintMore Go.Proofs.YtpcjablkjaiapaaDoor.XP Go.Proofs.YtpcjablkjaiapaaDoor.QA Go.Proofs.YtpcjablkjaiapaaDoor.Cm
set_option linter.unusedVariables false
set_option linter.unusedSimpArgs false
theorem u64_nn (v : Int) : 0 ≤ IntKind.u64.wrap v := by
  simp [IntKind.wrap, IntKind.signed, IntKind.bits]
  omega
theorem u64_id (v : Int) (h0 : 0 ≤ v) (h1 : v < 18446744073709551616) : IntKind.u64.wrap v = v := by
  simp [IntKind.wrap, IntKind.signed, IntKind.bits]
  omega
theorem w12 : wrap64 (1 + 1) = 2 := by rw [wrap_id (by omega) (by omega)]; rfl
theorem w23 : wrap64 (2 + 1) = 3 := by rw [wrap_id (by omega) (by omega)]; rfl
def stN (n : Int) : Int := if n < 0 then 0 else (if n > 4 then 0 else n)
theorem state_ev (b : Bool) (n u m : Int) : Ev (fun k => failover_state.f k b n u m) (stN n) := by
  unfold failover_state.f stN
  split
  · exact Ev_shift 1 (f := fun _ => some 0) (fun k => by rw [failover_state.j0, if_pos rfl]) (Ev_const rfl)
  · by_cases h : n > 4
    · rw [if_pos h, decide_eq_true h]
      exact Ev_shift 1 (f := fun _ => some 0) (fun k => by rw [failover_state.j0, if_pos rfl]) (Ev_const rfl)
    · rw [if_neg h, decide_eq_false h]
      exact Ev_shift 1 (f := fun _ => some n) (fun k => by rw [failover_state.j0, if_neg Bool.false_ne_true]) (Ev_const rfl)
theorem st_eq (n : Int) (m : Int) (h1 : 1 ≤ m) (h2 : m ≤ 4) : stN n = m ↔ n = m := by
  unfold stN
  split
  · omega
  · split <;> omega
def x0 : S27 := ⟨⟨false, 0, 1⟩, ⟨#[99]⟩, 2, 0, 5, ⟨#[]⟩, 0⟩
end Go.Proofs.YtpcjablkjaiapaaDoor.Ma
namespace Go.Proofs.YtpcjablkjaiapaaDoor.Ma
open Go.RowKit Go.Proofs.YtpcjablkjaiapaaDoorW.PrintWords Go.Proofs.YtpcjablkjaiapaaDoorW.PrintLast Go.Proofs.YtpcjablkjaiapaaDoorW.PrintMore Go.Proofs.YtpcjablkjaiapaaDoor.XP Go.Proofs.YtpcjablkjaiapaaDoor.QA Go.Proofs.YtpcjablkjaiapaaDoor.Cm
set_option linter.unusedVariables false
set_option linter.unusedSimpArgs false
def Tot {α : Type} (g : Nat → Option α) : Prop := ∃ v, Ev g v
theorem tconst {α : Type} {x : Option α} {v : α} (h : x = some v) : Tot (fun _ => x) := ⟨v, Ev_const h⟩
theorem tbind {α β : Type} {g : Nat → Option α} {f : Nat → α → Option β} (h : Tot g) (k : ∀ a, Tot (fun n => f n a)) : Tot (fun n => (g n).bind (f n)) := by
  obtain ⟨v, hv⟩ := h
  obtain ⟨w, hw⟩ := k v
  exact ⟨w, Ev.bind hv hw⟩
theorem tshift {α : Type} {g f : Nat → Option α} (c : Nat) (h : ∀ k, g (k + c) = f k) (e : Tot f) : Tot g := by
  obtain ⟨v, hv⟩ := e
  exact ⟨v, Ev_shift c h hv⟩
def idx {α : Type} (p : α → Bool) : List α → Nat → Int
  | [], _ => -1
  | x :: r, i => if p x = true then (i : Int) else idx p r (i + 1)
theorem idx_any {α : Type} (p : α → Bool) : ∀ (l : List α) (i : Nat), decide (idx p l i ≥ 0) = l.any p
  | [], _ => rfl
  | x :: r, i => by
    unfold idx
    rw [List.any_cons]
    cases hp : p x with
    | true =>
      rw [if_pos rfl, Bool.true_or]
      exact decide_eq_true (by omega)
    | false =>
      rw [if_neg Bool.false_ne_true, Bool.false_or]
      exact idx_any p r (i + 1)
theorem rd57 (l : List S57) (i : Nat) (x : S57) (r : List S57) (h : l.drop i = x :: r) : i < l.length ∧ rd_T57 l (i : Int) = x ∧ l.drop (i + 1) = r := by
  obtain ⟨hi, hx, hr⟩ := drop_at h
  exact ⟨hi, by simp [rd_T57, List.getD_eq_getElem?_getD, List.getElem?_eq_getElem hi, hx], hr⟩
theorem rd53 (l : List S53) (i : Nat) (x : S53) (r : List S53) (h : l.drop i = x :: r) : i < l.length ∧ rd_T53 l (i : Int) = x ∧ l.drop (i + 1) = r := by
  obtain ⟨hi, hx, hr⟩ := drop_at h
  exact ⟨hi, by simp [rd_T53, List.getD_eq_getElem?_getD, List.getElem?_eq_getElem hi, hx], hr⟩
theorem rd83 (l : List S83) (i : Nat) (x : S83) (r : List S83) (h : l.drop i = x :: r) : i < l.length ∧ rd_T83 l (i : Int) = x ∧ l.drop (i + 1) = r := by
  obtain ⟨hi, hx, hr⟩ := drop_at h
  exact ⟨hi, by simp [rd_T83, List.getD_eq_getElem?_getD, List.getElem?_eq_getElem hi, hx], hr⟩
def pin (r : S57) (a : S25) : Bool := decide (cmp r.f0 a ≤ 0) && decide (cmp a r.f1 ≤ 0)
theorem pin_ev (r : S57) (a : S25) : Ev (fun k => pool_in.f k r.f0.f0 r.f0.f1 r.f0.f2 r.f1.f0 r.f1.f1 r.f1.f2 a.f0 a.f1 a.f2) (pin r a) := by
  unfold pool_in.f pin
  refine Ev.bind (ucmp r.f0 a) ?_
  split
  · rename_i h
    rw [decide_eq_true h, Bool.true_and]
    exact Ev.bind (ucmp a r.f1) (Ev_const rfl)
  · rename_i h
    rw [decide_eq_false h, Bool.false_and]
    exact Ev_const rfl
theorem later_v (b : Bool) (n : Int) : ∃ v, prefix_later.f b n = some v := by
  unfold prefix_later.f
  split
  · split
    · rw [if_pos (u64_nn _)]; exact ⟨_, rfl⟩
    · rw [if_pos (u64_nn _)]; exact ⟨_, rfl⟩
  · rw [if_pos (u64_nn _)]; exact ⟨_, rfl⟩
theorem valid_tot (a : S25) (n : Int) : Tot (fun k => prefix_Valid.f k a.f0 a.f1 a.f2 n) := by
  have hj : ∀ b : Bool, Tot (fun k => prefix_Valid.j0 k b a.f0 a.f1 a.f2 n) := by
    intro b
    refine tshift 1 (fun k => by rw [prefix_Valid.j0]) ?_
    split
    · exact tconst rfl
    · obtain ⟨v, hv⟩ := later_v a.f0 n
      simp only [hv, Option.bind_some]
      split
      · exact tconst rfl
      · exact tconst rfl
  unfold prefix_Valid.f
  simp only [ad_v, Option.bind_some]
  split
  · split
    · exact hj _
    · unfold prefix_length.f
      split
      · exact hj _
      · exact hj _
  · exact hj _
theorem bounds_tot (a : S25) (n : Int) : Tot (fun k => prefix_Bounds.f k a.f0 a.f1 a.f2 n) := by
  unfold prefix_Bounds.f
  refine tbind (valid_tot a n) (fun t => ?_)
  split
  · obtain ⟨v, hv⟩ := later_v a.f0 n
    simp only [hv, Option.bind_some]
    exact tconst rfl
  · exact tconst rfl
theorem of_ev (a : S25) (n : Int) : ∃ v, Ev (fun k => prefix_Of.f k a.f0 a.f1 a.f2 n) v ∧ (v.2.2.2.2 = true → adB a = true) := by
  have hj : ∀ b : Bool, Tot (fun k => prefix_Of.j0 k n b a.f0 a.f1 a.f2) := by
    intro b
    refine tshift 1 (fun k => by rw [prefix_Of.j0]) ?_
    split
    · exact tconst rfl
    · obtain ⟨v, hv⟩ := later_v a.f0 n
      simp only [hv, Option.bind_some]
      exact tconst rfl
  unfold prefix_Of.f
  simp only [ad_v, Option.bind_some]
  cases hd : adB a with
  | true =>
    have : Tot (fun k => if a.f0 = a.f0 then (if n < 0 then prefix_Of.j0 k n true a.f0 a.f1 a.f2 else (prefix_length.f a.f0 a.f1 a.f2).bind fun t543 => prefix_Of.j0 k n (decide (n > t543)) a.f0 a.f1 a.f2) else none) := by
      simp only [if_true]
      split
      · exact hj _
      · unfold prefix_length.f
        split
        · exact hj _
        · exact hj _
    obtain ⟨v, hv⟩ := this
    exact ⟨v, by simpa using hv, fun _ => rfl⟩
  | false =>
    simp only [Bool.false_eq_true, if_false]
    refine ⟨(false, 0, 0, 0, false), ?_, fun h => by cases h⟩
    exact Ev_shift 1 (f := fun _ => some (false, 0, 0, 0, false)) (fun k => by rw [prefix_Of.j0, if_pos rfl]) (Ev_const rfl)
theorem contains_ev (p a : S25) (n : Int) : ∃ b, Ev (fun k => prefix_Contains.f k p.f0 p.f1 p.f2 n a.f0 a.f1 a.f2) b ∧ (b = true → a.f0 = p.f0 ∧ adB a = true) := by
  have hf : Ev (fun k => prefix_Contains.j0 k true p.f0 p.f1 p.f2 n a.f0 a.f1 a.f2) false := Ev_shift 1 (f := fun _ => some false) (fun k => by rw [prefix_Contains.j0, if_pos rfl]) (Ev_const rfl)
  obtain ⟨t, ht⟩ := valid_tot p n
  unfold prefix_Contains.f
  cases t with
  | false => exact ⟨false, Ev.bind ht (by simpa using hf), fun h => by cases h⟩
  | true =>
    cases hb : (p.f0 != a.f0) with
    | true => exact ⟨false, Ev.bind ht (by simpa using hf), fun h => by cases h⟩
    | false =>
      obtain ⟨v, hv, hva⟩ := of_ev a n
      have hpa : a.f0 = p.f0 := by
        have : ¬ (p.f0 ≠ a.f0) := by simpa using hb
        exact (Decidable.not_not.1 this).symm
      cases hv5 : v.2.2.2.2 with
      | false =>
        refine ⟨false, Ev.bind ht ?_, fun h => by cases h⟩
        simp only [if_true]
        refine Ev_shift 1 (fun k => by rw [prefix_Contains.j0, if_neg Bool.false_ne_true]) (Ev.bind hv ?_)
        rw [hv5]
        exact Ev_const rfl
      | true =>
        refine ⟨((v.1 == p.f0 && (v.2.1 == p.f1 && (v.2.2.1 == p.f2))) && (v.2.2.2.1 == n)), Ev.bind ht ?_, fun _ => ⟨hpa, hva hv5⟩⟩
        simp only [if_true]
        refine Ev_shift 1 (fun k => by rw [prefix_Contains.j0, if_neg Bool.false_ne_true]) (Ev.bind hv ?_)
        rw [hv5]
        exact Ev_const rfl
theorem leased_ev (p a : S25) (n : Int) : ∃ b, Ev (fun k => pool_leased.f k p.f0 p.f1 p.f2 n a.f0 a.f1 a.f2) b ∧ (b = true → a.f0 = p.f0 ∧ adB a = true) := by
  obtain ⟨v, hv⟩ := bounds_tot p n
  obtain ⟨b, hb, hi⟩ := contains_ev p a n
  unfold pool_leased.f
  cases b with
  | false => exact ⟨false, Ev.bind hv (Ev.bind hb (Ev_const rfl)), fun h => by cases h⟩
  | true =>
    have : Tot (fun k : Nat => if (!(a.f0 == v.1) || (!(a.f1 == v.2.1) || (!(a.f2 == v.2.2.1)))) = true then (some (!(a.f0 == v.2.2.2.1) || (!(a.f1 == v.2.2.2.2.1) || (!(a.f2 == v.2.2.2.2.2.1))))) else (some false)) := by
      split
      · exact tconst rfl
      · exact tconst rfl
    obtain ⟨r, hr⟩ := this
    exact ⟨r, Ev.bind hv (Ev.bind hb hr), fun _ => hi rfl⟩
def ovB (x r : S57) : Bool := pin x r.f0 || pin r x.f0
theorem ov_ev (x r : S57) : Ev (fun k => pool_pools_1.f k x.f0.f0 x.f0.f1 x.f0.f2 x.f1.f0 x.f1.f1 x.f1.f2 r.f0.f0 r.f0.f1 r.f0.f2 r.f1.f0 r.f1.f1 r.f1.f2) (ovB x r) := by
  unfold pool_pools_1.f ovB
  refine Ev.bind (pin_ev x r.f0) ?_
  cases pin x r.f0 with
  | true => exact Ev_const rfl
  | false => exact Ev.bind (pin_ev r x.f0) (Ev_const rfl)
theorem ix66_from (l : List S57) (hl : l.length ≤ 140737488351232) (y : S57) : ∀ (r : List S57) (i : Nat), l.drop i = r → Ev (fun k => slices_IndexFunc_66.l0 k l (l.length : Int) (i : Int) y.f0.f0 y.f0.f1 y.f0.f2 y.f1.f0 y.f1.f1 y.f1.f2) (idx (fun x => ovB x y) r i)
  | [], i, h => by
    have := drop_end h
    exact Ev_shift 1 (f := fun _ => some (-1)) (fun k => by rw [slices_IndexFunc_66.l0, if_neg (by omega)]) (Ev_const rfl)
  | x :: r, i, h => by
    obtain ⟨hi, hx, hr⟩ := rd57 l i x r h
    have ih := ix66_from l hl y r (i + 1) hr
    refine Ev_shift 1 (fun k => by rw [slices_IndexFunc_66.l0, if_pos (by omega), if_pos (by omega), if_pos (by omega), hx, next i l.length hi (by omega)]) ?_
    refine Ev.bind (ov_ev x y) ?_
    unfold idx
    split
    · exact Ev_const rfl
    · exact ih
theorem cf66_ev (l : List S57) (hl : l.length ≤ 140737488351232) (y : S57) : Ev (fun k => slices_ContainsFunc_66.f k l y.f0.f0 y.f0.f1 y.f0.f2 y.f1.f0 y.f1.f1 y.f1.f2) (l.any (fun x => ovB x y)) := by
  unfold slices_ContainsFunc_66.f slices_IndexFunc_66.f
  rw [← idx_any (fun x => ovB x y) l 0]
  exact Ev.bind (ix66_from l hl y l 0 rfl) (Ev_const rfl)
/-- What a pool of a subnet that passes the check is. -/
def goodP (p : S25) (y : S57) : Prop := (y.f0.f0 = p.f0 ∧ adB y.f0 = true) ∧ (y.f1.f0 = p.f0 ∧ adB y.f1 = true) ∧ cmp y.f0 y.f1 ≤ 0
def PO (p : S25) : List S57 → List S57 → Prop
  | _, [] => True
  | pre, y :: r => goodP p y ∧ pre.any (fun x => ovB x y) = false ∧ PO p (pre ++ [y]) r
theorem pools_from (p : S25) (n : Int) (c : ByteArray) (l : List S57) (hl : l.length ≤ 140737488351232) (q : List S53) (o : List S83) (t : Int) : ∀ (r : List S57) (i : Nat), l.drop i = r → ∃ v, Ev (fun k => pool_pools.l0 k l (l.length : Int) (i : Int) p.f0 p.f1 p.f2 n c l q o t) v ∧ (v = 0 → PO p (l.take i) r)
  | [], i, h => by
    have := drop_end h
    exact ⟨0, Ev_shift 1 (f := fun _ => some 0) (fun k => by rw [pool_pools.l0, if_neg (by omega)]) (Ev_const rfl), fun _ => trivial⟩
  | y :: r, i, h => by
    obtain ⟨hi, hy, hr⟩ := rd57 l i y r h
    obtain ⟨v, hv, hp⟩ := pools_from p n c l hl q o t r (i + 1) hr
    have htk : l.take (i + 1) = l.take i ++ [y] := by
      obtain ⟨h1, h2, _⟩ := drop_at h
      rw [List.take_succ_eq_append_getElem h1, h2]
    rw [htk] at hp
    obtain ⟨b1, hb1, hi1⟩ := leased_ev p y.f0 n
    obtain ⟨b2, hb2, hi2⟩ := leased_ev p y.f1 n
    have h3 : Ev (fun k => pool_pools.j1 k (i : Int) l (l.length : Int) (i : Int) true p.f0 p.f1 p.f2 n c l q o t y.f0.f0 y.f0.f1 y.f0.f2 y.f1.f0 y.f1.f1 y.f1.f2) 3 := Ev_shift 1 (f := fun _ => some 3) (fun k => by rw [pool_pools.j1, if_pos rfl]) (Ev_const rfl)
    have hst : ∀ {w : Int}, Ev (fun k => (pool_leased.f k p.f0 p.f1 p.f2 n y.f0.f0 y.f0.f1 y.f0.f2).bind fun t575 => (if t575 = true then ((pool_leased.f k p.f0 p.f1 p.f2 n y.f1.f0 y.f1.f1 y.f1.f2).bind fun t576 => (if t576 = true then ((addr_Compare.f k y.f0.f0 y.f0.f1 y.f0.f2 y.f1.f0 y.f1.f1 y.f1.f2).bind fun t577 => (pool_pools.j1 k (i : Int) l (l.length : Int) (i : Int) (decide (t577 > 0)) p.f0 p.f1 p.f2 n c l q o t y.f0.f0 y.f0.f1 y.f0.f2 y.f1.f0 y.f1.f1 y.f1.f2)) else (pool_pools.j1 k (i : Int) l (l.length : Int) (i : Int) true p.f0 p.f1 p.f2 n c l q o t y.f0.f0 y.f0.f1 y.f0.f2 y.f1.f0 y.f1.f1 y.f1.f2))) else (pool_pools.j1 k (i : Int) l (l.length : Int) (i : Int) true p.f0 p.f1 p.f2 n c l q o t y.f0.f0 y.f0.f1 y.f0.f2 y.f1.f0 y.f1.f1 y.f1.f2))) w → Ev (fun k => pool_pools.l0 k l (l.length : Int) (i : Int) p.f0 p.f1 p.f2 n c l q o t) w := by
      intro w hw
      exact Ev_shift 1 (fun k => by rw [pool_pools.l0, if_pos (by omega), if_pos (by omega), if_pos (by omega), hy]) hw
    cases b1 with
    | false => exact ⟨3, hst (Ev.bind hb1 (by simpa using h3)), fun h => by cases h⟩
    | true =>
      cases b2 with
      | false => exact ⟨3, hst (Ev.bind hb1 (by simp only [if_true]; exact Ev.bind hb2 (by simpa using h3))), fun h => by cases h⟩
      | true =>
        by_cases hc : cmp y.f0 y.f1 > 0
        · refine ⟨3, hst (Ev.bind hb1 ?_), fun h => by cases h⟩
          simp only [if_true]
          refine Ev.bind hb2 ?_
          simp only [if_true]
          refine Ev.bind (ucmp y.f0 y.f1) ?_
          rw [decide_eq_true hc]
          exact h3
        · have hgo : ∀ {w : Int}, Ev (fun k => pool_pools.j1 k (i : Int) l (l.length : Int) (i : Int) false p.f0 p.f1 p.f2 n c l q o t y.f0.f0 y.f0.f1 y.f0.f2 y.f1.f0 y.f1.f1 y.f1.f2) w → Ev (fun k => pool_pools.l0 k l (l.length : Int) (i : Int) p.f0 p.f1 p.f2 n c l q o t) w := by
            intro w hw
            refine hst (Ev.bind hb1 ?_)
            simp only [if_true]
            refine Ev.bind hb2 ?_
            simp only [if_true]
            refine Ev.bind (ucmp y.f0 y.f1) ?_
            rw [decide_eq_false hc]
            exact hw
          have hcf := cf66_ev (l.take i) (by rw [List.length_take]; omega) y
          cases ho : (l.take i).any (fun x => ovB x y) with
          | true =>
            rw [ho] at hcf
            refine ⟨24, hgo ?_, fun h => by cases h⟩
            refine Ev_shift 1 (fun k => by rw [pool_pools.j1, if_neg Bool.false_ne_true, if_pos (by omega), if_pos (by omega), Int.toNat_natCast]) ?_
            exact Ev.bind hcf (Ev_const rfl)
          | false =>
            rw [ho] at hcf
            refine ⟨v, hgo ?_, fun h => ⟨⟨hi1 rfl, hi2 rfl, by omega⟩, ho, hp h⟩⟩
            refine Ev_shift 1 (fun k => by rw [pool_pools.j1, if_neg Bool.false_ne_true, if_pos (by omega), if_pos (by omega), Int.toNat_natCast, next i l.length hi (by omega)]) ?_
            exact Ev.bind hcf (by simpa using hv)
end Go.Proofs.YtpcjablkjaiapaaDoor.Ma
namespace Go.Proofs.YtpcjablkjaiapaaDoor.Ma
open Go.RowKit Go.Proofs.YtpcjablkjaiapaaDoorW.PrintWords Go.Proofs.YtpcjablkjaiapaaDoorW.PrintLast Go.Proofs.YtpcjablkjaiapaaDoorW.PrintMore Go.Proofs.YtpcjablkjaiapaaDoor.XP Go.Proofs.YtpcjablkjaiapaaDoor.QA Go.Proofs.YtpcjablkjaiapaaDoor.Cm
set_option linter.unusedVariables false
set_option linter.unusedSimpArgs false
theorem cl1_v (n : Int) : ∃ b, pool_client_1.f n = some b := by
  unfold pool_client_1.f
  split <;> exact ⟨_, rfl⟩
theorem ix90_tot (l : List Int) (hl : l.length ≤ 140737488355328) : ∀ (r : List Int) (i : Nat), l.drop i = r → Tot (fun k => slices_IndexFunc_90.l0 k l (l.length : Int) (i : Int))
  | [], i, h => by
    have := drop_end h
    exact tshift 1 (f := fun _ => some (-1)) (fun k => by rw [slices_IndexFunc_90.l0, if_neg (by omega)]) (tconst rfl)
  | x :: r, i, h => by
    obtain ⟨hi, hx, hr⟩ := drop_at h
    have ih := ix90_tot l hl r (i + 1) hr
    obtain ⟨b, hb⟩ := cl1_v (rd l (i : Int))
    refine tshift 1 (fun k => by rw [slices_IndexFunc_90.l0, if_pos (by omega), if_pos (by omega), if_pos (by omega), hb, Option.bind_some, next i l.length hi (by omega)]) ?_
    split
    · exact tconst rfl
    · exact ih
theorem client_tot (s : ByteArray) : Tot (fun k => pool_client.f k s) := by
  unfold pool_client.f
  split
  · split
    · rename_i h1 h2
      have hc : conv_bytes_119.f s = some (bytesOf s) := by
        unfold conv_bytes_119.f XC.conv
        rw [if_pos (by omega)]
      simp only [hc, Option.bind_some]
      refine tbind ?_ (fun _ => tconst rfl)
      unfold slices_ContainsFunc_90.f slices_IndexFunc_90.f
      refine tbind (ix90_tot _ ?_ _ 0 rfl) (fun _ => tconst rfl)
      rw [bytesOf_length]
      omega
    · exact tconst rfl
  · exact tconst rfl
theorem ix70_tot (l : List S53) (hl : l.length ≤ 140737488351232) (y : S53) : ∀ (r : List S53) (i : Nat), l.drop i = r → Tot (fun k => slices_IndexFunc_70.l0 k l (l.length : Int) (i : Int) y.f0 y.f1.f0 y.f1.f1 y.f1.f2 y.f2)
  | [], i, h => by
    have := drop_end h
    exact tshift 1 (f := fun _ => some (-1)) (fun k => by rw [slices_IndexFunc_70.l0, if_neg (by omega)]) (tconst rfl)
  | x :: r, i, h => by
    obtain ⟨hi, hx, hr⟩ := rd53 l i x r h
    have ih := ix70_tot l hl y r (i + 1) hr
    have hb : ∃ b, pool_reserved_1.f x.f0 x.f1.f0 x.f1.f1 x.f1.f2 x.f2 y.f0 y.f1.f0 y.f1.f1 y.f1.f2 y.f2 = some b := by
      unfold pool_reserved_1.f
      split <;> exact ⟨_, rfl⟩
    obtain ⟨b, hb⟩ := hb
    refine tshift 1 (fun k => by rw [slices_IndexFunc_70.l0, if_pos (by omega), if_pos (by omega), if_pos (by omega), hx, hb, Option.bind_some, next i l.length hi (by omega)]) ?_
    split
    · exact tconst rfl
    · exact ih
theorem reserved_from (p : S25) (n : Int) (c : ByteArray) (l : List S57) (q : List S53) (hq : q.length ≤ 140737488351232) (ok : ∀ y ∈ q, okS53 y) (o : List S83) (t : Int) : ∀ (r : List S53) (i : Nat), q.drop i = r → Tot (fun k => pool_reserved.l0 k q (q.length : Int) (i : Int) p.f0 p.f1 p.f2 n c l q o t)
  | [], i, h => by
    have := drop_end h
    exact tshift 1 (f := fun _ => some 0) (fun k => by rw [pool_reserved.l0, if_neg (by omega)]) (tconst rfl)
  | y :: r, i, h => by
    obtain ⟨hi, hy, hr⟩ := rd53 q i y r h
    have ih := reserved_from p n c l q hq ok o t r (i + 1) hr
    have hym : y ∈ q := by
      obtain ⟨h1, h2, _⟩ := drop_at h
      rw [← h2]
      exact List.getElem_mem h1
    have hj : ∀ b : Bool, Tot (fun k => pool_reserved.j1 k q (q.length : Int) (i : Int) b p.f0 p.f1 p.f2 n c l q o t) := by
      intro b
      refine tshift 1 (fun k => by rw [pool_reserved.j1, next i q.length hi (by omega)]) ?_
      split
      · exact tconst rfl
      · exact ih
    refine tshift 1 (fun k => by rw [pool_reserved.l0, if_pos (by omega), if_pos (by omega), if_pos (by omega), hy]) ?_
    refine tbind (client_tot y.f0) (fun b1 => ?_)
    split
    · obtain ⟨b2, h2, _⟩ := leased_ev p y.f1 n
      refine tbind ⟨b2, h2⟩ (fun b2 => ?_)
      split
      · simp only [if_pos (show (i : Int) ≤ (q.length : Int) by omega)]
        refine tbind ?_ (fun b3 => ?_)
        · unfold slices_ContainsFunc_70.f slices_IndexFunc_70.f
          exact tbind (ix70_tot _ (by rw [List.length_take]; omega) y _ 0 rfl) (fun _ => tconst rfl)
        · split
          · exact tconst rfl
          · split
            · exact hj _
            · exact tbind ⟨_, name_ev y.f2 (ok y hym).2.2⟩ (fun _ => hj _)
      · exact tconst rfl
    · exact tconst rfl
theorem osize_tot (l : List S83) (hl : l.length ≤ 140737488351232) : ∀ (r : List S83) (i : Nat) (x : Int), l.drop i = r → Tot (fun k => option_size.l0 k x l (l.length : Int) (i : Int))
  | [], i, x, h => by
    have := drop_end h
    exact tshift 1 (f := fun _ => some x) (fun k => by rw [option_size.l0, if_neg (by omega)]) (tconst rfl)
  | y :: r, i, x, h => by
    obtain ⟨hi, hy, hr⟩ := rd83 l i y r h
    exact tshift 1 (fun k => by rw [option_size.l0, if_pos (by omega), if_pos (by omega), if_pos (by omega), next i l.length hi (by omega)]) (osize_tot l hl r (i + 1) _ hr)
theorem ofind_tot (l : List S83) (hl : l.length ≤ 140737488351232) (n : Int) : ∀ (r : List S83) (i : Nat), l.drop i = r → Tot (fun k => option_Find.l0 k n l (l.length : Int) (i : Int))
  | [], i, h => by
    have := drop_end h
    exact tshift 1 (f := fun _ => some (⟨#[]⟩, false)) (fun k => by rw [option_Find.l0, if_neg (by omega)]) (tconst rfl)
  | y :: r, i, h => by
    obtain ⟨hi, hy, hr⟩ := rd83 l i y r h
    refine tshift 1 (fun k => by rw [option_Find.l0, if_pos (by omega), if_pos (by omega), if_pos (by omega), next i l.length hi (by omega)]) ?_
    split
    · exact tconst rfl
    · exact ofind_tot l hl n r (i + 1) hr
theorem ovalid_from (l : List S83) (hl : l.length ≤ 140737488351232) : ∀ (r : List S83) (i : Nat), l.drop i = r → Tot (fun k => option_Valid.l0 k l l (l.length : Int) (i : Int))
  | [], i, h => by
    have := drop_end h
    exact tshift 1 (f := fun _ => some true) (fun k => by rw [option_Valid.l0, if_neg (by omega)]) (tconst rfl)
  | y :: r, i, h => by
    obtain ⟨hi, hy, hr⟩ := rd83 l i y r h
    have ih := ovalid_from l hl r (i + 1) hr
    have hj : ∀ b : Bool, Tot (fun k => option_Valid.j2 k l l (l.length : Int) (i : Int) b) := by
      intro b
      refine tshift 1 (fun k => by rw [option_Valid.j2, next i l.length hi (by omega)]) ?_
      split
      · exact tconst rfl
      · exact ih
    refine tshift 1 (fun k => by rw [option_Valid.l0, if_pos (by omega), if_pos (by omega), if_pos (by omega), if_pos (by omega)]) ?_
    refine tbind ?_ (fun b => ?_)
    · unfold option_Find.f
      exact ofind_tot _ (by rw [List.length_take]; omega) _ _ 0 rfl
    · split
      · exact hj _
      · have hc : ∃ b, option_isCode.f (rd_T83 l (i : Int)).f0 = some b := by
          unfold option_isCode.f
          split <;> exact ⟨_, rfl⟩
        obtain ⟨b, hb⟩ := hc
        simp only [hb, Option.bind_some]
        split
        · exact hj _
        · exact hj _
theorem ovalid_tot (l : List S83) (hl : l.length ≤ 140737488351232) : Tot (fun k => option_Valid.f k l) := by
  have hj : ∀ b : Bool, Tot (fun k => option_Valid.j0 k l b) := by
    intro b
    refine tshift 1 (fun k => by rw [option_Valid.j0]) ?_
    split
    · exact tconst rfl
    · exact ovalid_from l hl l 0 rfl
  unfold option_Valid.f
  split
  · exact hj _
  · refine tbind ?_ (fun _ => hj _)
    unfold option_size.f
    exact osize_tot l hl l 0 0 rfl
theorem pcheck_ev (p : S25) (n : Int) (c : ByteArray) (l : List S57) (hl : l.length ≤ 140737488351232) (q : List S53) (hq : q.length ≤ 140737488351232) (ok : ∀ y ∈ q, okS53 y) (o : List S83) (ho : o.length ≤ 140737488351232) (t : Int) : ∃ v, Ev (fun k => pool_Check.f k p.f0 p.f1 p.f2 n c l q o t) v ∧ (v = 0 → p.f0 = false ∧ PO p [] l) := by
  have h2 : ∀ b : Bool, Tot (fun k => pool_Check.j2 k b) := by
    intro b
    refine tshift 1 (fun k => by rw [pool_Check.j2]) ?_
    split <;> exact tconst rfl
  have h1 : ∀ b : Bool, ∃ v, Ev (fun k => pool_Check.j1 k b p.f0 p.f1 p.f2 n c l q o t) v ∧ (v = 0 → PO p [] l) := by
    intro b
    cases b with
    | true => exact ⟨9, Ev_shift 1 (f := fun _ => some 9) (fun k => by rw [pool_Check.j1, if_pos rfl]) (Ev_const rfl), fun h => by cases h⟩
    | false =>
      obtain ⟨v, hv, hp⟩ := pools_from p n c l hl q o t l 0 rfl
      have hv' : Ev (fun k => pool_pools.f k p.f0 p.f1 p.f2 n c l q o t) v := by
        unfold pool_pools.f
        exact hv
      by_cases h0 : v = 0
      · have : Tot (fun k => (pool_reserved.f k p.f0 p.f1 p.f2 n c l q o t).bind fun t622 => (if t622 = 0 then ((option_Valid.f k o).bind fun t623 => (if t623 = true then (if t < 1 then (pool_Check.j2 k true) else (if t > 1073741824 then (pool_Check.j2 k true) else (pool_Check.j2 k (decide ((c.size : Int) > 255))))) else (pool_Check.j2 k true))) else (some t622))) := by
          refine tbind ?_ (fun b => ?_)
          · unfold pool_reserved.f
            exact reserved_from p n c l q hq ok o t q 0 rfl
          · split
            · refine tbind (ovalid_tot o ho) (fun b => ?_)
              split
              · split
                · exact h2 _
                · split
                  · exact h2 _
                  · exact h2 _
              · exact h2 _
            · exact tconst rfl
        obtain ⟨w, hw⟩ := this
        refine ⟨w, ?_, fun _ => hp h0⟩
        refine Ev_shift 1 (fun k => by rw [pool_Check.j1, if_neg Bool.false_ne_true]) (Ev.bind hv' ?_)
        simp only [if_pos h0]
        exact hw
      · refine ⟨v, ?_, fun h => absurd h h0⟩
        refine Ev_shift 1 (fun k => by rw [pool_Check.j1, if_neg Bool.false_ne_true]) (Ev.bind hv' ?_)
        simp only [if_neg h0]
        exact Ev_const rfl
  have h0 : ∀ b : Bool, ∃ v, Ev (fun k => pool_Check.j0 k b p.f0 p.f1 p.f2 n c l q o t) v ∧ (v = 0 → b = false ∧ PO p [] l) := by
    intro b
    cases b with
    | true => exact ⟨3, Ev_shift 1 (f := fun _ => some 3) (fun k => by rw [pool_Check.j0, if_pos rfl]) (Ev_const rfl), fun h => by cases h⟩
    | false =>
      by_cases h6 : (l.length : Int) > 16
      · obtain ⟨v, hv, hp⟩ := h1 true
        exact ⟨v, Ev_shift 1 (fun k => by rw [pool_Check.j0, if_neg Bool.false_ne_true, if_pos h6]) hv, fun h => ⟨rfl, hp h⟩⟩
      · obtain ⟨v, hv, hp⟩ := h1 (decide ((q.length : Int) > 16))
        exact ⟨v, Ev_shift 1 (fun k => by rw [pool_Check.j0, if_neg Bool.false_ne_true, if_neg h6]) hv, fun h => ⟨rfl, hp h⟩⟩
  obtain ⟨b, hb⟩ := valid_tot p n
  obtain ⟨v3, hv3, hp3⟩ := h0 true
  unfold pool_Check.f
  cases b with
  | false => exact ⟨v3, Ev.bind hb (by simpa using hv3), fun h => by cases (hp3 h).1⟩
  | true =>
    cases hp : p.f0 with
    | true =>
      rw [hp] at hb hv3
      exact ⟨v3, Ev.bind hb (by simpa using hv3), fun h => by cases (hp3 h).1⟩
    | false =>
      obtain ⟨v, hv, hpo⟩ := h0 (decide (n > 30))
      rw [hp] at hb hv
      refine ⟨v, Ev.bind hb ?_, fun h => ⟨rfl, (hpo h).2⟩⟩
      simp only [Bool.false_eq_true, if_false, if_true]
      exact hv
theorem small1 (p : S25) (n : Int) (c : ByteArray) (l : List S57) (q : List S53) (o : List S83) (ho : o.length ≤ 140737488351232) (t : Int) : ∀ (r : List S83) (i : Nat), o.drop i = r → Tot (fun k => ddilaw44_small.l1 k (i : Int) p.f0 p.f1 p.f2 n c l q o t)
  | [], i, h => by
    have := drop_end h
    exact tshift 1 (f := fun _ => some true) (fun k => by rw [ddilaw44_small.l1, if_neg (by omega)]) (tconst rfl)
  | y :: r, i, h => by
    obtain ⟨hi, hy, hr⟩ := rd83 o i y r h
    have ih := small1 p n c l q o ho t r (i + 1) hr
    refine tshift 1 (fun k => by rw [ddilaw44_small.l1, if_pos (by omega), if_pos (by omega), next i o.length hi (by omega)]) ?_
    split
    · exact tconst rfl
    · exact ih
theorem small0 (p : S25) (n : Int) (c : ByteArray) (l : List S57) (q : List S53) (hq : q.length ≤ 140737488351232) (o : List S83) (ho : o.length ≤ 140737488351232) (t : Int) : ∀ (r : List S53) (i : Nat), q.drop i = r → Tot (fun k => ddilaw44_small.l0 k (i : Int) p.f0 p.f1 p.f2 n c l q o t)
  | [], i, h => by
    have := drop_end h
    exact tshift 1 (fun k => by rw [ddilaw44_small.l0, if_neg (by omega)]; rfl) (small1 p n c l q o ho t o 0 rfl)
  | y :: r, i, h => by
    obtain ⟨hi, hy, hr⟩ := rd53 q i y r h
    have ih := small0 p n c l q hq o ho t r (i + 1) hr
    have hj : ∀ b : Bool, Tot (fun k => ddilaw44_small.j2 k (i : Int) b p.f0 p.f1 p.f2 n c l q o t) := by
      intro b
      refine tshift 1 (fun k => by rw [ddilaw44_small.j2, next i q.length hi (by omega)]) ?_
      split
      · exact tconst rfl
      · exact ih
    refine tshift 1 (fun k => by rw [ddilaw44_small.l0, if_pos (by omega), if_pos (by omega)]) ?_
    split
    · exact hj _
    · exact hj _
theorem small_tot (p : S25) (n : Int) (c : ByteArray) (l : List S57) (q : List S53) (hq : q.length ≤ 140737488351232) (o : List S83) (ho : o.length ≤ 140737488351232) (t : Int) : Tot (fun k => ddilaw44_small.f k p.f0 p.f1 p.f2 n c l q o t) := by
  have hj : ∀ b : Bool, Tot (fun k => ddilaw44_small.j0 k b p.f0 p.f1 p.f2 n c l q o t) := by
    intro b
    refine tshift 1 (fun k => by rw [ddilaw44_small.j0]) ?_
    split
    · exact tconst rfl
    · exact small0 p n c l q hq o ho t q 0 rfl
  unfold ddilaw44_small.f
  split
  · exact hj _
  · split
    · exact hj _
    · split
      · exact hj _
      · exact hj _
end Go.Proofs.YtpcjablkjaiapaaDoor.Ma
namespace Go.Proofs.YtpcjablkjaiapaaDoor.Ma
open Go.RowKit Go.Proofs.YtpcjablkjaiapaaDoorW.PrintWords Go.Proofs.YtpcjablkjaiapaaDoorW.PrintLast Go.Proofs.YtpcjablkjaiapaaDoorW.PrintMore Go.Proofs.YtpcjablkjaiapaaDoor.XP Go.Proofs.YtpcjablkjaiapaaDoor.QA Go.Proofs.YtpcjablkjaiapaaDoor.Cm
set_option linter.unusedVariables false
set_option linter.unusedSimpArgs false
theorem rdI (l : List Int) (i : Nat) (x : Int) (r : List Int) (h : l.drop i = x :: r) : i < l.length ∧ rd l (i : Int) = x ∧ l.drop (i + 1) = r := by
  obtain ⟨hi, hx, hr⟩ := drop_at h
  exact ⟨hi, by simp [rd, List.getD_eq_getElem?_getD, List.getElem?_eq_getElem hi, hx], hr⟩
theorem index_from (l : List Int) (hl : l.length ≤ 140737488351232) (v : Int) : ∀ (r : List Int) (i : Nat), l.drop i = r → Ev (fun k => slices_Index.l0 k l v (l.length : Int) (i : Int)) (idx (fun x => decide (v = x)) r i)
  | [], i, h => by
    have := drop_end h
    exact Ev_shift 1 (f := fun _ => some (-1)) (fun k => by rw [slices_Index.l0, if_neg (by omega)]) (Ev_const rfl)
  | x :: r, i, h => by
    obtain ⟨hi, hx, hr⟩ := rdI l i x r h
    have ih := index_from l hl v r (i + 1) hr
    refine Ev_shift 1 (fun k => by rw [slices_Index.l0, if_pos (by omega), if_pos (by omega), if_pos (by omega), hx, next i l.length hi (by omega)]) ?_
    unfold idx
    by_cases hv : v = x
    · rw [if_pos (decide_eq_true hv)]
      simp only [if_pos hv]
      exact Ev_const rfl
    · rw [if_neg (by rw [decide_eq_false hv]; exact Bool.false_ne_true)]
      simp only [if_neg hv]
      exact ih
theorem is_ev (b : Bool) (n u m : Int) (l : List Int) (hl : l.length ≤ 140737488351232) : Ev (fun k => failover_is.f k b n u m l) (l.any (fun x => decide (stN n = x))) := by
  unfold failover_is.f
  refine Ev.bind (state_ev b n u m) ?_
  have : Ev (fun k => slices_Contains.f k l (stN n)) (l.any (fun x => decide (stN n = x))) := by
    unfold slices_Contains.f slices_Index.f
    rw [← idx_any (fun x => decide (stN n = x)) l 0]
    exact Ev.bind (index_from l hl (stN n) l 0 rfl) (Ev_const rfl)
  exact Ev.bind this (Ev_const rfl)
def atB (q : List S53) (a : S25) : Bool := q.any (fun y => ea y.f1 a)
theorem at_from (q : List S53) (hq : q.length ≤ 140737488351232) (a : S25) : ∀ (r : List S53) (i : Nat), q.drop i = r → ∃ v, Ev (fun k => pool_At.l0 k q (q.length : Int) (i : Int) a.f0 a.f1 a.f2) v ∧ v.2.2.2.2.2 = atB r a
  | [], i, h => by
    have := drop_end h
    exact ⟨(⟨#[]⟩, false, 0, 0, ⟨#[]⟩, false), Ev_shift 1 (f := fun _ => some (⟨#[]⟩, false, 0, 0, ⟨#[]⟩, false)) (fun k => by rw [pool_At.l0, if_neg (by omega)]) (Ev_const rfl), rfl⟩
  | y :: r, i, h => by
    obtain ⟨hi, hy, hr⟩ := rd53 q i y r h
    obtain ⟨v, hv, hvb⟩ := at_from q hq a r (i + 1) hr
    unfold atB
    rw [List.any_cons]
    cases he : ea y.f1 a with
    | true =>
      have he' := he
      unfold ea at he'
      exact ⟨(y.f0, y.f1.f0, y.f1.f1, y.f1.f2, y.f2, true), Ev_shift 1 (f := fun _ => some (y.f0, y.f1.f0, y.f1.f1, y.f1.f2, y.f2, true)) (fun k => by rw [pool_At.l0, if_pos (by omega), if_pos (by omega), if_pos (by omega), hy, if_pos he']) (Ev_const rfl), rfl⟩
    | false =>
      have he' := he
      unfold ea at he'
      exact ⟨v, Ev_shift 1 (fun k => by rw [pool_At.l0, if_pos (by omega), if_pos (by omega), if_pos (by omega), hy, if_neg (by rw [he']; exact Bool.false_ne_true), next i q.length hi (by omega)]) hv, by rw [hvb]; rfl⟩
theorem at_ev (p0 : Bool) (p1 p2 n : Int) (c : ByteArray) (l : List S57) (q : List S53) (hq : q.length ≤ 140737488351232) (o : List S83) (t : Int) (a : S25) : ∃ v, Ev (fun k => pool_At.f k p0 p1 p2 n c l q o t a.f0 a.f1 a.f2) v ∧ v.2.2.2.2.2 = atB q a := by
  unfold pool_At.f
  exact at_from q hq a q 0 rfl
theorem ix80_from (l : List S57) (hl : l.length ≤ 140737488351232) (a : S25) : ∀ (r : List S57) (i : Nat), l.drop i = r → Ev (fun k => slices_IndexFunc_80.l0 k l (l.length : Int) (i : Int) a.f0 a.f1 a.f2) (idx (fun x => pin x a) r i)
  | [], i, h => by
    have := drop_end h
    exact Ev_shift 1 (f := fun _ => some (-1)) (fun k => by rw [slices_IndexFunc_80.l0, if_neg (by omega)]) (Ev_const rfl)
  | x :: r, i, h => by
    obtain ⟨hi, hx, hr⟩ := rd57 l i x r h
    have ih := ix80_from l hl a r (i + 1) hr
    refine Ev_shift 1 (fun k => by rw [slices_IndexFunc_80.l0, if_pos (by omega), if_pos (by omega), if_pos (by omega), hx, next i l.length hi (by omega)]) ?_
    have : Ev (fun k => pool_Has_1.f k x.f0.f0 x.f0.f1 x.f0.f2 x.f1.f0 x.f1.f1 x.f1.f2 a.f0 a.f1 a.f2) (pin x a) := by
      unfold pool_Has_1.f
      exact Ev.bind (pin_ev x a) (Ev_const rfl)
    refine Ev.bind this ?_
    unfold idx
    split
    · exact Ev_const rfl
    · exact ih
def inL (l : List S57) (a : S25) : Bool := l.any (fun x => pin x a)
theorem has_ev (p0 : Bool) (p1 p2 n : Int) (c : ByteArray) (l : List S57) (hl : l.length ≤ 140737488351232) (q : List S53) (hq : q.length ≤ 140737488351232) (o : List S83) (t : Int) (a : S25) : Ev (fun k => pool_Has.f k p0 p1 p2 n c l q o t a.f0 a.f1 a.f2) (!atB q a && inL l a) := by
  unfold pool_Has.f
  obtain ⟨v, hv, hb⟩ := at_ev p0 p1 p2 n c l q hq o t a
  refine Ev.bind hv ?_
  rw [hb]
  cases atB q a with
  | true => exact Ev_const rfl
  | false =>
    have : Ev (fun k => slices_ContainsFunc_80.f k l a.f0 a.f1 a.f2) (inL l a) := by
      unfold slices_ContainsFunc_80.f slices_IndexFunc_80.f inL
      rw [← idx_any (fun x => pin x a) l 0]
      exact Ev.bind (ix80_from l hl a l 0 rfl) (Ev_const rfl)
    exact Ev.bind this (Ev_const rfl)
def start (n : Int) : Bool := [0, 4].any (fun x => decide (stN n = x))
/-- What a subnet with some pools and reservations lets a peer lease. -/
theorem mayl_ev (p0 : Bool) (p1 p2 n : Int) (c : ByteArray) (l : List S57) (hl : l.length ≤ 140737488351232) (q : List S53) (hq : q.length ≤ 140737488351232) (o : List S83) (t : Int) (a : S25) : Ev (fun k => (pool_At.f k p0 p1 p2 n c l q o t a.f0 a.f1 a.f2).bind fun bt459 => (if bt459.2.2.2.2.2 = true then (some true) else ((pool_Has.f k p0 p1 p2 n c l q o t a.f0 a.f1 a.f2).bind fun t466 => (some t466)))) (atB q a || inL l a) := by
  obtain ⟨v, hv, hb⟩ := at_ev p0 p1 p2 n c l q hq o t a
  refine Ev.bind hv ?_
  rw [hb]
  have hh := has_ev p0 p1 p2 n c l hl q hq o t a
  cases hq : atB q a with
  | true => exact Ev_const rfl
  | false =>
    rw [hq] at hh
    exact Ev.bind hh (Ev_const (by simp))
theorem clone76 (o : List S83) (ho : o.length * 24 ≤ 140737488351232) : slices_Clone_76.f o = some o := by
  unfold slices_Clone_76.f
  rw [if_pos (by omega)]
theorem leases_start (b : Bool) (m u w : Int) (hs : start m = true) (p0 : Bool) (p1 p2 n : Int) (c : ByteArray) (l : List S57) (q : List S53) (o : List S83) (ho : o.length * 24 ≤ 140737488351232) (t : Int) (a : S25) (now : Int) : Ev (fun k => failover_Leases.f k b m u w p0 p1 p2 n c l q o t a.f0 a.f1 a.f2 now) false := by
  unfold failover_Leases.f
  have : Ev (fun k => failover_Share.f k b m u w p0 p1 p2 n c l q o t now) (p0, p1, p2, n, c, [], [], o, t) := by
    unfold failover_Share.f
    rw [clone76 o ho]
    simp only [Option.bind_some]
    have hi := is_ev b m u w [0, 4] (by simp)
    have hs' : [(0 : Int), 4].any (fun x => decide (stN m = x)) = true := hs
    rw [hs'] at hi
    exact Ev.bind hi (Ev_const rfl)
  refine Ev.bind this ?_
  exact mayl_ev p0 p1 p2 n c [] (by simp) [] (by simp) o t a
theorem wake_ev : Ev (fun k => ddilaw44_awake.f k) true := ⟨60, fun k hk => at_rounds ddilaw44_awake.mono hk (by decide +kernel)⟩
end Go.Proofs.YtpcjablkjaiapaaDoor.Ma
namespace Go.Proofs.YtpcjablkjaiapaaDoor.Ma
open Go.RowKit Go.Proofs.YtpcjablkjaiapaaDoorW.PrintWords Go.Proofs.YtpcjablkjaiapaaDoorW.PrintLast Go.Proofs.YtpcjablkjaiapaaDoorW.PrintMore Go.Proofs.YtpcjablkjaiapaaDoor.XP Go.Proofs.YtpcjablkjaiapaaDoor.QA Go.Proofs.YtpcjablkjaiapaaDoor.Cm
set_option linter.unusedVariables false
set_option linter.unusedSimpArgs false
/-- A range of addresses of version 4. -/
structure V4 (r : S57) : Prop where
  a : r.f0.f0 = false
  b : r.f0.f1 = 0
  c : r.f1.f0 = false
  d : r.f1.f1 = 0
  e : 0 ≤ r.f0.f2
  f : r.f0.f2 ≤ r.f1.f2
  g : r.f1.f2 ≤ 4294967295
theorem wfu {n : Int} (h : (Lit.int .u64 n).wf = true) : 0 ≤ n := by
  have : 0 ≤ n ∧ n ≤ 18446744073709551615 := by simpa [Lit.wf, IntKind.min, IntKind.max, IntKind.signed, IntKind.bits] using h
  omega
theorem ad4 {x : S25} (h : adB x = true) (h0 : x.f0 = false) : x.f1 = 0 ∧ x.f2 ≤ 4294967295 := by
  unfold adB at h
  rw [h0, Bool.false_or, Bool.and_eq_true, decide_eq_true_eq, decide_eq_true_eq] at h
  exact h
theorem cmp4 (x y : Int) : cmp ⟨false, 0, x⟩ ⟨false, 0, y⟩ = if x < y then -1 else (if x > y then 1 else 0) := by
  unfold cmp
  simp
theorem v4_of {p : S25} {y : S57} (hp : p.f0 = false) (h : goodP p y) (ok : okS57 y) : V4 y := by
  obtain ⟨⟨x0, x1, x2⟩, ⟨y0, y1, y2⟩⟩ := y
  obtain ⟨⟨h1, h2⟩, ⟨h3, h4⟩, h5⟩ := h
  simp only [] at h1 h3
  rw [hp] at h1 h3
  subst h1
  subst h3
  obtain ⟨p1, p2⟩ := ad4 h2 rfl
  obtain ⟨q1, q2⟩ := ad4 h4 rfl
  simp only [] at p1 q1 p2 q2
  subst p1
  subst q1
  have h6 := wfu ok.1.2.2
  simp only [cmp4] at h5 h6
  refine ⟨rfl, rfl, rfl, rfl, h6, ?_, q2⟩
  simp only []
  split at h5
  · omega
  · split at h5
    · omega
    · omega
theorem pin4 (r : S57) (h : V4 r) (a : S25) : pin r a = (!a.f0 && (decide (a.f1 = 0) && (decide (r.f0.f2 ≤ a.f2) && decide (a.f2 ≤ r.f1.f2)))) := by
  obtain ⟨⟨x0, x1, x2⟩, ⟨y0, y1, y2⟩⟩ := r
  obtain ⟨h1, h2, h3, h4, _, _, _⟩ := h
  simp only [] at h1 h2 h3 h4
  subst h1
  subst h2
  subst h3
  subst h4
  obtain ⟨a0, a1, a2⟩ := a
  unfold pin
  cases a0 with
  | true =>
    have : cmp ⟨true, a1, a2⟩ ⟨false, 0, y2⟩ = 1 := by simp [cmp]
    rw [this]
    simp
  | false =>
    by_cases h : a1 = 0
    · subst h
      rw [cmp4, cmp4, decide_eq_true (rfl : (0 : Int) = 0), Bool.not_false, Bool.true_and, Bool.true_and]
      congr 1
      · by_cases g : x2 ≤ a2
        · rw [decide_eq_true g]
          split
          · rfl
          · rw [if_neg (by omega)]; rfl
        · rw [decide_eq_false g, if_neg (by omega), if_pos (by omega)]; rfl
      · by_cases g : a2 ≤ y2
        · rw [decide_eq_true g]
          split
          · rfl
          · rw [if_neg (by omega)]; rfl
        · rw [decide_eq_false g, if_neg (by omega), if_pos (by omega)]; rfl
    · rw [decide_eq_false h, Bool.false_and, Bool.and_false]
      by_cases g : 0 < a1
      · have : cmp ⟨false, a1, a2⟩ ⟨false, 0, y2⟩ = 1 := by
          unfold cmp
          simp [h]
          omega
        rw [this]
        simp
      · have : cmp ⟨false, 0, x2⟩ ⟨false, a1, a2⟩ = 1 := by
          unfold cmp
          simp [Ne.symm h]
          omega
        rw [this]
        simp
def partT (b : Bool) (r : S57) : Option S57 :=
  if b = true then some ⟨r.f0, ⟨false, 0, r.f0.f2 + (r.f1.f2 - r.f0.f2) / 2⟩⟩
  else (if (r.f1.f2 - r.f0.f2) / 2 + 1 > r.f1.f2 - r.f0.f2 then none else some ⟨⟨false, 0, r.f0.f2 + ((r.f1.f2 - r.f0.f2) / 2 + 1)⟩, r.f1⟩)
def tupP : Option S57 → Bool × Int × Int × Bool × Int × Int × Bool
  | some y => (y.f0.f0, y.f0.f1, y.f0.f2, y.f1.f0, y.f1.f1, y.f1.f2, true)
  | none => (false, 0, 0, false, 0, 0, false)
theorem val4 (x : Int) (h : x ≤ 4294967295) : addr_Valid.f false 0 x = some true := by
  rw [ad_v ⟨false, 0, x⟩]
  unfold adB
  simp only [decide_eq_true h, decide_eq_true (rfl : (0 : Int) = 0)]
  rfl
theorem sub_v (x y : Int) (h0 : 0 ≤ x) (h1 : x ≤ y) (h2 : y ≤ 4294967295) : bits_Sub64.f y x 0 = some (y - x, 0) := by
  unfold bits_Sub64.f XC.sub64
  rw [if_pos (by omega), if_pos (by omega), if_pos (by omega), if_pos (by omega), if_pos (by omega), if_neg (by omega)]
  congr 2
  omega
theorem add_v (x y : Int) (h0 : 0 ≤ x) (h1 : 0 ≤ y) (h2 : x + y ≤ 4294967295) : bits_Add64.f x y 0 = some (x + y, 0) := by
  unfold bits_Add64.f XC.add64
  rw [if_pos (by omega), if_pos (by omega), if_pos (by omega), if_pos (by omega)]
  congr 2
  · omega
  · omega
theorem asub_ev (x y : Int) (h0 : 0 ≤ x) (h1 : x ≤ y) (h2 : y ≤ 4294967295) : Ev (fun k => addr_Sub.f k false 0 y false 0 x) (y - x, true) := by
  unfold addr_Sub.f
  simp only [val4 y h2, val4 x (by omega), Option.bind_some, if_true]
  refine Ev_shift 1 (fun k => by rw [show (false != false) = false from rfl, addr_Sub.j0, if_neg Bool.false_ne_true, sub_v x y h0 h1 h2, Option.bind_some, sub_v 0 0 (by omega) (by omega) (by omega), Option.bind_some, if_pos rfl]) ?_
  exact Ev_shift 1 (f := fun _ => some (y - x, true)) (fun k => by rw [show ((0 : Int) - 0 != 0) = false from rfl, addr_Sub.j1, if_neg Bool.false_ne_true]) (Ev_const rfl)
theorem aadd_ev (x n : Int) (h0 : 0 ≤ x) (h1 : 0 ≤ n) (h2 : x + n ≤ 4294967295) : Ev (fun k => addr_Add.f k false 0 x n) (false, 0, x + n, true) := by
  unfold addr_Add.f
  simp only [val4 x (by omega), Option.bind_some, if_true, add_v x n h0 h1 h2, add_v 0 0 (by omega) (by omega) (by omega), Int.add_zero, val4 (x + n) h2]
  exact Ev_shift 1 (f := fun _ => some (false, 0, x + n, true)) (fun k => by rw [Bool.not_true, addr_Add.j0, if_neg Bool.false_ne_true]) (Ev_const rfl)
theorem part_ev (b : Bool) (r : S57) (h : V4 r) : Ev (fun k => failover_part.f k b r.f0.f0 r.f0.f1 r.f0.f2 r.f1.f0 r.f1.f1 r.f1.f2) (tupP (partT b r)) := by
  obtain ⟨⟨x0, x1, x2⟩, ⟨y0, y1, y2⟩⟩ := r
  obtain ⟨h1, h2, h3, h4, h5, h6, h7⟩ := h
  simp only [] at h1 h2 h3 h4 h5 h6 h7
  subst h1
  subst h2
  subst h3
  subst h4
  unfold failover_part.f
  refine Ev.bind (asub_ev x2 y2 h5 h6 h7) ?_
  have hd : Int.tdiv (y2 - x2) 2 = (y2 - x2) / 2 := Int.tdiv_eq_ediv_of_nonneg (by omega)
  have e1 : IntKind.u64.wrap (Int.tdiv (y2 - x2) 2) = (y2 - x2) / 2 := by
    rw [hd]
    exact u64_id _ (by omega) (by omega)
  have e2 : IntKind.u64.wrap ((y2 - x2) / 2 + 1) = (y2 - x2) / 2 + 1 := u64_id _ (by omega) (by omega)
  have e3 : IntKind.u64.wrap ((y2 - x2) / 2 + 1 - 1) = (y2 - x2) / 2 := by
    rw [u64_id _ (by omega) (by omega)]
    omega
  simp only [if_true, e1, e2, e3]
  unfold partT
  cases b with
  | true =>
    simp only [if_true]
    exact Ev.bind (aadd_ev x2 ((y2 - x2) / 2) h5 (by omega) (by omega)) (Ev_const rfl)
  | false =>
    simp only [Bool.false_eq_true, if_false]
    by_cases hg : (y2 - x2) / 2 + 1 > y2 - x2
    · rw [if_pos hg]
      simp only [if_pos hg]
      exact Ev_const rfl
    · rw [if_neg hg]
      simp only [if_neg hg]
      exact Ev.bind (aadd_ev x2 ((y2 - x2) / 2 + 1) h5 (by omega) (by omega)) (Ev_const rfl)
def prT (b : Bool) (l : List S57) : List S57 := l.filterMap (partT b)
theorem parts_from (b : Bool) (m u w : Int) (l : List S57) (hl : l.length * 48 ≤ 140737488351232) (hv : ∀ r ∈ l, V4 r) : ∀ (r : List S57) (i : Nat) (q : List S57), l.drop i = r → q.length ≤ i → Ev (fun k => failover_parts.l0 k q l (l.length : Int) (i : Int) b m u w) (q ++ prT b r)
  | [], i, q, h, _ => by
    have := drop_end h
    exact Ev_shift 1 (f := fun _ => some q) (fun k => by rw [failover_parts.l0, if_neg (by omega)]) (Ev_const (by simp [prT]))
  | y :: r, i, q, h, hq => by
    obtain ⟨hi, hy, hr⟩ := rd57 l i y r h
    have hym : y ∈ l := by
      obtain ⟨h1, h2, _⟩ := drop_at h
      rw [← h2]
      exact List.getElem_mem h1
    have ih := fun q hq => parts_from b m u w l hl hv r (i + 1) q hr hq
    refine Ev_shift 1 (fun k => by rw [failover_parts.l0, if_pos (by omega), if_pos (by omega), if_pos (by omega), hy, next i l.length hi (by omega)]) ?_
    refine Ev.bind (part_ev b y (hv y hym)) ?_
    have e : prT b (y :: r) = (match partT b y with | some z => z :: prT b r | none => prT b r) := by
      unfold prT
      rw [List.filterMap_cons]
      cases partT b y <;> rfl
    rw [e]
    cases partT b y with
    | none =>
      simp only [tupP, Bool.false_eq_true, if_false]
      exact ih q (by omega)
    | some z =>
      simp only [tupP, if_true, if_pos (show q.length < 2932031007402 by omega)]
      have := ih (q ++ [z]) (by simp; omega)
      rw [List.append_assoc] at this
      exact this
theorem parts_ev (b : Bool) (m u w : Int) (p0 : Bool) (p1 p2 n : Int) (c : ByteArray) (l : List S57) (hl : l.length * 48 ≤ 140737488351232) (hv : ∀ r ∈ l, V4 r) (q : List S53) (o : List S83) (t : Int) : Ev (fun k => failover_parts.f k b m u w p0 p1 p2 n c l q o t) (prT b l) := by
  unfold failover_parts.f
  exact parts_from b m u w l hl hv l 0 [] rfl (Nat.le_refl _)
theorem prT_len (b : Bool) (l : List S57) : (prT b l).length ≤ l.length := List.length_filterMap_le _ _
theorem mine1_ev (r : S57) (a : S25) : Ev (fun k => failover_Mine_1.f k r.f0.f0 r.f0.f1 r.f0.f2 r.f1.f0 r.f1.f1 r.f1.f2 a.f0 a.f1 a.f2) (pin r a) := pin_ev r a
theorem ix50_from (l : List S57) (hl : l.length ≤ 140737488351232) (a : S25) : ∀ (r : List S57) (i : Nat), l.drop i = r → Ev (fun k => slices_IndexFunc_50.l0 k l (l.length : Int) (i : Int) a.f0 a.f1 a.f2) (idx (fun x => pin x a) r i)
  | [], i, h => by
    have := drop_end h
    exact Ev_shift 1 (f := fun _ => some (-1)) (fun k => by rw [slices_IndexFunc_50.l0, if_neg (by omega)]) (Ev_const rfl)
  | x :: r, i, h => by
    obtain ⟨hi, hx, hr⟩ := rd57 l i x r h
    have ih := ix50_from l hl a r (i + 1) hr
    refine Ev_shift 1 (fun k => by rw [slices_IndexFunc_50.l0, if_pos (by omega), if_pos (by omega), if_pos (by omega), hx, next i l.length hi (by omega)]) ?_
    refine Ev.bind (mine1_ev x a) ?_
    unfold idx
    split
    · exact Ev_const rfl
    · exact ih
theorem mine_ev (b : Bool) (m u w : Int) (p0 : Bool) (p1 p2 n : Int) (c : ByteArray) (l : List S57) (hl : l.length * 48 ≤ 140737488351232) (hv : ∀ r ∈ l, V4 r) (q : List S53) (hq : q.length ≤ 140737488351232) (o : List S83) (t : Int) (a : S25) : Ev (fun k => failover_Mine.f k b m u w p0 p1 p2 n c l q o t a.f0 a.f1 a.f2) (atB q a || inL (prT b l) a) := by
  unfold failover_Mine.f
  obtain ⟨v, hv', hb⟩ := at_ev p0 p1 p2 n c l q hq o t a
  refine Ev.bind hv' ?_
  rw [hb]
  cases atB q a with
  | true => exact Ev_const rfl
  | false =>
    simp only [Bool.false_eq_true, if_false, Bool.false_or]
    refine Ev.bind (parts_ev b m u w p0 p1 p2 n c l hl hv q o t) ?_
    have : Ev (fun k => slices_ContainsFunc_50.f k (prT b l) a.f0 a.f1 a.f2) (inL (prT b l) a) := by
      unfold slices_ContainsFunc_50.f slices_IndexFunc_50.f inL
      rw [← idx_any (fun x => pin x a) (prT b l) 0]
      exact Ev.bind (ix50_from (prT b l) (by have := prT_len b l; omega) a _ 0 rfl) (Ev_const rfl)
    exact Ev.bind this (Ev_const rfl)
theorem leases_ev (b : Bool) (m u w : Int) (p0 : Bool) (p1 p2 n : Int) (c : ByteArray) (l : List S57) (hl : l.length * 48 ≤ 140737488351232) (hv : ∀ r ∈ l, V4 r) (q : List S53) (hq : q.length * 56 ≤ 140737488351232) (o : List S83) (ho : o.length * 24 ≤ 140737488351232) (t : Int) (a : S25) (now : Int) (hd : ¬ (m = 3 ∧ now ≥ u)) : Ev (fun k => failover_Leases.f k b m u w p0 p1 p2 n c l q o t a.f0 a.f1 a.f2 now) (!start m && (atB q a || inL (prT b l) a)) := by
  cases hs : start m with
  | true => exact leases_start b m u w hs p0 p1 p2 n c l q o ho t a now
  | false =>
    have h1 : Ev (fun k => failover_Share.j1 k p0 p1 p2 n c (prT b l) q o t) (p0, p1, p2, n, c, prT b l, q, o, t) := by
      refine Ev_shift 1 (f := fun _ => some (p0, p1, p2, n, c, prT b l, q, o, t)) (fun k => ?_) (Ev_const rfl)
      rw [failover_Share.j1]
      unfold slices_Clone_79.f
      rw [if_pos (by omega)]
      rfl
    have h0 : Ev (fun k => failover_Share.j0 k false b m u w p0 p1 p2 n c l q o t) (p0, p1, p2, n, c, prT b l, q, o, t) := by
      refine Ev_shift 1 (fun k => by rw [failover_Share.j0, if_neg Bool.false_ne_true]) ?_
      exact Ev.bind (parts_ev b m u w p0 p1 p2 n c l hl hv q o t) h1
    have : Ev (fun k => failover_Share.f k b m u w p0 p1 p2 n c l q o t now) (p0, p1, p2, n, c, prT b l, q, o, t) := by
      unfold failover_Share.f
      rw [clone76 o ho]
      simp only [Option.bind_some]
      have hi := is_ev b m u w [0, 4] (by simp)
      have hs' : [(0 : Int), 4].any (fun x => decide (stN m = x)) = false := hs
      rw [hs'] at hi
      refine Ev.bind hi ?_
      simp only [Bool.false_eq_true, if_false]
      refine Ev.bind (is_ev b m u w [3] (by simp)) ?_
      by_cases h3 : m = 3
      · have e3 : stN m = 3 := (st_eq m 3 (by omega) (by omega)).2 h3
        simp only [List.any_cons, List.any_nil, Bool.or_false, decide_eq_true e3, if_true]
        rw [decide_eq_false (fun h => hd ⟨h3, h⟩)]
        exact h0
      · have e3 : ¬ stN m = 3 := fun h => h3 ((st_eq m 3 (by omega) (by omega)).1 h)
        simp only [List.any_cons, List.any_nil, Bool.or_false, decide_eq_false e3, Bool.false_eq_true, if_false]
        exact h0
    unfold failover_Leases.f
    refine Ev.bind this ?_
    rw [Bool.not_false, Bool.true_and]
    exact mayl_ev p0 p1 p2 n c (prT b l) (by have := prT_len b l; omega) q (by omega) o t a
end Go.Proofs.YtpcjablkjaiapaaDoor.Ma
namespace Go.Proofs.YtpcjablkjaiapaaDoor.Ma
open Go.RowKit Go.Proofs.YtpcjablkjaiapaaDoorW.PrintWords Go.Proofs.YtpcjablkjaiapaaDoorW.PrintLast Go.Proofs.YtpcjablkjaiapaaDoorW.PrintMore Go.Proofs.YtpcjablkjaiapaaDoor.XP Go.Proofs.YtpcjablkjaiapaaDoor.QA Go.Proofs.YtpcjablkjaiapaaDoor.Cm
set_option linter.unusedVariables false
set_option linter.unusedSimpArgs false
theorem po_all (p : S25) : ∀ (r pre : List S57), PO p pre r → (∀ y ∈ r, goodP p y) ∧ r.Pairwise (fun x y => ovB x y = false) ∧ ∀ x ∈ pre, ∀ y ∈ r, ovB x y = false
  | [], _, _ => ⟨fun y h => absurd h List.not_mem_nil, List.Pairwise.nil, fun _ _ y h => absurd h List.not_mem_nil⟩
  | y :: r, pre, h => by
    obtain ⟨h1, h2, h3⟩ := h
    obtain ⟨g1, g2, g3⟩ := po_all p r (pre ++ [y]) h3
    rw [List.any_eq_false] at h2
    refine ⟨fun z hz => ?_, List.pairwise_cons.2 ⟨fun z hz => g3 y (List.mem_append_right _ (List.mem_singleton.2 rfl)) z hz, g2⟩, fun x hx z hz => ?_⟩
    · rcases List.mem_cons.1 hz with rfl | hz
      · exact h1
      · exact g1 z hz
    · rcases List.mem_cons.1 hz with rfl | hz
      · simpa using h2 x hx
      · exact g3 x (List.mem_append_left _ hx) z hz
def pp (b : Bool) (a : S25) (r : S57) : Bool := match partT b r with | some z => pin z a | none => false
theorem inL_parts (b : Bool) (a : S25) : ∀ l : List S57, inL (prT b l) a = l.any (pp b a)
  | [] => rfl
  | y :: r => by
    have ih := inL_parts b a r
    unfold inL prT at ih ⊢
    rw [List.filterMap_cons, List.any_cons]
    unfold pp
    cases partT b y with
    | none =>
      simp only [Bool.false_or]
      exact ih
    | some z =>
      simp only [List.any_cons]
      rw [ih]
      rfl
def rng (a : S25) (x y : Int) : Bool := !a.f0 && (decide (a.f1 = 0) && (decide (x ≤ a.f2) && decide (a.f2 ≤ y)))
theorem pin_rng (r : S57) (h : V4 r) (a : S25) : pin r a = rng a r.f0.f2 r.f1.f2 := pin4 r h a
theorem rng_iff (a : S25) (x y : Int) : rng a x y = true ↔ a.f0 = false ∧ a.f1 = 0 ∧ x ≤ a.f2 ∧ a.f2 ≤ y := by
  unfold rng
  simp
theorem pp_t (r : S57) (h : V4 r) (a : S25) : pp true a r = rng a r.f0.f2 (r.f0.f2 + (r.f1.f2 - r.f0.f2) / 2) := by
  obtain ⟨h1, h2, h3, h4, h5, h6, h7⟩ := h
  unfold pp partT
  rw [if_pos rfl]
  have hz : V4 ⟨r.f0, ⟨false, 0, r.f0.f2 + (r.f1.f2 - r.f0.f2) / 2⟩⟩ := ⟨h1, h2, rfl, rfl, h5, (by show r.f0.f2 ≤ r.f0.f2 + (r.f1.f2 - r.f0.f2) / 2; omega), (by show r.f0.f2 + (r.f1.f2 - r.f0.f2) / 2 ≤ 4294967295; omega)⟩
  exact pin_rng _ hz a
theorem pp_f (r : S57) (h : V4 r) (a : S25) : pp false a r = rng a (r.f0.f2 + ((r.f1.f2 - r.f0.f2) / 2 + 1)) r.f1.f2 := by
  obtain ⟨h1, h2, h3, h4, h5, h6, h7⟩ := h
  unfold pp partT
  rw [if_neg Bool.false_ne_true]
  by_cases hg : (r.f1.f2 - r.f0.f2) / 2 + 1 > r.f1.f2 - r.f0.f2
  · rw [if_pos hg]
    symm
    rw [Bool.eq_false_iff]
    intro hr
    rw [rng_iff] at hr
    omega
  · rw [if_neg hg]
    have hz : V4 ⟨⟨false, 0, r.f0.f2 + ((r.f1.f2 - r.f0.f2) / 2 + 1)⟩, r.f1⟩ := ⟨rfl, rfl, h3, h4, (by show 0 ≤ r.f0.f2 + ((r.f1.f2 - r.f0.f2) / 2 + 1); omega), (by show r.f0.f2 + ((r.f1.f2 - r.f0.f2) / 2 + 1) ≤ r.f1.f2; omega), h7⟩
    exact pin_rng _ hz a
theorem single_or (r : S57) (h : V4 r) (a : S25) : pin r a = (pp true a r || pp false a r) := by
  rw [pin_rng r h, pp_t r h, pp_f r h, Bool.eq_iff_iff, Bool.or_eq_true, rng_iff, rng_iff, rng_iff]
  have hf := h.f
  constructor
  · rintro ⟨e1, e2, e3, e4⟩
    by_cases hc : a.f2 ≤ r.f0.f2 + (r.f1.f2 - r.f0.f2) / 2
    · exact .inl ⟨e1, e2, e3, hc⟩
    · exact .inr ⟨e1, e2, by omega, e4⟩
  · rintro (⟨e1, e2, e3, e4⟩ | ⟨e1, e2, e3, e4⟩)
    · exact ⟨e1, e2, by omega, by omega⟩
    · exact ⟨e1, e2, by omega, by omega⟩
theorem single_not (r : S57) (h : V4 r) (a : S25) : ¬ (pp true a r = true ∧ pp false a r = true) := by
  rw [pp_t r h, pp_f r h, rng_iff, rng_iff]
  rintro ⟨⟨_, _, _, h1⟩, ⟨_, _, h2, _⟩⟩
  omega
theorem pp_pin (b : Bool) (r : S57) (h : V4 r) (a : S25) (hp : pp b a r = true) : pin r a = true := by
  rw [single_or r h]
  cases b with
  | true => rw [hp, Bool.true_or]
  | false => rw [hp, Bool.or_true]
theorem no_two (x y : S57) (hx : V4 x) (hy : V4 y) (ho : ovB x y = false) (a : S25) (h1 : pin x a = true) (h2 : pin y a = true) : False := by
  unfold ovB at ho
  rw [Bool.or_eq_false_iff] at ho
  obtain ⟨o1, o2⟩ := ho
  rw [pin_rng x hx, rng_iff] at h1
  rw [pin_rng y hy, rng_iff] at h2
  rw [pin_rng x hx, Bool.eq_false_iff, ne_eq, rng_iff] at o1
  rw [pin_rng y hy, Bool.eq_false_iff, ne_eq, rng_iff] at o2
  have e1 := hx.a
  have e2 := hx.b
  have e3 := hy.a
  have e4 := hy.b
  rcases Int.le_total x.f0.f2 y.f0.f2 with h | h
  · exact o1 ⟨e3, e4, h, by omega⟩
  · exact o2 ⟨e1, e2, h, by omega⟩
theorem apartB (a : S25) (b : Bool) : ∀ l : List S57, (∀ r ∈ l, V4 r) → l.Pairwise (fun x y => ovB x y = false) → ¬ (l.any (pp b a) = true ∧ l.any (pp (!b) a) = true)
  | [], _, _ => fun h => by cases h.1
  | y :: r, hv, hp => by
    obtain ⟨p1, p2⟩ := List.pairwise_cons.1 hp
    have ih := apartB a b r (fun z hz => hv z (List.mem_cons_of_mem _ hz)) p2
    have hy := hv y (List.mem_cons_self ..)
    rw [List.any_cons, List.any_cons, Bool.or_eq_true, Bool.or_eq_true]
    rintro ⟨h1 | h1, h2 | h2⟩
    · have := single_not y hy a
      cases b with
      | true => exact this ⟨h1, h2⟩
      | false => exact this ⟨h2, h1⟩
    · obtain ⟨z, hz, h2⟩ := List.any_eq_true.1 h2
      have hz' := hv z (List.mem_cons_of_mem _ hz)
      exact no_two y z hy hz' (p1 z hz) a (pp_pin _ y hy a h1) (pp_pin _ z hz' a h2)
    · obtain ⟨z, hz, h1⟩ := List.any_eq_true.1 h1
      have hz' := hv z (List.mem_cons_of_mem _ hz)
      exact no_two y z hy hz' (p1 z hz) a (pp_pin _ y hy a h2) (pp_pin _ z hz' a h1)
    · exact ih ⟨h1, h2⟩
theorem wholeB (a : S25) (b : Bool) : ∀ l : List S57, (∀ r ∈ l, V4 r) → inL l a = (l.any (pp b a) || l.any (pp (!b) a))
  | [], _ => rfl
  | y :: r, hv => by
    have ih := wholeB a b r (fun z hz => hv z (List.mem_cons_of_mem _ hz))
    unfold inL at ih ⊢
    rw [List.any_cons, List.any_cons, List.any_cons, ih, single_or y (hv y (List.mem_cons_self ..)) a]
    cases b <;> simp only [Bool.not_true, Bool.not_false] <;> cases pp true a y <;> cases pp false a y <;> cases r.any (pp true a) <;> cases r.any (pp false a) <;> rfl
theorem apart_from (res T : Bool) (pb : Bool) (pn pu pm : Int) (qb : Bool) (qn qu qm : Int) (p0 : Bool) (p1 p2 n : Int) (c : ByteArray) (l : List S57) (hl : l.length ≤ 140737488351232) (hv : ∀ r ∈ l, V4 r) (q : List S53) (o : List S83) (t : Int) (a : S25) (now : Int)
    (hend : ∀ i : Nat, l.length ≤ i → Ev (fun k => ddilaw44_FailoverApart.l0 k res T (i : Int) pb pn pu pm qb qn qu qm p0 p1 p2 n c l q o t a.f0 a.f1 a.f2 now) true) :
    ∀ (r : List S57) (i : Nat) (x : Bool), l.drop i = r → (x || inL r a) = T → Ev (fun k => ddilaw44_FailoverApart.l0 k res x (i : Int) pb pn pu pm qb qn qu qm p0 p1 p2 n c l q o t a.f0 a.f1 a.f2 now) true
  | [], i, x, h, hx => by
    have := drop_end h
    rw [show inL [] a = false from rfl, Bool.or_false] at hx
    rw [hx]
    exact hend i this
  | y :: r, i, x, h, hx => by
    obtain ⟨hi, hy, hr⟩ := rd57 l i y r h
    have hym : y ∈ l := by
      obtain ⟨h1, h2, _⟩ := drop_at h
      rw [← h2]
      exact List.getElem_mem h1
    have ih := fun x hx => apart_from res T pb pn pu pm qb qn qu qm p0 p1 p2 n c l hl hv q o t a now hend r (i + 1) x hr hx
    have hin : inL (y :: r) a = (rng a y.f0.f2 y.f1.f2 || inL r a) := by
      unfold inL
      rw [List.any_cons, pin_rng y (hv y hym)]
    rw [hin] at hx
    refine Ev_shift 1 (fun k => by rw [ddilaw44_FailoverApart.l0, if_pos (by omega), if_pos (by omega), hy, next i l.length hi (by omega)]) ?_
    unfold rng at hx
    cases x with
    | true =>
      simp only [if_true]
      rw [Bool.true_or] at hx
      exact ih true (by rw [Bool.true_or]; exact hx)
    | false =>
      simp only [Bool.false_eq_true, if_false]
      cases h0 : a.f0 with
      | true =>
        rw [h0] at hx ih
        simp only [if_true]
        exact ih false (by simpa using hx)
      | false =>
        rw [h0] at hx ih
        simp only [Bool.false_eq_true, if_false]
        by_cases h1 : a.f1 = 0
        · simp only [if_pos h1]
          by_cases h2 : y.f0.f2 ≤ a.f2
          · simp only [if_pos h2]
            exact ih _ (by simpa [h1, h2] using hx)
          · simp only [if_neg h2]
            exact ih false (by simpa [h1, h2] using hx)
        · simp only [if_neg h1]
          exact ih false (by simpa [h1] using hx)
theorem failoverApart : ddilaw44_FailoverApart.Pure := by
  intro pb pn pu pm qb qn qu qm a0 a1 a2 n c l q o t b0 b1 b2 now _ _ hs _
  obtain ⟨_, _, ⟨hl, _, hlok⟩, ⟨hq, _, hqok⟩, ⟨ho, _, _⟩, _⟩ := hs
  simp only [] at hl hq ho
  refine Ev.rounds (?_ : Ev (fun k => ddilaw44_FailoverApart.f k pb pn pu pm qb qn qu qm a0 a1 a2 n c l q o t b0 b1 b2 now) true)
  unfold ddilaw44_FailoverApart.f
  refine Ev.bind wake_ev ?_
  simp only [if_true]
  have hjt : Ev (fun k => ddilaw44_FailoverApart.j0 k true pb pn pu pm qb qn qu qm a0 a1 a2 n c l q o t b0 b1 b2 now) true := Ev_shift 1 (f := fun _ => some true) (fun k => by rw [ddilaw44_FailoverApart.j0, if_pos rfl]) (Ev_const rfl)
  cases hpq : (pb == qb) with
  | true =>
    simp only [if_true]
    exact hjt
  | false =>
    have hqb : qb = !pb := by
      cases pb <;> cases qb <;> simp_all
    subst hqb
    simp only [Bool.false_eq_true, if_false]
    obtain ⟨sv, hsv⟩ := small_tot ⟨a0, a1, a2⟩ n c l q (by omega) o (by omega) t
    refine Ev.bind hsv ?_
    cases sv with
    | false => exact hjt
    | true =>
      simp only [if_true]
      obtain ⟨v, hv, hp⟩ := pcheck_ev ⟨a0, a1, a2⟩ n c l (by omega) q (by omega) hqok o (by omega) t
      refine Ev.bind hv ?_
      by_cases h0 : v = 0
      · obtain ⟨hp0, hpo⟩ := hp h0
        obtain ⟨g1, g2, _⟩ := po_all ⟨a0, a1, a2⟩ l [] hpo
        have hV : ∀ r ∈ l, V4 r := fun r hr => v4_of hp0 (g1 r hr) (hlok r hr)
        have hb : (v != 0) = false := by simpa using h0
        rw [hb]
        refine Ev_shift 1 (fun k => by rw [ddilaw44_FailoverApart.j0, if_neg Bool.false_ne_true]) ?_
        obtain ⟨av, hav, hab⟩ := at_ev a0 a1 a2 n c l q (by omega) o t ⟨b0, b1, b2⟩
        refine Ev.bind hav ?_
        rw [hab]
        have hA := apartB ⟨b0, b1, b2⟩ pb l hV g2
        have hW := wholeB ⟨b0, b1, b2⟩ pb l hV
        have hm1 := mine_ev pb pn pu pm a0 a1 a2 n c l hl hV q (by omega) o t ⟨b0, b1, b2⟩
        have hm2 := mine_ev (!pb) qn qu qm a0 a1 a2 n c l hl hV q (by omega) o t ⟨b0, b1, b2⟩
        have hl1 := fun hd => leases_ev pb pn pu pm a0 a1 a2 n c l hl hV q hq o ho t ⟨b0, b1, b2⟩ now hd
        have hl2 := fun hd => leases_ev (!pb) qn qu qm a0 a1 a2 n c l hl hV q hq o ho t ⟨b0, b1, b2⟩ now hd
        rw [inL_parts] at hm1 hm2
        simp only [inL_parts] at hl1 hl2
        refine apart_from (atB q ⟨b0, b1, b2⟩) (inL l ⟨b0, b1, b2⟩) pb pn pu pm (!pb) qn qu qm a0 a1 a2 n c l (by omega) hV q o t ⟨b0, b1, b2⟩ now ?_ l 0 false rfl (Bool.false_or _)
        intro i hi
        refine Ev_shift 1 (fun k => by rw [ddilaw44_FailoverApart.l0, if_neg (by omega)]) ?_
        refine Ev.bind hm1 ?_
        refine Ev.bind hm2 ?_
        cases hat : atB q ⟨b0, b1, b2⟩ with
        | true => exact Ev_const rfl
        | false =>
          rw [hW]
          rw [hat] at hl1 hl2
          simp only [Bool.false_or, Bool.false_eq_true, if_false] at hl1 hl2 ⊢
          have hj3 : ∀ b : Bool, (b = false → ¬ (pn = 3 ∧ now ≥ pu) ∧ ¬ (qn = 3 ∧ now ≥ qu)) → Ev (fun k => ddilaw44_FailoverApart.j3 k b pb pn pu pm (!pb) qn qu qm a0 a1 a2 n c l q o t b0 b1 b2 now) true := by
            intro b hbd
            cases b with
            | true => exact Ev_shift 1 (f := fun _ => some true) (fun k => by rw [ddilaw44_FailoverApart.j3, if_pos rfl]) (Ev_const rfl)
            | false =>
              obtain ⟨d1, d2⟩ := hbd rfl
              refine Ev_shift 1 (fun k => by rw [ddilaw44_FailoverApart.j3, if_neg Bool.false_ne_true]) ?_
              refine Ev.bind (hl1 d1) ?_
              cases e1 : (!start pn && l.any (pp pb ⟨b0, b1, b2⟩)) with
              | false => exact Ev_const rfl
              | true =>
                simp only [if_true]
                refine Ev.bind (hl2 d2) ?_
                have : (!start qn && l.any (pp (!pb) ⟨b0, b1, b2⟩)) = false := by
                  rw [Bool.eq_false_iff]
                  intro e2
                  rw [Bool.and_eq_true] at e1 e2
                  exact hA ⟨e1.2, e2.2⟩
                rw [this]
                exact Ev_const rfl
          have hj2 : Ev (fun k => ddilaw44_FailoverApart.j2 k false pb pn pu pm (!pb) qn qu qm a0 a1 a2 n c l q o t b0 b1 b2 now) true := by
            refine Ev_shift 1 (fun k => by rw [ddilaw44_FailoverApart.j2, if_neg Bool.false_ne_true]) ?_
            by_cases h3 : pn = 3
            · simp only [if_pos h3]
              by_cases h4 : now ≥ pu
              · simp only [if_pos h4]
                exact hj3 true (by simp)
              · simp only [if_neg h4]
                by_cases h5 : qn = 3
                · simp only [if_pos h5]
                  exact hj3 _ (fun h => ⟨fun h' => h4 h'.2, fun h' => decide_eq_false_iff_not.1 h h'.2⟩)
                · simp only [if_neg h5]
                  exact hj3 false (fun _ => ⟨fun h' => h4 h'.2, fun h' => h5 h'.1⟩)
            · simp only [if_neg h3]
              by_cases h5 : qn = 3
              · simp only [if_pos h5]
                exact hj3 _ (fun h => ⟨fun h' => h3 h'.1, fun h' => decide_eq_false_iff_not.1 h h'.2⟩)
              · simp only [if_neg h5]
                exact hj3 false (fun _ => ⟨fun h' => h3 h'.1, fun h' => h5 h'.1⟩)
          cases e1 : l.any (pp pb ⟨b0, b1, b2⟩) with
          | true =>
            cases e2 : l.any (pp (!pb) ⟨b0, b1, b2⟩) with
            | true => exact absurd ⟨e1, e2⟩ hA
            | false => exact hj2
          | false =>
            cases e2 : l.any (pp (!pb) ⟨b0, b1, b2⟩) with
            | true => exact hj2
            | false => exact hj2
      · have hb : (v != 0) = true := by simpa using h0
        rw [hb]
        exact hjt
end Go.Proofs.YtpcjablkjaiapaaDoor.Ma
namespace Go.Proofs.YtpcjablkjaiapaaDoor.Pure
theorem FailoverApart : QA.ddilaw44_FailoverApart.Pure := Ma.failoverApart
end Go.Proofs.YtpcjablkjaiapaaDoor.Pure
