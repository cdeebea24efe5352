/- After any calls there is a table, and other entries stay: the pure statement of LeaseTables (no condition but the sizes that every argument has). -/
import Derived.Test.YtonpcojdpfmbkaaDoorQAd1
import Derived.Test.YtonpcojdpfmbkaaDoorXP
import Derived.Test.YtonpcojdpfmbkaaDoorXB
import Derived.Test.YtonpcojdpfmbkaaDoorQAd4
import Derived.Test.YtonpcojdpfmbkaaDoorQAd
import Derived.Test.YtonpcojdpfmbkaaDoorQAd6
namespace Go.Proofs.YtonpcojdpfmbkaaDoor.Cm
open Go.RowKit Go.Proofs.YtonpcojdpfmbkaaDoorW.PrintWords Go.Proofs.YtonpcojdpfmbkaaDoorW.PrintLast Go.Proofs.YtonpcojdpfmbkaaDoorW.PrintMore Go.Proofs.YtonpcojdpfmbkaaDoor.XP Go.Proofs.YtonpcojdpfmbkaaDoor.QA
set_option linter.unusedVariables false
set_option linter.unusedSimpArgs false
/-- A byte of an ordinary label. -/
def okc (c : UInt8) : Bool := (97 ≤ c.toNat && c.toNat ≤ 122) || ((48 ≤ c.toNat && c.toNat ≤ 57) || (c.toNat == 45 || c.toNat == 95))
def ordB (l : List UInt8) : Bool := !l.isEmpty && (decide (l.length ≤ 63) && l.all okc)
theorem bt_at_drop (s : ByteArray) (i : Nat) (c : UInt8) (r : List UInt8) (h : s.data.toList.drop i = c :: r) : i < s.size ∧ bt s (i : Int) = (c.toNat : Int) ∧ s.data.toList.drop (i + 1) = r := by
  obtain ⟨hi, hx, hr⟩ := drop_at h
  refine ⟨by rw [size_data]; exact hi, ?_, hr⟩
  rw [bt_get s i hi, hx]
theorem size_end (s : ByteArray) (i : Nat) (h : s.data.toList.drop i = []) : s.size ≤ i := by rw [size_data]; exact drop_end h
theorem toL (s : ByteArray) : s.toList = s.data.toList := ByteArray.toList_eq s
theorem ord_from (s : ByteArray) (hs : s.size ≤ 140737488351232) : ∀ (r : List UInt8) (i : Nat), s.data.toList.drop i = r → Ev (fun k => dname_ordinary.l0 k s (s.size : Int) (i : Int)) (r.all okc)
  | [], i, h => by
    have := size_end s i h
    refine Ev_shift 1 (f := fun _ => some true) (fun k => ?_) (Ev_const rfl)
    rw [dname_ordinary.l0, if_neg (by omega)]
  | c :: r, i, h => by
    obtain ⟨hi, hb, hr⟩ := bt_at_drop s i c r h
    have ih := ord_from s hs r (i + 1) hr
    have key : ∀ b : Bool, b = !okc c → Ev (fun k => dname_ordinary.j2 k s (s.size : Int) (i : Int) b) (List.all (c :: r) okc) := by
      intro b hbc
      rw [List.all_cons]
      cases hc : okc c with
      | false =>
        rw [hc] at hbc
        subst hbc
        refine Ev_shift 1 (f := fun _ => some false) (fun k => ?_) (Ev_const rfl)
        rw [dname_ordinary.j2]
        rfl
      | true =>
        rw [hc] at hbc
        subst hbc
        rw [Bool.true_and]
        refine Ev_shift 1 (fun k => ?_) ih
        rw [dname_ordinary.j2, next i s.size hi (by omega)]
        rfl
    refine Ev_shift 1 (f := fun k => dname_ordinary.j2 k s (s.size : Int) (i : Int) (!okc c)) (fun k => ?_) (key _ rfl)
    rw [dname_ordinary.l0, if_pos (by omega), if_pos (by omega), if_pos (by omega), hb]
    have hc : okc c = true ↔ (97 ≤ c.toNat ∧ c.toNat ≤ 122) ∨ ((48 ≤ c.toNat ∧ c.toNat ≤ 57) ∨ (c.toNat = 45 ∨ c.toNat = 95)) := by simp [okc]
    have hbn : ((c.toNat : Int) != 95) = !decide (c.toNat = 95) := by
      rw [Bool.eq_iff_iff]
      simp
      omega
    rw [hbn]
    cases hk : okc c with
    | true =>
      have := hc.1 hk
      repeat' split
      all_goals first | rfl | omega | (congr 1; simp; omega)
    | false =>
      have hn : ¬ _ := fun h => Bool.false_ne_true (hk.symm.trans (hc.2 h))
      repeat' split
      all_goals first | rfl | (exfalso; omega) | (congr 1; simp; omega)
theorem ord_ev (s : ByteArray) (hs : s.size ≤ 140737488351232) : Ev (fun k => dname_ordinary.f k s) (ordB s.data.toList) := by
  have hl := size_data s
  unfold dname_ordinary.f
  rw [toL]
  have hj : ∀ b : Bool, b = !(!s.data.toList.isEmpty && decide (s.data.toList.length ≤ 63)) → Ev (fun k => dname_ordinary.j0 k s b) (ordB s.data.toList) := by
    intro b hb
    unfold ordB
    cases h : (!s.data.toList.isEmpty && decide (s.data.toList.length ≤ 63)) with
    | false =>
      rw [h] at hb
      subst hb
      refine Ev_shift 1 (f := fun _ => some false) (fun k => ?_) (Ev_const (by rw [← Bool.and_assoc, h]; rfl))
      rw [dname_ordinary.j0]
      rfl
    | true =>
      rw [h] at hb
      subst hb
      rw [← Bool.and_assoc, h, Bool.true_and]
      refine Ev_shift 1 (fun k => ?_) (ord_from s hs s.data.toList 0 rfl)
      rw [dname_ordinary.j0]
      rfl
  by_cases h0 : s.data.toList = []
  · simp only [if_pos h0]
    exact hj true (by rw [h0]; rfl)
  · simp only [if_neg h0]
    refine hj _ ?_
    have : s.data.toList.isEmpty = false := by simpa using h0
    rw [this, hl]
    simp only [Bool.not_false, Bool.true_and]
    by_cases h : s.data.toList.length ≤ 63
    · rw [decide_eq_true h, decide_eq_false (by omega)]; rfl
    · rw [decide_eq_false h, decide_eq_true (by omega)]; rfl
end Go.Proofs.YtonpcojdpfmbkaaDoor.Cm
namespace Go.Proofs.YtonpcojdpfmbkaaDoor.Cm
open Go.RowKit Go.Proofs.YtonpcojdpfmbkaaDoorW.PrintWords Go.Proofs.YtonpcojdpfmbkaaDoorW.PrintLast Go.Proofs.YtonpcojdpfmbkaaDoorW.PrintMore Go.Proofs.YtonpcojdpfmbkaaDoor.XP Go.Proofs.YtonpcojdpfmbkaaDoor.QA
set_option linter.unusedVariables false
set_option linter.unusedSimpArgs false
def mkB (l : List UInt8) : ByteArray := ⟨l.toArray⟩
theorem mkB_data (l : List UInt8) : (mkB l).data.toList = l := rfl
theorem mkB_of (s : ByteArray) : mkB s.data.toList = s := by
  obtain ⟨⟨l⟩⟩ := s
  rfl
theorem mkB_size (l : List UInt8) : (mkB l).size = l.length := by rw [size_data]; rfl
/-- What lies between the periods; cur is what was read since the last one. -/
def pcs : List UInt8 → List UInt8 → List (List UInt8)
  | cur, [] => [cur]
  | cur, c :: r => if c = 46 then cur :: pcs [] r else pcs (cur ++ [c]) r
def dots (l : List UInt8) : Nat := l.count 46
theorem pcs_len : ∀ (l cur : List UInt8), (pcs cur l).length = dots l + 1
  | [], _ => rfl
  | c :: r, cur => by
    rw [pcs]
    by_cases h : c = 46
    · subst h
      rw [if_pos rfl, List.length_cons, pcs_len r, dots, dots, List.count_cons_self]
    · rw [if_neg h, pcs_len r, dots, dots, List.count_cons_of_ne h]
theorem idx_some : ∀ l : List UInt8, 0 < dots l → ∃ p q, l = p ++ 46 :: q ∧ dots p = 0 ∧ Go.Lib.indexByte l 46 = (p.length : Int)
  | [], h => by cases h
  | c :: r, h => by
    by_cases hc : c = 46
    · subst hc
      exact ⟨[], r, rfl, rfl, rfl⟩
    · have hr : 0 < dots r := by
        rw [dots, List.count_cons_of_ne hc] at h
        exact h
      obtain ⟨p, q, e, hp, hi⟩ := idx_some r hr
      have hb : (c == 46) = false := by simpa using hc
      refine ⟨c :: p, q, by rw [e]; rfl, by rw [dots, List.count_cons_of_ne hc]; exact hp, ?_⟩
      rw [Go.Lib.indexByte, hb, hi]
      have : ((p.length : Int) == -1) = false := by
        rw [beq_eq_false_iff_ne]
        omega
      simp only [this, Bool.false_eq_true, if_false, List.length_cons]
      omega
theorem pcs_front : ∀ (p cur q : List UInt8), dots p = 0 → pcs cur (p ++ 46 :: q) = (cur ++ p) :: pcs [] q
  | [], cur, q, _ => by simp [pcs]
  | c :: p, cur, q, h => by
    have hc : ¬ c = 46 := by
      rintro rfl
      rw [dots, List.count_cons_self] at h
      omega
    have hp : dots p = 0 := by
      rw [dots, List.count_cons_of_ne hc] at h
      exact h
    rw [List.cons_append, pcs, if_neg hc, pcs_front p _ q hp]
    simp
theorem pcs_last : ∀ (p cur : List UInt8), dots p = 0 → pcs cur p = [cur ++ p]
  | [], cur, _ => by simp [pcs]
  | c :: p, cur, h => by
    have hc : ¬ c = 46 := by
      rintro rfl
      rw [dots, List.count_cons_self] at h
      omega
    have hp : dots p = 0 := by
      rw [dots, List.count_cons_of_ne hc] at h
      exact h
    rw [pcs, if_neg hc, pcs_last p _ hp]
    simp
theorem dots_le (l : List UInt8) : dots l ≤ l.length := List.count_le_length
theorem set_at {α : Type} (d : List α) (x e : α) (n : Nat) : (d ++ List.replicate (n + 1) e).set d.length x = d ++ [x] ++ List.replicate n e := by
  rw [List.replicate_succ, List.set_append_right _ _ (Nat.le_refl _), Nat.sub_self, List.set_cons_zero, List.append_assoc]
  rfl
def sep1 : ByteArray := ⟨#[46]⟩
theorem sfind (s : ByteArray) : strings_Index.f s sep1 = some (Go.Lib.indexByte s.data.toList 46) := rfl
theorem scount (s : ByteArray) : strings_Count.f s sep1 = some ((dots s.data.toList : Nat) : Int) := rfl
theorem nx1 (n : Nat) (h : n ≤ 1000000) : wrap64 ((n : Int) + 1) = ((n + 1 : Nat) : Int) := by rw [wrap_id (by omega) (by omega)]; omega
theorem nx0 (n : Nat) (h : n ≤ 1000000) : wrap64 ((n : Int) + 0) = ((n : Nat) : Int) := by rw [wrap_id (by omega) (by omega)]; omega
set_option maxHeartbeats 400000 in
theorem split_from (n : Nat) (hn : n ≤ 1000000) (m : Nat) : ∀ (done : List ByteArray) (s : ByteArray), dots s.data.toList = m → done.length + m = n → s.size ≤ 1000000 →
    Ev (fun k => strings_genSplit.l0 k s sep1 0 (n : Int) (done ++ List.replicate (m + 1) (⟨#[]⟩ : ByteArray)) (done.length : Int)) (done ++ (pcs [] s.data.toList).map mkB) := by
  induction m with
  | zero =>
    intro done s hd hl hs
    have hend : ((done ++ List.replicate (0 + 1) (⟨#[]⟩ : ByteArray)).set done.length s).take (done.length + 1) = done ++ (pcs [] s.data.toList).map mkB := by
      rw [set_at, pcs_last _ _ hd, List.nil_append, List.map_cons, List.map_nil, mkB_of, List.replicate_zero, List.append_nil, List.take_of_length_le (by simp)]
    have hlen : (done ++ List.replicate (0 + 1) (⟨#[]⟩ : ByteArray)).length = done.length + 1 := by simp
    have hw : wrap64 ((done.length : Int) + 1) = ((done.length + 1 : Nat) : Int) := by rw [wrap_id (by omega) (by omega)]; omega
    refine Ev_shift 1 (f := fun _ => some (done ++ (pcs [] s.data.toList).map mkB)) (fun k => ?_) (Ev_const rfl)
    rw [strings_genSplit.l0, if_neg (by omega), if_pos (by omega), hlen, if_pos (by omega), hw, if_pos (by omega), if_pos (by omega), Int.toNat_natCast, Int.toNat_natCast, hend]
  | succ m ih0 =>
    intro done s hd hl hs
    obtain ⟨p, q, e, hp, hi⟩ := idx_some s.data.toList (by omega)
    have hsz := size_data s
    have hsl : s.size = p.length + (q.length + 1) := by rw [hsz, e]; simp
    have hq : dots q = m := by
      have : dots s.data.toList = dots p + (dots q + 1) := by rw [e, dots, List.count_append, List.count_cons_self]; rfl
      omega
    have e1 : (s.extract (p.length + 1) s.size).data.toList = q := by
      rw [data_ext, e, ← List.drop_drop, List.drop_left, List.drop_one, List.tail_cons, List.take_of_length_le (by omega)]
    have e0 : s.extract 0 p.length = mkB p := by
      apply data_inj
      rw [data_ext, e, mkB_data, List.drop_zero, Nat.sub_zero, List.take_left]
    have hsz2 : (s.extract (p.length + 1) s.size).size ≤ 1000000 := by rw [size_data, e1]; omega
    obtain ⟨s2, hs2⟩ : ∃ s2, s2 = s.extract (p.length + 1) s.size := ⟨_, rfl⟩
    rw [← hs2] at e1 hsz2
    have ih := ih0 (done ++ [mkB p]) s2 (by rw [e1]; exact hq) (by rw [List.length_append, List.length_singleton]; omega) hsz2
    rw [e1] at ih
    have g1 : (done.length : Int) < (n : Int) := by omega
    have g2 : ¬ ((p.length : Int) < 0) := by omega
    have g3 : (0 : Int) ≤ ((p.length : Nat) : Int) := by omega
    have g4 : ((p.length : Nat) : Int) ≤ (s.size : Int) := by omega
    have g5 : (0 : Int) ≤ (done.length : Int) := by omega
    have g6 : (done.length : Int) < ((done.length + (m + 2) : Nat) : Int) := by omega
    have g7 : (0 : Int) ≤ ((p.length + 1 : Nat) : Int) := by omega
    have g8 : ((p.length + 1 : Nat) : Int) ≤ (s.size : Int) := by omega
    have g9 : p.length ≤ 1000000 := by omega
    have g10 : done.length ≤ 1000000 := by omega
    have hs1 : ((sep1.size : Nat) : Int) = 1 := rfl
    have hlen : (done ++ List.replicate (m + 1 + 1) (⟨#[]⟩ : ByteArray)).length = done.length + (m + 2) := by simp
    have hr : done ++ (pcs [] s.data.toList).map mkB = done ++ [mkB p] ++ (pcs [] q).map mkB := by
      rw [e, pcs_front p [] q hp, List.nil_append, List.map_cons, List.append_assoc]
      rfl
    rw [hr]
    have hw1 := nx0 p.length g9
    have hw2 := nx1 p.length g9
    have hw3 := nx1 done.length g10
    refine Ev_shift 1 (fun k => ?_) ih
    rw [strings_genSplit.l0, if_pos g1, sfind, hi, Option.bind_some, if_neg g2, hs1, hw1, hw2, hw3, if_pos g3, if_pos g4, if_pos g5, hlen, if_pos g6, if_pos g7, if_pos g8, Int.toNat_natCast, Int.toNat_natCast, Int.toNat_natCast, set_at, e0, List.length_append, List.length_singleton, ← hs2]
theorem split_ev (s : ByteArray) (hs : s.size ≤ 1000000) : Ev (fun k => strings_Split.f k s sep1) ((pcs [] s.data.toList).map mkB) := by
  have hd := dots_le s.data.toList
  have hsz := size_data s
  unfold strings_Split.f strings_genSplit.f
  have h0 : ¬ sep1.toList = ([] : List UInt8) := by rw [toL]; exact List.cons_ne_nil _ _
  simp only [if_neg (show ¬ (-1 : Int) = 0 by omega), if_neg h0, if_pos (show (-1 : Int) < 0 by omega), scount, Option.bind_some]
  have hw : wrap64 (((dots s.data.toList : Nat) : Int) + 1) = ((dots s.data.toList + 1 : Nat) : Int) := by rw [wrap_id (by omega) (by omega)]; omega
  have hw2 : wrap64 ((s.size : Int) + 1) = ((s.size + 1 : Nat) : Int) := by rw [wrap_id (by omega) (by omega)]; omega
  have hm : mn ((dots s.data.toList + 1 : Nat) : Int) ((s.size + 1 : Nat) : Int) = ((dots s.data.toList + 1 : Nat) : Int) := by rw [mn_len, Nat.min_eq_left (by omega)]
  have hw3 : wrap64 (((dots s.data.toList + 1 : Nat) : Int) - 1) = ((dots s.data.toList : Nat) : Int) := by rw [wrap_id (by omega) (by omega)]; omega
  rw [hw]
  refine Ev.bind (a := (pcs [] s.data.toList).map mkB) ?_ (Ev_const rfl)
  refine Ev_shift 1 (fun k => by rw [strings_genSplit.j0, hw2, hm, if_pos (by omega), Int.toNat_natCast, if_pos (by omega), hw3]) ?_
  exact split_from (dots s.data.toList) (by omega) (dots s.data.toList) [] s rfl (by simp) (by omega)
/-- The labels, each by its place. -/
def oks : Bool → List (List UInt8) → Bool
  | _, [] => true
  | first, x :: r => (ordB x || (first && decide (x = [42]))) && oks false r
theorem labels_from (l : List (List UInt8)) (hl : l.length ≤ 1000001) (hsz : ∀ x ∈ l, x.length ≤ 1000000) : ∀ (r : List (List UInt8)) (i : Nat), l.drop i = r →
    Ev (fun k => dname_Valid.l0 k (l.map mkB) (((l.map mkB).length : Nat) : Int) (i : Int)) (oks (decide (i = 0)) r)
  | [], i, h => by
    have := drop_end h
    refine Ev_shift 1 (f := fun _ => some true) (fun k => ?_) (Ev_const rfl)
    rw [dname_Valid.l0, if_neg (by rw [List.length_map]; omega)]
  | x :: r, i, h => by
    obtain ⟨hi, hx, hr⟩ := drop_at h
    have hlm : (l.map mkB).length = l.length := List.length_map _
    have hrd : rdOf ByteArray.empty (l.map mkB) (i : Int) = mkB x := by
      simp [rdOf, List.getD_eq_getElem?_getD, List.getElem?_eq_getElem hi, hx]
    have ih := labels_from l hl hsz r (i + 1) hr
    have hxs : (mkB x).size ≤ 140737488351232 := by
      have := hsz x (hx ▸ List.getElem_mem hi)
      rw [mkB_size]
      omega
    have key : ∀ b : Bool, b = !(ordB x || (decide (i = 0) && decide (x = [42]))) → Ev (fun k => dname_Valid.j2 k (l.map mkB) (((l.map mkB).length : Nat) : Int) (i : Int) b) (oks (decide (i = 0)) (x :: r)) := by
      intro b hb
      rw [oks]
      cases hk : (ordB x || (decide (i = 0) && decide (x = [42]))) with
      | false =>
        rw [hk] at hb
        subst hb
        refine Ev_shift 1 (f := fun _ => some false) (fun k => ?_) (Ev_const rfl)
        rw [dname_Valid.j2]
        rfl
      | true =>
        rw [hk] at hb
        subst hb
        rw [Bool.true_and]
        have hi1 : decide (i + 1 = 0) = false := decide_eq_false (by omega)
        rw [hi1] at ih
        refine Ev_shift 1 (fun k => ?_) ih
        rw [dname_Valid.j2, next i l.length hi (by omega)]
        rfl
    refine Ev_shift 1 (fun k => by rw [dname_Valid.l0, if_pos (by omega), if_pos (by omega), if_pos (by omega), hrd]) ?_
    refine Ev.bind (ord_ev (mkB x) hxs) ?_
    rw [mkB_data]
    cases ho : ordB x with
    | true =>
      simp only [if_true]
      exact key false (by rw [ho]; rfl)
    | false =>
      simp only [Bool.false_eq_true, if_false]
      by_cases h0 : i = 0
      · subst h0
        simp only [if_neg (show ¬ ((0 : Nat) : Int) > 0 by omega)]
        refine key _ ?_
        rw [ho, toL, mkB_data]
        by_cases h42 : x = [42]
        · simp [h42]
        · have : (x != [42]) = true := by simpa using h42
          rw [this]
          simp [h42]
      · simp only [if_pos (show (i : Int) > 0 by omega)]
        exact key true (by rw [ho]; simp [h0])
end Go.Proofs.YtonpcojdpfmbkaaDoor.Cm
namespace Go.Proofs.YtonpcojdpfmbkaaDoor.Cm
open Go.RowKit Go.Proofs.YtonpcojdpfmbkaaDoorW.PrintWords Go.Proofs.YtonpcojdpfmbkaaDoorW.PrintLast Go.Proofs.YtonpcojdpfmbkaaDoorW.PrintMore Go.Proofs.YtonpcojdpfmbkaaDoor.XP Go.Proofs.YtonpcojdpfmbkaaDoor.QA
set_option linter.unusedVariables false
set_option linter.unusedSimpArgs false
/-- A domain name, by its bytes. -/
def nameB (l : List UInt8) : Bool := decide (l = [46]) || (decide (2 ≤ l.length ∧ l.length ≤ 254) && (decide (l.getLast? = some 46) && oks true (pcs [] l.dropLast)))
theorem wsub1 (n : Nat) (h : 1 ≤ n) (h2 : n ≤ 140737488351232) : wrap64 ((n : Int) - 1) = ((n - 1 : Nat) : Int) := by
  rw [wrap_id (by omega) (by omega)]
  omega
theorem suffix_val (s : ByteArray) (hs : s.size ≤ 1000000) : strings_HasSuffix.f s sep1 = some (decide (s.data.toList.getLast? = some 46)) := by
  have hsz := size_data s
  unfold strings_HasSuffix.f stringslite_HasSuffix.f
  have h1 : sep1.size = 1 := rfl
  rw [h1]
  by_cases h0 : 1 ≤ s.size
  · have hw : wrap64 ((s.size : Int) - ((1 : Nat) : Int)) = ((s.size - 1 : Nat) : Int) := by rw [wrap_id (by omega) (by omega)]; omega
    rw [if_pos (by omega), hw, if_pos (by omega), if_pos (by omega), Int.toNat_natCast, Option.bind_some, toL, toL]
    have hi : s.size - 1 < s.data.toList.length := by omega
    have e : (s.extract (s.size - 1) s.size).data.toList = [s.data.toList[s.size - 1]] := by
      rw [data_ext, List.drop_eq_getElem_cons hi, List.drop_eq_nil_of_le (by omega), List.take_of_length_le (by simp; omega)]
    rw [e, List.getLast?_eq_getElem?, ← hsz, List.getElem?_eq_getElem hi]
    congr 1
    rw [Bool.eq_iff_iff, beq_iff_eq, decide_eq_true_eq]
    show [_] = [46] ↔ _
    simp
  · have : s.data.toList = [] := List.length_eq_zero_iff.1 (by omega)
    rw [if_neg (by omega), Option.bind_some, this]
    rfl
theorem pcs_small : ∀ (l cur : List UInt8) (x : List UInt8), x ∈ pcs cur l → x.length ≤ cur.length + l.length
  | [], cur, x, h => by simp [pcs] at h; subst h; simp
  | c :: r, cur, x, h => by
    rw [pcs] at h
    split at h
    · rcases List.mem_cons.1 h with h | h
      · subst h; simp
      · have := pcs_small r [] x h; simp at this ⊢; omega
    · have := pcs_small r _ x h; simp at this ⊢; omega
theorem name_ev (s : ByteArray) (hs : s.size ≤ 140737488351232) : Ev (fun k => dname_Valid.f k s) (nameB s.data.toList) := by
  have hsz := size_data s
  unfold dname_Valid.f nameB
  rw [toL]
  by_cases h46 : s.data.toList = [46]
  · simp only [if_pos h46, h46, decide_true, Bool.true_or]
    exact Ev_const rfl
  · simp only [h46, if_false, decide_false, Bool.false_or]
    by_cases hbig : (s.size : Int) ≥ 255
    · simp only [if_pos hbig]
      have : decide (2 ≤ s.data.toList.length ∧ s.data.toList.length ≤ 254) = false := decide_eq_false (by omega)
      rw [this, Bool.false_and]
      exact Ev_shift 1 (f := fun _ => some false) (fun k => by rw [dname_Valid.j0, if_pos rfl]) (Ev_const rfl)
    · simp only [if_neg hbig]
      have hsf := suffix_val s (by omega)
      simp only [show (⟨#[46]⟩ : ByteArray) = sep1 from rfl, hsf, Option.bind_some]
      cases hl : decide (s.data.toList.getLast? = some 46) with
      | false =>
        rw [Bool.false_and, Bool.and_false]
        exact Ev_shift 1 (f := fun _ => some false) (fun k => by rw [dname_Valid.j0]; rfl) (Ev_const rfl)
      | true =>
        have hl' := of_decide_eq_true hl
        have hn2 : 2 ≤ s.data.toList.length := by
          cases hd : s.data.toList with
          | nil => rw [hd] at hl'; cases hl'
          | cons c r =>
            cases r with
            | nil =>
              rw [hd] at hl'
              have hl2 : c = 46 := by simpa using hl'
              exact absurd (by rw [hd, hl2]) h46
            | cons => simp
        have : decide (2 ≤ s.data.toList.length ∧ s.data.toList.length ≤ 254) = true := decide_eq_true (by omega)
        rw [this, Bool.true_and, Bool.true_and]
        refine Ev_shift 1 (fun k => by rw [dname_Valid.j0, Bool.not_true, if_neg (by decide), wsub1 s.size (by rw [hsz]; omega) hs, if_pos (by omega), if_pos (by omega), Int.toNat_natCast]) ?_
        have he : (s.extract 0 (s.size - 1)).data.toList = s.data.toList.dropLast := by
          rw [data_ext, List.drop_zero, Nat.sub_zero, List.dropLast_eq_take, hsz]
        have hes : (s.extract 0 (s.size - 1)).size ≤ 254 := by rw [size_data, he, List.length_dropLast]; omega
        have hsp := split_ev (s.extract 0 (s.size - 1)) (by omega)
        rw [he] at hsp
        refine Ev.bind hsp ?_
        have hdl : s.data.toList.dropLast.length ≤ 254 := by rw [List.length_dropLast]; omega
        have := labels_from (pcs [] s.data.toList.dropLast) (by have := pcs_len s.data.toList.dropLast []; have := dots_le s.data.toList.dropLast; omega) (fun x hx => by have := pcs_small _ _ x hx; simp at this; omega) _ 0 rfl
        exact this
/-! ### the reference's -/
end Go.Proofs.YtonpcojdpfmbkaaDoor.Cm
namespace Go.Proofs.YtonpcojdpfmbkaaDoor.Cm
open Go.RowKit Go.Proofs.YtonpcojdpfmbkaaDoorW.PrintWords Go.Proofs.YtonpcojdpfmbkaaDoorW.PrintLast Go.Proofs.YtonpcojdpfmbkaaDoorW.PrintMore Go.Proofs.YtonpcojdpfmbkaaDoor.XP Go.Proofs.YtonpcojdpfmbkaaDoor.QA
set_option linter.unusedVariables false
set_option linter.unusedSimpArgs false
def ea (a x : S29) : Bool := a.f0 == x.f0 && (a.f1 == x.f1 && (a.f2 == x.f2))
theorem ea_iff (a x : S29) : ea a x = true ↔ a = x := by
  obtain ⟨a0, a1, a2⟩ := a
  obtain ⟨x0, x1, x2⟩ := x
  simp [ea]
theorem ea_self (a : S29) : ea a a = true := (ea_iff a a).2 rfl
theorem ea_ne (a x : S29) : ea a x = false ↔ a ≠ x := by
  rw [← Bool.not_eq_true, ea_iff]
def cmp (a b : S29) : Int := if (a.f0 != b.f0) = true then (if b.f0 = true then -1 else 1) else (if a.f1 = b.f1 then (if a.f2 < b.f2 then -1 else (if a.f2 > b.f2 then 1 else 0)) else (if a.f1 < b.f1 then -1 else 1))
theorem num (a b : Int) : addr_number.f a b = some (if a < b then -1 else (if a > b then 1 else 0)) := by
  unfold addr_number.f
  repeat' split
  all_goals rfl
theorem ucmp (a b : S29) : Ev (fun k => addr_Compare.f k a.f0 a.f1 a.f2 b.f0 b.f1 b.f2) (cmp a b) := by
  refine Ev_shift 1 (f := fun _ => some (cmp a b)) (fun k => ?_) (Ev_const rfl)
  unfold addr_Compare.f addr_Compare.j0 cmp
  simp only [num]
  cases h0 : a.f0 <;> cases h1 : b.f0 <;> simp
  all_goals
    by_cases h : a.f1 = b.f1
    · simp [h]
    · simp only [h, if_false]
      by_cases h2 : a.f1 < b.f1
      · simp [h2]
      · simp [h2]
        omega
theorem cmp_zero (a b : S29) : cmp a b = 0 ↔ a = b := by
  obtain ⟨a0, a1, a2⟩ := a
  obtain ⟨b0, b1, b2⟩ := b
  simp only [cmp, S29.mk.injEq]
  cases a0 <;> cases b0 <;> simp <;> repeat' split
  all_goals omega
theorem cmp_self (a : S29) : cmp a a = 0 := (cmp_zero a a).2 rfl
theorem cmp_flip (a b : S29) : cmp b a = -cmp a b := by
  obtain ⟨a0, a1, a2⟩ := a
  obtain ⟨b0, b1, b2⟩ := b
  simp only [cmp]
  cases a0 <;> cases b0 <;> simp <;> repeat' split
  all_goals omega
theorem cmp_trans {a b c : S29} : cmp a b < 0 → cmp b c < 0 → cmp a c < 0 := by
  obtain ⟨a0, a1, a2⟩ := a
  obtain ⟨b0, b1, b2⟩ := b
  obtain ⟨c0, c1, c2⟩ := c
  simp only [cmp]
  cases a0 <;> cases b0 <;> cases c0 <;> simp <;> repeat' split
  all_goals omega
end Go.Proofs.YtonpcojdpfmbkaaDoor.Cm
namespace Go.Proofs.YtonpcojdpfmbkaaDoor.Ma
open Go.RowKit Go.Proofs.YtonpcojdpfmbkaaDoorW.PrintWords Go.Proofs.YtonpcojdpfmbkaaDoorW.PrintLast Go.Proofs.YtonpcojdpfmbkaaDoorW.PrintMore Go.Proofs.YtonpcojdpfmbkaaDoor.XP Go.Proofs.YtonpcojdpfmbkaaDoor.QA Go.Proofs.YtonpcojdpfmbkaaDoor.Cm
set_option linter.unusedVariables false
set_option linter.unusedSimpArgs false
def vis (c : UInt8) : Bool := decide (33 ≤ c.toNat) && decide (c.toNat ≤ 126)
def szB (n : Nat) : Bool := decide (1 ≤ n) && decide (n ≤ 32)
theorem vis_at (c : UInt8) {β : Type} (g : Bool → β) : (if (c.toNat : Int) < 33 then g true else g (decide ((c.toNat : Int) > 126))) = g (!vis c) := by
  unfold vis
  split
  · rw [decide_eq_false (show ¬ 33 ≤ c.toNat by omega)]; rfl
  · rw [decide_eq_true (show 33 ≤ c.toNat by omega), Bool.true_and]
    congr 1
    rw [Bool.eq_iff_iff]
    simp
    omega
theorem cli_from (s : ByteArray) (hs : s.size ≤ 140737488351232) : ∀ (r : List UInt8) (i : Nat), s.data.toList.drop i = r → Ev (fun k => lease_isClient.l0 k s (i : Int)) (r.all vis && szB s.size)
  | [], i, h => by
    have := size_end s i h
    refine Ev_shift 1 (f := fun _ => some (szB s.size)) (fun k => ?_) (Ev_const rfl)
    rw [lease_isClient.l0, if_neg (by omega)]
    unfold szB
    by_cases h1 : 1 ≤ s.size
    · rw [if_pos (by omega), decide_eq_true h1, Bool.true_and]
      congr 1
      rw [Bool.eq_iff_iff]
      simp
      omega
    · rw [if_neg (by omega), decide_eq_false h1]; rfl
  | c :: r, i, h => by
    obtain ⟨hi, hb, hr⟩ := bt_at_drop s i c r h
    have ih := cli_from s hs r (i + 1) hr
    refine Ev_shift 1 (f := fun k => lease_isClient.j1 k s (i : Int) (!vis c)) (fun k => ?_) ?_
    · rw [lease_isClient.l0, if_pos (by omega), if_pos (by omega), hb]
      exact vis_at c (fun b => lease_isClient.j1 k s (i : Int) b)
    · rw [List.all_cons]
      cases vis c with
      | false => exact Ev_shift 1 (f := fun _ => some false) (fun k => by rw [lease_isClient.j1]; rfl) (Ev_const rfl)
      | true =>
        rw [Bool.true_and]
        exact Ev_shift 1 (fun k => by rw [lease_isClient.j1, next i s.size hi (by omega)]; rfl) ih
def cliB (s : ByteArray) : Bool := s.data.toList.all vis && szB s.size
theorem cli_ev (s : ByteArray) (hs : s.size ≤ 140737488351232) : Ev (fun k => lease_isClient.f k s) (cliB s) := by
  unfold lease_isClient.f
  exact cli_from s hs s.data.toList 0 rfl
def hostB (s : ByteArray) : Bool := decide (s.data.toList = []) || nameB s.data.toList
theorem host_ev (s : ByteArray) (hs : s.size ≤ 140737488351232) : Ev (fun k => lease_isHost.f k s) (hostB s) := by
  unfold lease_isHost.f hostB
  rw [toL]
  by_cases h : s.data.toList = []
  · simp only [if_pos h, h, decide_true, Bool.true_or, if_true]
    exact Ev_const rfl
  · simp only [h, decide_false, Bool.false_or, if_false]
    exact Ev.bind (name_ev s hs) (Ev_const rfl)
def timeB (t : Int) : Bool := decide (0 ≤ t) && decide (t ≤ 4294967295)
theorem time_v (t : Int) : lease_isTime.f t = some (timeB t) := by
  unfold lease_isTime.f timeB
  by_cases h : t ≥ 0
  · rw [if_pos h, decide_eq_true h, Bool.true_and]
  · rw [if_neg h, decide_eq_false h]; rfl
theorem xid_v (t : Int) : lease_isXID.f t = some (timeB t) := by
  unfold lease_isXID.f timeB
  by_cases h : t ≥ 0
  · rw [if_pos h, decide_eq_true h, Bool.true_and]
    congr 1
    rw [Bool.eq_iff_iff]
    simp
    omega
  · rw [if_neg h, decide_eq_false h]; rfl
def adB (x : S29) : Bool := x.f0 || (decide (x.f1 = 0) && decide (x.f2 ≤ 4294967295))
theorem ad_v (x : S29) : addr_Valid.f x.f0 x.f1 x.f2 = some (adB x) := by
  unfold addr_Valid.f adB
  by_cases h : x.f0 = true
  · rw [if_pos h, h]; rfl
  · have : x.f0 = false := by simpa using h
    rw [if_neg h, this, Bool.false_or]
    by_cases h1 : x.f1 = 0
    · rw [if_pos h1, decide_eq_true h1, Bool.true_and]
    · rw [if_neg h1, decide_eq_false h1]; rfl
/-- A lease's own form: 3 the address, 1 the arguments, 2 the name, 0 in order. -/
def argB (x : S41) : Bool := decide (1 ≤ x.f2) && (decide (x.f2 ≤ 5) && (cliB x.f1 && (timeB x.f6 && (timeB x.f3 && (timeB x.f4 && decide (x.f3 ≤ x.f4))))))
def one (x : S41) : Int := if adB x.f0 = true then (if argB x = true then (if hostB x.f5 = true then 0 else 2) else 1) else 3
def upB : Option S29 → S29 → Bool
  | none, _ => true
  | some p, a => decide (cmp p a < 0)
def chk (p : Option S29) : List S41 → Int
  | [] => 0
  | x :: r => if adB x.f0 = true then (if upB p x.f0 = true then (if one x = 0 then chk (some x.f0) r else one x) else 7) else 3
end Go.Proofs.YtonpcojdpfmbkaaDoor.Ma
namespace Go.Proofs.YtonpcojdpfmbkaaDoor.Ma
open Go.RowKit Go.Proofs.YtonpcojdpfmbkaaDoorW.PrintWords Go.Proofs.YtonpcojdpfmbkaaDoorW.PrintLast Go.Proofs.YtonpcojdpfmbkaaDoorW.PrintMore Go.Proofs.YtonpcojdpfmbkaaDoor.XP Go.Proofs.YtonpcojdpfmbkaaDoor.QA Go.Proofs.YtonpcojdpfmbkaaDoor.Cm
set_option linter.unusedVariables false
set_option linter.unusedSimpArgs false
theorem rd41 (l : List S41) (i : Nat) (x : S41) (r : List S41) (h : l.drop i = x :: r) : i < l.length ∧ rd_T41 l (i : Int) = x ∧ l.drop (i + 1) = r := by
  obtain ⟨hi, hx, hr⟩ := drop_at h
  refine ⟨hi, ?_, hr⟩
  simp [rd_T41, List.getD_eq_getElem?_getD, List.getElem?_eq_getElem hi, hx]
theorem one_true (x : S41) (h1 : adB x.f0 = true) : one x = if argB x = true then (if hostB x.f5 = true then 0 else 2) else 1 := by
  unfold one
  rw [if_pos h1]
theorem j3_ev (l : List S41) (n i : Int) (x : S41) (hx : okS41 x) (R : Int) (hR : Ev (fun k => lease_Check.l0 k l l n (wrap64 (i + 1))) R) (b : Bool) : Ev (fun k => lease_Check.j3 k l l n i b x.f0.f0 x.f0.f1 x.f0.f2 x.f1 x.f2 x.f3 x.f4 x.f5 x.f6) (if b = true then 1 else (if hostB x.f5 = true then R else 2)) := by
  cases b with
  | true => exact Ev_shift 1 (f := fun _ => some 1) (fun k => by rw [lease_Check.j3, if_pos rfl]) (Ev_const rfl)
  | false =>
    refine Ev_shift 1 (fun k => by rw [lease_Check.j3, if_neg Bool.false_ne_true]) ?_
    refine Ev.bind (host_ev x.f5 hx.2.2.2.2.2.1) ?_
    cases hostB x.f5 with
    | false => exact Ev_const rfl
    | true => exact hR
theorem j2_ev (l : List S41) (n i : Int) (x : S41) (hx : okS41 x) (R : Int) (hR : Ev (fun k => lease_Check.l0 k l l n (wrap64 (i + 1))) R) (b : Bool) : Ev (fun k => lease_Check.j2 k l l n i b x.f0.f0 x.f0.f1 x.f0.f2 x.f1 x.f2 x.f3 x.f4 x.f5 x.f6) (if b = true then 1 else (if (timeB x.f3 && (timeB x.f4 && decide (x.f3 ≤ x.f4))) = true then (if hostB x.f5 = true then R else 2) else 1)) := by
  cases b with
  | true => exact Ev_shift 1 (f := fun _ => some 1) (fun k => by rw [lease_Check.j2, if_pos rfl]) (Ev_const rfl)
  | false =>
    refine Ev_shift 1 (fun k => by rw [lease_Check.j2, if_neg Bool.false_ne_true, time_v, time_v]) ?_
    have h3 := j3_ev l n i x hx R hR
    cases timeB x.f3 with
    | false => exact h3 true
    | true =>
      cases timeB x.f4 with
      | false => exact h3 true
      | true =>
        by_cases h : x.f3 ≤ x.f4
        · rw [decide_eq_true h]
          have := h3 (decide (x.f3 > x.f4))
          rw [decide_eq_false (show ¬ x.f3 > x.f4 by omega)] at this
          simp only [Option.bind_some, if_true, decide_eq_false (show ¬ x.f3 > x.f4 by omega)]
          exact this
        · rw [decide_eq_false h]
          have := h3 (decide (x.f3 > x.f4))
          rw [decide_eq_true (show x.f3 > x.f4 by omega)] at this
          simp only [Option.bind_some, if_true, decide_eq_true (show x.f3 > x.f4 by omega)]
          exact this
theorem j1_ev (l : List S41) (n i : Int) (x : S41) (hx : okS41 x) (had : adB x.f0 = true) (R : Int) (hR : Ev (fun k => lease_Check.l0 k l l n (wrap64 (i + 1))) R) (u b : Bool) (hb : b = !u) : Ev (fun k => lease_Check.j1 k l l n i b x.f0.f0 x.f0.f1 x.f0.f2 x.f1 x.f2 x.f3 x.f4 x.f5 x.f6) (if u = true then (if one x = 0 then R else one x) else 7) := by
  subst hb
  cases u with
  | false => exact Ev_shift 1 (f := fun _ => some 7) (fun k => by rw [lease_Check.j1, Bool.not_false, if_pos rfl]) (Ev_const rfl)
  | true =>
    have h2 := j2_ev l n i x hx R hR
    have hg : (if one x = 0 then R else one x) = if (!(decide (1 ≤ x.f2) && (decide (x.f2 ≤ 5) && (cliB x.f1 && timeB x.f6)))) = true then 1 else (if (timeB x.f3 && (timeB x.f4 && decide (x.f3 ≤ x.f4))) = true then (if hostB x.f5 = true then R else 2) else 1) := by
      rw [one_true x had]
      unfold argB
      cases decide (1 ≤ x.f2) <;> cases decide (x.f2 ≤ 5) <;> cases cliB x.f1 <;> cases timeB x.f6 <;> cases timeB x.f3 <;> cases timeB x.f4 <;> cases decide (x.f3 ≤ x.f4) <;> cases hostB x.f5 <;> rfl
    rw [if_pos rfl, hg]
    refine Ev_shift 1 (fun k => by rw [lease_Check.j1, Bool.not_true, if_neg Bool.false_ne_true]) ?_
    by_cases h1 : x.f2 < 1
    · simp only [if_pos h1, decide_eq_false (show ¬ 1 ≤ x.f2 by omega), Bool.false_and, Bool.not_false]
      exact h2 true
    · simp only [if_neg h1, decide_eq_true (show 1 ≤ x.f2 by omega), Bool.true_and]
      by_cases h5 : x.f2 > 5
      · simp only [if_pos h5, decide_eq_false (show ¬ x.f2 ≤ 5 by omega), Bool.false_and, Bool.not_false]
        exact h2 true
      · simp only [if_neg h5, decide_eq_true (show x.f2 ≤ 5 by omega), Bool.true_and]
        refine Ev.bind (cli_ev x.f1 hx.2.1) ?_
        cases cliB x.f1 with
        | false => exact h2 true
        | true =>
          simp only [if_true, xid_v, Option.bind_some, Bool.true_and]
          exact h2 _
theorem check_from (l : List S41) (hl : l.length ≤ 140737488351232) (ok : ∀ y ∈ l, okS41 y) : ∀ (r : List S41) (i : Nat) (p : Option S29), l.drop i = r → (i = 0 → p = none) → (∀ j : Nat, i = j + 1 → p = some (rd_T41 l (j : Int)).f0) → Ev (fun k => lease_Check.l0 k l l (l.length : Int) (i : Int)) (chk p r)
  | [], i, p, h, _, _ => by
    have := drop_end h
    exact Ev_shift 1 (f := fun _ => some 0) (fun k => by rw [lease_Check.l0, if_neg (by omega)]) (Ev_const rfl)
  | x :: r, i, p, h, hp0, hp1 => by
    obtain ⟨hi, hx, hr⟩ := rd41 l i x r h
    have hxl : x ∈ l := List.mem_of_mem_drop (i := i) (by rw [h]; exact List.mem_cons_self ..)
    have ih := check_from l hl ok r (i + 1) (some x.f0) hr (fun e => by omega) (fun j e => by
      have : j = i := by omega
      rw [this, hx])
    rw [← next i l.length hi (by omega)] at ih
    unfold chk
    cases had : adB x.f0 with
    | false => exact Ev_shift 1 (f := fun _ => some 3) (fun k => by rw [lease_Check.l0, if_pos (by omega), if_pos (by omega), if_pos (by omega), hx, ad_v, had]; rfl) (Ev_const rfl)
    | true =>
      rw [if_pos rfl]
      have h1 := j1_ev l (l.length : Int) (i : Int) x (ok x hxl) had _ ih (upB p x.f0)
      cases i with
      | zero =>
        rw [hp0 rfl]
        refine Ev_shift 1 (fun k => by rw [lease_Check.l0, if_pos (by omega), if_pos (by omega), if_pos (by omega), hx, ad_v, had, Option.bind_some, if_pos rfl, if_neg (by omega)]) ?_
        rw [hp0 rfl] at h1
        exact h1 false rfl
      | succ j =>
        have hpj := hp1 j rfl
        have hj : (wrap64 (((j + 1 : Nat) : Int) - 1)) = (j : Int) := wsub1 (j + 1) (by omega) (by omega)
        have e0 : (0 : Int) ≤ (j : Int) := by omega
        have e1 : (j : Int) < (l.length : Int) := by omega
        have e2 : ((j + 1 : Nat) : Int) > 0 := by omega
        refine Ev_shift 1 (fun k => by rw [lease_Check.l0, if_pos (by omega), if_pos (by omega), if_pos (by omega), hx, ad_v, had, Option.bind_some, if_pos rfl, if_pos e2, hj, if_pos e0, if_pos e1]) ?_
        refine Ev.bind (ucmp (rd_T41 l (j : Int)).f0 x.f0) ?_
        refine h1 _ ?_
        rw [hpj]
        unfold upB
        rw [Bool.eq_iff_iff]
        simp
/-- The check of a table. -/
def chkT (l : List S41) : Int := if l.length > 512 then 9 else chk none l
theorem check_ev (l : List S41) (hl : l.length ≤ 140737488351232) (ok : ∀ y ∈ l, okS41 y) : Ev (fun k => lease_Check.f k l) (chkT l) := by
  unfold lease_Check.f chkT
  by_cases h : l.length > 512
  · simp only [if_pos h, if_pos (show (l.length : Int) > 512 by omega)]
    exact Ev_const rfl
  · simp only [if_neg h, if_neg (show ¬ (l.length : Int) > 512 by omega)]
    exact check_from l hl ok l 0 none rfl (fun _ => rfl) (fun j e => by omega)
end Go.Proofs.YtonpcojdpfmbkaaDoor.Ma
namespace Go.Proofs.YtonpcojdpfmbkaaDoor.Ma
open Go.RowKit Go.Proofs.YtonpcojdpfmbkaaDoorW.PrintWords Go.Proofs.YtonpcojdpfmbkaaDoorW.PrintLast Go.Proofs.YtonpcojdpfmbkaaDoorW.PrintMore Go.Proofs.YtonpcojdpfmbkaaDoor.XP Go.Proofs.YtonpcojdpfmbkaaDoor.QA Go.Proofs.YtonpcojdpfmbkaaDoor.Cm
set_option linter.unusedVariables false
set_option linter.unusedSimpArgs false
def Srt (l : List S41) : Prop := l.Pairwise fun x y => cmp x.f0 y.f0 < 0
theorem chk_srt : ∀ (l : List S41) (p : Option S29), chk p l = 0 → (∀ q, p = some q → ∀ x ∈ l, cmp q x.f0 < 0) ∧ Srt l
  | [], p, _ => ⟨fun _ _ x hx => absurd hx List.not_mem_nil, List.Pairwise.nil⟩
  | x :: r, p, h => by
    unfold chk at h
    split at h
    · split at h
      · split at h
        · rename_i h1 h2 h3
          obtain ⟨i1, i2⟩ := chk_srt r (some x.f0) h
          refine ⟨?_, List.pairwise_cons.2 ⟨fun y hy => i1 _ rfl y hy, i2⟩⟩
          rintro q rfl y hy
          have hq : cmp q x.f0 < 0 := of_decide_eq_true h2
          rcases List.mem_cons.1 hy with rfl | hy
          · exact hq
          · exact cmp_trans hq (i1 _ rfl y hy)
        · rename_i h3
          exact absurd h h3
      · cases h
    · cases h
theorem chkT_zero (l : List S41) (h : chkT l = 0) : l.length ≤ 512 ∧ Srt l := by
  unfold chkT at h
  split at h
  · cases h
  · exact ⟨by omega, (chk_srt l none h).2⟩
def pos (a : S29) : List S41 → Nat
  | [] => 0
  | x :: r => if cmp x.f0 a < 0 then pos a r + 1 else 0
theorem pos_le (a : S29) : ∀ l : List S41, pos a l ≤ l.length
  | [] => Nat.le_refl _
  | x :: r => by
    have := pos_le a r
    unfold pos
    split
    · simp; omega
    · simp
theorem pos_iff (a : S29) : ∀ (l : List S41) (_ : Srt l) (q : Nat) (h : q < l.length), cmp (l[q]).f0 a < 0 ↔ q < pos a l
  | [], _, q, h => by simp at h
  | x :: r, hs, q, h => by
    obtain ⟨h1, h2⟩ := List.pairwise_cons.1 hs
    unfold pos
    cases q with
    | zero =>
      simp only [List.getElem_cons_zero]
      split
      · rename_i hc; exact ⟨fun _ => by omega, fun _ => hc⟩
      · rename_i hc; exact ⟨fun h => absurd h hc, fun h => absurd h (by omega)⟩
    | succ q =>
      simp only [List.getElem_cons_succ]
      have hq : q < r.length := by simpa using h
      have ih := pos_iff a r h2 q hq
      split
      · rw [ih]; omega
      · rename_i hc
        exact ⟨fun h => absurd (cmp_trans (h1 _ (List.getElem_mem hq)) h) hc, fun h => absurd h (by omega)⟩
def get (a : S29) (l : List S41) : Option S41 := l.find? fun x => ea x.f0 a
theorem get_none_of_gt (a : S29) (x : S41) : ∀ r : List S41, (∀ y ∈ r, cmp x.f0 y.f0 < 0) → ¬ cmp x.f0 a < 0 → get a r = none := by
  intro r h hn
  unfold get
  rw [List.find?_eq_none]
  intro y hy he
  have := (ea_iff _ _).1 he
  have h1 := h y hy
  rw [this] at h1
  exact hn h1
theorem get_pos (a : S29) : ∀ (l : List S41), Srt l → get a l = match l[pos a l]? with | some x => if ea x.f0 a = true then some x else none | none => none
  | [], _ => rfl
  | x :: r, hs => by
    obtain ⟨h1, h2⟩ := List.pairwise_cons.1 hs
    have ih := get_pos a r h2
    by_cases hc : cmp x.f0 a < 0
    · have he : ea x.f0 a = false := by
        rw [ea_ne]
        intro e
        rw [e, cmp_self] at hc
        omega
      have hp : pos a (x :: r) = pos a r + 1 := by rw [pos, if_pos hc]
      rw [hp, List.getElem?_cons_succ, ← ih]
      unfold get
      rw [List.find?_cons, he]
    · have hp : pos a (x :: r) = 0 := by rw [pos, if_neg hc]
      rw [hp, List.getElem?_cons_zero]
      have hr := get_none_of_gt a x r h1 hc
      unfold get at hr ⊢
      rw [List.find?_cons]
      cases he : ea x.f0 a with
      | true => simp only [he, if_true]
      | false => simp only [hr, he, Bool.false_eq_true, if_false]
theorem mid (i j : Nat) (h : i + j ≤ 1000000000000000) : wrap64 ((IntKind.u64.wrap (wrap64 ((i : Int) + (j : Int)))) / 2) = (((i + j) / 2 : Nat) : Int) := by
  rw [wrap_id (x := (i : Int) + (j : Int)) (by omega) (by omega), IntKind.wrap_u64]
  rw [wrap_id (by omega) (by omega)]
  omega
theorem pl1 (x : S41) (a : S29) : Ev (fun k => lease_place_1.f k x.f0.f0 x.f0.f1 x.f0.f2 x.f1 x.f2 x.f3 x.f4 x.f5 x.f6 a.f0 a.f1 a.f2) (cmp x.f0 a) := by
  unfold lease_place_1.f
  exact Ev.bind (ucmp x.f0 a) (Ev_const rfl)
theorem rdAt (l : List S41) (q : Nat) (h : q < l.length) : rd_T41 l (q : Int) = l[q] := by
  simp [rd_T41, List.getD_eq_getElem?_getD, List.getElem?_eq_getElem h]
theorem wnext (q : Nat) (h : q ≤ 1000000000000000) : wrap64 ((q : Int) + 1) = ((q + 1 : Nat) : Int) := by
  rw [wrap_id (by omega) (by omega)]
  omega
theorem bs_from (l : List S41) (hl : l.length ≤ 140737488351232) (hs : Srt l) (a : S29) : ∀ (d i j : Nat), j - i ≤ d → i ≤ pos a l → pos a l ≤ j → j ≤ l.length → Ev (fun k => slices_BinarySearchFunc_69.l0 k l (l.length : Int) (i : Int) (j : Int) a.f0 a.f1 a.f2) ((pos a l : Int), (get a l).isSome)
  | d, i, j, hd, hi, hj, hjl => by
    by_cases hij : i < j
    · have hm : (i + j) / 2 < l.length := by omega
      have e0 : (i : Int) < (j : Int) := by omega
      have e1 : (0 : Int) ≤ (((i + j) / 2 : Nat) : Int) := by omega
      have e2 : (((i + j) / 2 : Nat) : Int) < (l.length : Int) := by omega
      have hmw := mid i j (by omega)
      have hpi := pos_iff a l hs ((i + j) / 2) hm
      have hwn := wnext ((i + j) / 2) (by omega)
      cases d with
      | zero => exact absurd hd (by omega)
      | succ d =>
        have ihl : ((i + j) / 2 < pos a l) → Ev (fun k => slices_BinarySearchFunc_69.l0 k l (l.length : Int) (((i + j) / 2 + 1 : Nat) : Int) (j : Int) a.f0 a.f1 a.f2) ((pos a l : Int), (get a l).isSome) := fun h => bs_from l hl hs a d _ j (by clear hmw hwn; omega) (by clear hmw hwn; omega) hj hjl
        have ihr : ¬ ((i + j) / 2 < pos a l) → Ev (fun k => slices_BinarySearchFunc_69.l0 k l (l.length : Int) (i : Int) (((i + j) / 2 : Nat) : Int) a.f0 a.f1 a.f2) ((pos a l : Int), (get a l).isSome) := fun h => bs_from l hl hs a d i _ (by clear hmw hwn; omega) hi (by clear hmw hwn; omega) (by clear hmw hwn; omega)
        refine Ev_shift 1 (fun k => by rw [slices_BinarySearchFunc_69.l0, if_pos e0, hmw, if_pos e1, if_pos e2, rdAt l _ hm]) ?_
        refine Ev.bind (pl1 (l[(i + j) / 2]) a) ?_
        by_cases hc : cmp (l[(i + j) / 2]).f0 a < 0
        · simp only [if_pos hc, hwn]
          exact ihl (hpi.1 hc)
        · simp only [if_neg hc]
          exact ihr (fun h => hc (hpi.2 h))
    · have hip : pos a l = i := by omega
      have e0 : ¬ (i : Int) < (j : Int) := by omega
      rw [get_pos a l hs, hip]
      by_cases hil : i < l.length
      · have e1 : (i : Int) < (l.length : Int) := by omega
        have e2 : (0 : Int) ≤ (i : Int) := by omega
        refine Ev_shift 1 (fun k => by rw [slices_BinarySearchFunc_69.l0, if_neg e0, if_pos e1, if_pos e2, if_pos e1, rdAt l _ hil]) ?_
        refine Ev.bind (pl1 (l[i]) a) (Ev_const ?_)
        rw [List.getElem?_eq_getElem hil]
        congr 2
        show (cmp (l[i]).f0 a == 0) = _
        simp only []
        cases he : ea (l[i]).f0 a with
        | true =>
          rw [(ea_iff _ _).1 he, cmp_self]
          rfl
        | false =>
          have := (ea_ne _ _).1 he
          have h0 : ¬ cmp (l[i]).f0 a = 0 := fun h => this ((cmp_zero _ _).1 h)
          simpa using h0
      · have e1 : ¬ (i : Int) < (l.length : Int) := by omega
        refine Ev_shift 1 (f := fun _ => some ((i : Int), false)) (fun k => by rw [slices_BinarySearchFunc_69.l0, if_neg e0, if_neg e1]) (Ev_const ?_)
        rw [List.getElem?_eq_none (by omega)]
        rfl
theorem place_ev (l : List S41) (hl : l.length ≤ 140737488351232) (hs : Srt l) (a : S29) : Ev (fun k => lease_place.f k l a.f0 a.f1 a.f2) ((pos a l : Int), (get a l).isSome) := by
  unfold lease_place.f slices_BinarySearchFunc_69.f
  exact Ev.bind (bs_from l hl hs a l.length 0 l.length (by omega) (by omega) (pos_le a l) (Nat.le_refl _)) (Ev_const rfl)
/-- A found entry as Find hands it back. -/
def tup : Option S41 → Bool × Int × Int × ByteArray × Int × Int × Int × ByteArray × Int × Bool
  | some x => (x.f0.f0, x.f0.f1, x.f0.f2, x.f1, x.f2, x.f3, x.f4, x.f5, x.f6, true)
  | none => (false, 0, 0, ⟨#[]⟩, 0, 0, 0, ⟨#[]⟩, 0, false)
theorem find_ev (l : List S41) (hl : l.length ≤ 140737488351232) (hs : Srt l) (a : S29) : Ev (fun k => lease_Find.f k l a.f0 a.f1 a.f2) (tup (get a l)) := by
  unfold lease_Find.f
  refine Ev.bind (place_ev l hl hs a) ?_
  have hg := get_pos a l hs
  by_cases hp : pos a l < l.length
  · rw [List.getElem?_eq_getElem hp] at hg
    simp only [] at hg
    split at hg
    · rw [hg]
      simp only [Option.isSome_some, if_true, if_pos (show (0 : Int) ≤ (pos a l : Int) by omega), if_pos (show (pos a l : Int) < (l.length : Int) by omega), rdAt l _ hp]
      exact Ev_const rfl
    · rw [hg]
      exact Ev_const rfl
  · rw [List.getElem?_eq_none (by omega)] at hg
    rw [hg]
    exact Ev_const rfl
def forB (x : S41) (t : Int) : Bool := decide (t < x.f4) && (decide (x.f2 = 1) || (decide (x.f2 = 2) || decide (x.f2 = 5)))
def freeB (x : S41) (c : ByteArray) (t : Int) : Bool := !forB x t || (decide (x.f2 ≠ 5) && decide (x.f1.data.toList = c.data.toList))
theorem force_v (x : S41) (t : Int) : lease_inForce.f x.f0.f0 x.f0.f1 x.f0.f2 x.f1 x.f2 x.f3 x.f4 x.f5 x.f6 t = some (forB x t) := by
  unfold lease_inForce.f forB
  by_cases h : t < x.f4
  · rw [if_pos h, decide_eq_true h, Bool.true_and]
    by_cases h1 : x.f2 = 1
    · rw [if_pos h1, decide_eq_true h1]; rfl
    · rw [if_neg h1, decide_eq_false h1, Bool.false_or]
      by_cases h2 : x.f2 = 2
      · rw [if_pos h2, decide_eq_true h2]; rfl
      · rw [if_neg h2, decide_eq_false h2, Bool.false_or]
        rfl
  · rw [if_neg h, decide_eq_false h]; rfl
theorem free_v (x : S41) (c : ByteArray) (t : Int) : lease_free.f x.f0.f0 x.f0.f1 x.f0.f2 x.f1 x.f2 x.f3 x.f4 x.f5 x.f6 c t = some (freeB x c t) := by
  unfold lease_free.f freeB
  rw [force_v, Option.bind_some, toL, toL]
  cases forB x t with
  | false => rfl
  | true =>
    rw [if_pos rfl]
    by_cases h : x.f2 = 5
    · rw [if_pos h, decide_eq_false (by omega)]; rfl
    · rw [if_neg h, decide_eq_true (by omega)]
      congr 1
      rw [Bool.eq_iff_iff]
      simp
def frB (o : Option S41) (c : ByteArray) (t : Int) : Bool := match o with | some x => freeB x c t | none => true
theorem free_ev (l : List S41) (hl : l.length ≤ 140737488351232) (hs : Srt l) (a : S29) (c : ByteArray) (t : Int) : Ev (fun k => lease_Free.f k l a.f0 a.f1 a.f2 c t) (frB (get a l) c t) := by
  unfold lease_Free.f
  refine Ev.bind (find_ev l hl hs a) ?_
  cases get a l with
  | none => exact Ev_const rfl
  | some x =>
    simp only [tup, if_true, free_v, Option.bind_some]
    exact Ev_const rfl
end Go.Proofs.YtonpcojdpfmbkaaDoor.Ma
namespace Go.Proofs.YtonpcojdpfmbkaaDoor.Ma
open Go.RowKit Go.Proofs.YtonpcojdpfmbkaaDoorW.PrintWords Go.Proofs.YtonpcojdpfmbkaaDoorW.PrintLast Go.Proofs.YtonpcojdpfmbkaaDoorW.PrintMore Go.Proofs.YtonpcojdpfmbkaaDoor.XP Go.Proofs.YtonpcojdpfmbkaaDoor.QA Go.Proofs.YtonpcojdpfmbkaaDoor.Cm
set_option linter.unusedVariables false
set_option linter.unusedSimpArgs false
/-- The first entry that is out of force, from i on; -1 where there is none. -/
def low (t : Int) : List S41 → Nat → Int
  | [], _ => -1
  | x :: r, i => if forB x t = true then low t r (i + 1) else (i : Int)
theorem low_spec (t : Int) : ∀ (l : List S41) (i : Nat), low t l i = -1 ∨ ∃ n, low t l i = ((i + n : Nat) : Int) ∧ n < l.length
  | [], _ => Or.inl rfl
  | x :: r, i => by
    unfold low
    split
    · rcases low_spec t r (i + 1) with h | ⟨n, h, hn⟩
      · exact Or.inl h
      · exact Or.inr ⟨n + 1, by rw [h]; omega, by simp; omega⟩
    · exact Or.inr ⟨0, by omega, by simp⟩
theorem low_from (l : List S41) (hl : l.length ≤ 140737488351232) (t : Int) : ∀ (r : List S41) (i : Nat), l.drop i = r → Ev (fun k => slices_IndexFunc_63.l0 k l (l.length : Int) (i : Int) t) (low t r i)
  | [], i, h => by
    have := drop_end h
    exact Ev_shift 1 (f := fun _ => some (-1)) (fun k => by rw [slices_IndexFunc_63.l0, if_neg (by omega)]) (Ev_const rfl)
  | x :: r, i, h => by
    obtain ⟨hi, hx, hr⟩ := rd41 l i x r h
    have ih := low_from l hl t r (i + 1) hr
    have hf : lease_set_1.f x.f0.f0 x.f0.f1 x.f0.f2 x.f1 x.f2 x.f3 x.f4 x.f5 x.f6 t = some (!forB x t) := by
      unfold lease_set_1.f
      rw [force_v]
      rfl
    unfold low
    cases hb : forB x t with
    | true => exact Ev_shift 1 (fun k => by rw [slices_IndexFunc_63.l0, if_pos (by omega), if_pos (by omega), if_pos (by omega), hx, hf, hb, Option.bind_some, if_neg (by decide), next i l.length hi (by omega)]) ih
    | false => exact Ev_shift 1 (f := fun _ => some (i : Int)) (fun k => by rw [slices_IndexFunc_63.l0, if_pos (by omega), if_pos (by omega), if_pos (by omega), hx, hf, hb, Option.bind_some, if_pos (by decide)]) (Ev_const rfl)
def ins (x : S41) (l : List S41) : List S41 := l.take (pos x.f0 l) ++ [x] ++ l.drop (pos x.f0 l)
def setT (l : List S41) (x : S41) (t : Int) : List S41 × Int :=
  if (get x.f0 l).isSome = true then (l.set (pos x.f0 l) x, 0)
  else if 512 ≤ l.length then (if low t l 0 < 0 then ([], 9) else (ins x (l.take (low t l 0).toNat ++ l.drop ((low t l 0).toNat + 1)), 0))
  else (ins x l, 0)
theorem srt_drop (l : List S41) (hs : Srt l) (n : Nat) : Srt (l.take n ++ l.drop (n + 1)) := by
  unfold Srt at hs ⊢
  rw [← List.eraseIdx_eq_take_drop_succ]
  exact hs.sublist (List.eraseIdx_sublist l n)
theorem setj_ev (l : List S41) (hl : l.length ≤ 512) (x : S41) : Ev (fun k => lease_set.j0 k l (pos x.f0 l : Int) x.f0.f0 x.f0.f1 x.f0.f2 x.f1 x.f2 x.f3 x.f4 x.f5 x.f6) (ins x l, 0) := by
  have := pos_le x.f0 l
  refine Ev_shift 1 (f := fun _ => some (ins x l, 0)) (fun k => ?_) (Ev_const rfl)
  rw [lease_set.j0, slices_Insert.f, if_pos (by omega), if_pos (by omega), if_pos (by show (l.length + 1) * 88 ≤ _; omega), Int.toNat_natCast]
  rfl
theorem set_ev (l : List S41) (hl : l.length ≤ 512) (hs : Srt l) (x : S41) (t : Int) : Ev (fun k => lease_set.f k l x.f0.f0 x.f0.f1 x.f0.f2 x.f1 x.f2 x.f3 x.f4 x.f5 x.f6 t) (setT l x t) := by
  have hp := pos_le x.f0 l
  unfold lease_set.f slices_Clone.f setT
  simp only [if_pos (show l.length * 88 ≤ 140737488355328 by omega), Option.bind_some]
  refine Ev.bind (place_ev l (by omega) hs x.f0) ?_
  cases hg : (get x.f0 l).isSome with
  | true =>
    have hlt : pos x.f0 l < l.length := by
      rcases Nat.lt_or_ge (pos x.f0 l) l.length with h | h
      · exact h
      · have := get_pos x.f0 l hs
        rw [List.getElem?_eq_none h] at this
        rw [this] at hg
        cases hg
    simp only [if_true, if_pos (show (0 : Int) ≤ (pos x.f0 l : Int) by omega), if_pos (show (pos x.f0 l : Int) < (l.length : Int) by omega), Int.toNat_natCast]
    exact Ev_const rfl
  | false =>
    simp only [Bool.false_eq_true, if_false]
    by_cases hfull : 512 ≤ l.length
    · simp only [if_pos hfull, if_pos (show (l.length : Int) ≥ 512 by omega)]
      refine Ev.bind (show Ev (fun k => slices_IndexFunc_63.f k l t) (low t l 0) by unfold slices_IndexFunc_63.f; exact low_from l (by omega) t l 0 rfl) ?_
      rcases low_spec t l 0 with h | ⟨n, h, hn⟩
      · simp only [h, if_pos (show (-1 : Int) < 0 by decide)]
        exact Ev_const rfl
      · rw [Nat.zero_add] at h
        have hneg : ¬ (n : Int) < 0 := by omega
        have hw := wnext n (by omega)
        have e1 : (0 : Int) ≤ (n : Int) := by omega
        have e2 : (n : Int) ≤ ((n + 1 : Nat) : Int) := by omega
        have e3 : ((n + 1 : Nat) : Int) ≤ (l.length : Int) := by omega
        simp only [h, if_neg hneg, hw, slices_Delete.f, if_pos e1, if_pos e2, if_pos e3, Int.toNat_natCast, Option.bind_some]
        have hlen : (l.take n ++ l.drop (n + 1)).length ≤ 512 := by
          rw [List.length_append, List.length_take, List.length_drop]
          clear hw
          omega
        refine Ev.bind (place_ev _ (by clear hw; omega) (srt_drop l hs n) x.f0) ?_
        exact setj_ev _ hlen x
    · simp only [if_neg hfull, if_neg (show ¬ (l.length : Int) ≥ 512 by omega)]
      exact setj_ev l hl x
def aft (a b : Int) : Int := if b ≥ wrap64 (4294967295 - a) then 4294967295 else wrap64 (a + b)
theorem aft_v (a b : Int) : lease_after.f a b = some (aft a b) := by
  unfold lease_after.f aft
  split <;> rfl
def mine (x : S41) (c : ByteArray) : Bool := decide (x.f1.data.toList = c.data.toList)
def keep (o : Option S41) (c : ByteArray) (t : Int) : Bool := match o with | some x => mine x c && (decide (x.f2 = 2) && forB x t) | none => false
def xidO (o : Option S41) (c : ByteArray) : Int := match o with | some x => if mine x c = true then x.f6 else 0 | none => 0
def offT (l : List S41) (a : S29) (c : ByteArray) (t d : Int) : List S41 × Int :=
  if adB a = true then (if (cliB c && (timeB t && decide (1 ≤ d))) = true then (if frB (get a l) c t = true then (if keep (get a l) c t = true then (l, 0) else setT l ⟨a, c, 1, t, aft t d, ⟨#[]⟩, xidO (get a l) c⟩ t) else ([], 23)) else ([], 1)) else ([], 3)
theorem off2_ev (l : List S41) (hl : l.length ≤ 512) (hs : Srt l) (a : S29) (c : ByteArray) (t d : Int) (own kp : Bool) (x : Bool × Int × Int × ByteArray × Int × Int × Int × ByteArray × Int) : Ev (fun k => lease_Offer.j2 k l c t d own kp a.f0 a.f1 a.f2 x.1 x.2.1 x.2.2.1 x.2.2.2.1 x.2.2.2.2.1 x.2.2.2.2.2.1 x.2.2.2.2.2.2.1 x.2.2.2.2.2.2.2.1 x.2.2.2.2.2.2.2.2) (if kp = true then (l, 0) else setT l ⟨a, c, 1, t, aft t d, ⟨#[]⟩, if own = true then x.2.2.2.2.2.2.2.2 else 0⟩ t) := by
  cases kp with
  | true => exact Ev_shift 1 (f := fun _ => some (l, 0)) (fun k => by rw [lease_Offer.j2, if_pos rfl, slices_Clone.f, if_pos (by omega)]; rfl) (Ev_const rfl)
  | false =>
    have h3 : ∀ y : Int, Ev (fun k => lease_Offer.j3 k l t a.f0 a.f1 a.f2 c 1 t (aft t d) ⟨#[]⟩ y) (setT l ⟨a, c, 1, t, aft t d, ⟨#[]⟩, y⟩ t) := by
      intro y
      refine Ev_shift 1 (fun k => by rw [lease_Offer.j3]) ?_
      exact Ev.bind (set_ev l hl hs ⟨a, c, 1, t, aft t d, ⟨#[]⟩, y⟩ t) (Ev_const rfl)
    refine Ev_shift 1 (fun k => by rw [lease_Offer.j2, if_neg Bool.false_ne_true, aft_v, Option.bind_some]) ?_
    cases own with
    | true => exact h3 _
    | false => exact h3 0
theorem offer_ev (l : List S41) (hl : l.length ≤ 512) (hs : Srt l) (a : S29) (c : ByteArray) (hc : c.size ≤ 140737488351232) (t d : Int) : Ev (fun k => lease_Offer.f k l a.f0 a.f1 a.f2 c t d) (offT l a c t d) := by
  unfold lease_Offer.f offT
  simp only [ad_v, Option.bind_some, time_v]
  cases adB a with
  | false => exact Ev_const rfl
  | true =>
    simp only [if_true]
    refine Ev.bind (cli_ev c hc) ?_
    have hj0 : ∀ b : Bool, b = !(cliB c && (timeB t && decide (1 ≤ d))) → Ev (fun k => lease_Offer.j0 k l c t d b a.f0 a.f1 a.f2) (if (cliB c && (timeB t && decide (1 ≤ d))) = true then (if frB (get a l) c t = true then (if keep (get a l) c t = true then (l, 0) else setT l ⟨a, c, 1, t, aft t d, ⟨#[]⟩, xidO (get a l) c⟩ t) else ([], 23)) else ([], 1)) := by
      rintro b rfl
      cases (cliB c && (timeB t && decide (1 ≤ d))) with
      | false => exact Ev_shift 1 (f := fun _ => some ([], 1)) (fun k => by rw [lease_Offer.j0, Bool.not_false, if_pos rfl]) (Ev_const rfl)
      | true =>
        rw [if_pos rfl]
        refine Ev_shift 1 (fun k => by rw [lease_Offer.j0, Bool.not_true, if_neg Bool.false_ne_true]) ?_
        refine Ev.bind (free_ev l (by omega) hs a c t) ?_
        cases frB (get a l) c t with
        | false => exact Ev_const rfl
        | true =>
          simp only [if_true]
          refine Ev.bind (find_ev l (by omega) hs a) ?_
          cases get a l with
          | none =>
            simp only [tup, Bool.false_eq_true, if_false]
            refine Ev_shift 1 (fun k => by rw [lease_Offer.j1, if_neg Bool.false_ne_true]) ?_
            exact off2_ev l hl hs a c t d false false (false, 0, 0, ⟨#[]⟩, 0, 0, 0, ⟨#[]⟩, 0)
          | some x =>
            simp only [tup, if_true, toL]
            have hm : (x.f1.data.toList == c.data.toList) = mine x c := by
              unfold mine
              rw [Bool.eq_iff_iff]
              simp
            rw [hm]
            have h2 := fun o kp => off2_ev l hl hs a c t d o kp (x.f0.f0, x.f0.f1, x.f0.f2, x.f1, x.f2, x.f3, x.f4, x.f5, x.f6)
            have hk : keep (some x) c t = (mine x c && (decide (x.f2 = 2) && forB x t)) := rfl
            have hxi : xidO (some x) c = if mine x c = true then x.f6 else 0 := rfl
            rw [hk, hxi]
            cases mine x c with
            | false =>
              refine Ev_shift 1 (fun k => by rw [lease_Offer.j1, if_neg Bool.false_ne_true]) ?_
              exact h2 false false
            | true =>
              refine Ev_shift 1 (fun k => by rw [lease_Offer.j1, if_pos rfl, force_v, Option.bind_some]) ?_
              by_cases h : x.f2 = 2
              · simp only [if_pos h, decide_eq_true h, Bool.true_and]
                exact h2 true _
              · simp only [if_neg h, decide_eq_false h, Bool.and_false, Bool.false_and]
                exact h2 true false
    cases hcl : cliB c with
    | false =>
      simp only [Bool.false_eq_true, if_false]
      have := hj0 true (by rw [hcl]; rfl)
      rw [hcl] at this
      exact this
    | true =>
      simp only [if_true]
      cases ht : timeB t with
      | false =>
        simp only [Bool.false_eq_true, if_false]
        have := hj0 true (by rw [hcl, ht]; rfl)
        rw [hcl, ht] at this
        exact this
      | true =>
        simp only [if_true]
        have := hj0 (decide (d < 1)) (by rw [hcl, ht, Bool.true_and, Bool.true_and, Bool.eq_iff_iff]; simp)
        rw [hcl, ht] at this
        exact this
end Go.Proofs.YtonpcojdpfmbkaaDoor.Ma
namespace Go.Proofs.YtonpcojdpfmbkaaDoor.Ma
open Go.RowKit Go.Proofs.YtonpcojdpfmbkaaDoorW.PrintWords Go.Proofs.YtonpcojdpfmbkaaDoorW.PrintLast Go.Proofs.YtonpcojdpfmbkaaDoorW.PrintMore Go.Proofs.YtonpcojdpfmbkaaDoor.XP Go.Proofs.YtonpcojdpfmbkaaDoor.QA Go.Proofs.YtonpcojdpfmbkaaDoor.Cm
set_option linter.unusedVariables false
set_option linter.unusedSimpArgs false
theorem awake_ev : Ev (fun k => ddilaw38_awake.f k) true := ⟨60, fun k hk => at_rounds ddilaw38_awake.mono hk (by decide +kernel)⟩
end Go.Proofs.YtonpcojdpfmbkaaDoor.Ma
namespace Go.Proofs.YtonpcojdpfmbkaaDoor.Ma
open Go.RowKit Go.Proofs.YtonpcojdpfmbkaaDoorW.PrintWords Go.Proofs.YtonpcojdpfmbkaaDoorW.PrintLast Go.Proofs.YtonpcojdpfmbkaaDoorW.PrintMore Go.Proofs.YtonpcojdpfmbkaaDoor.XP Go.Proofs.YtonpcojdpfmbkaaDoor.QA Go.Proofs.YtonpcojdpfmbkaaDoor.Cm
set_option linter.unusedVariables false
set_option linter.unusedSimpArgs false
theorem get_mem (l : List S41) (hs : Srt l) (x : S41) (h : x ∈ l) : get x.f0 l = some x := by
  induction l with
  | nil => exact absurd h List.not_mem_nil
  | cons y r ih =>
    obtain ⟨h1, h2⟩ := List.pairwise_cons.1 hs
    unfold get
    rw [List.find?_cons]
    rcases List.mem_cons.1 h with rfl | hx
    · rw [ea_self]
    · have hne : ea y.f0 x.f0 = false := by
        rw [ea_ne]
        intro e
        have := h1 x hx
        rw [e, cmp_self] at this
        omega
      rw [hne]
      exact ih h2 hx
end Go.Proofs.YtonpcojdpfmbkaaDoor.Ma
namespace Go.Proofs.YtonpcojdpfmbkaaDoor.Ma
open Go.RowKit Go.Proofs.YtonpcojdpfmbkaaDoorW.PrintWords Go.Proofs.YtonpcojdpfmbkaaDoorW.PrintLast Go.Proofs.YtonpcojdpfmbkaaDoorW.PrintMore Go.Proofs.YtonpcojdpfmbkaaDoor.XP Go.Proofs.YtonpcojdpfmbkaaDoor.QA Go.Proofs.YtonpcojdpfmbkaaDoor.Cm
set_option linter.unusedVariables false
set_option linter.unusedSimpArgs false
def z41 : S41 := ⟨⟨false, 0, 0⟩, ⟨#[]⟩, 0, 0, 0, ⟨#[]⟩, 0⟩
end Go.Proofs.YtonpcojdpfmbkaaDoor.Ma
namespace Go.Proofs.YtonpcojdpfmbkaaDoor.Ma
open Go.RowKit Go.Proofs.YtonpcojdpfmbkaaDoorW.PrintWords Go.Proofs.YtonpcojdpfmbkaaDoorW.PrintLast Go.Proofs.YtonpcojdpfmbkaaDoorW.PrintMore Go.Proofs.YtonpcojdpfmbkaaDoor.XP Go.Proofs.YtonpcojdpfmbkaaDoor.QA Go.Proofs.YtonpcojdpfmbkaaDoor.Cm
set_option linter.unusedVariables false
set_option linter.unusedSimpArgs false
def heldB (o : Option S41) (c : ByteArray) (z t : Int) : Bool := match o with | some x => mine x c && ((decide (x.f2 = 1) || decide (x.f2 = 2)) && (forB x t && decide (z ≥ x.f6))) | none => false
theorem get_at (l : List S41) (hs : Srt l) (a : S29) (x : S41) (h : get a l = some x) : ∃ hp : pos a l < l.length, l[pos a l] = x ∧ x.f0 = a := by
  have hg := get_pos a l hs
  rw [h] at hg
  rcases Nat.lt_or_ge (pos a l) l.length with hp | hp
  · rw [List.getElem?_eq_getElem hp] at hg
    simp only [] at hg
    split at hg
    · rename_i he
      injection hg with hg
      exact ⟨hp, hg.symm, by rw [hg]; exact (ea_iff _ _).1 he⟩
    · cases hg
  · rw [List.getElem?_eq_none hp] at hg
    cases hg
theorem held_ev (l : List S41) (hl : l.length ≤ 512) (hs : Srt l) (a : S29) (c : ByteArray) (z t : Int) : Ev (fun k => lease_held.f k l a.f0 a.f1 a.f2 c z t) (if (get a l).isSome = true then (pos a l : Int) else 0, heldB (get a l) c z t) := by
  unfold lease_held.f
  refine Ev.bind (place_ev l (by omega) hs a) ?_
  cases hg : get a l with
  | none => exact Ev_const rfl
  | some x =>
    obtain ⟨hp, hx, _⟩ := get_at l hs a x hg
    simp only [Option.isSome_some, if_true, if_pos (show (0 : Int) ≤ (pos a l : Int) by omega), if_pos (show (pos a l : Int) < (l.length : Int) by omega), rdAt l _ hp, hx, toL, force_v, Option.bind_some]
    refine Ev_const ?_
    unfold heldB mine
    simp only []
    by_cases hm : x.f1.data.toList = c.data.toList
    · rw [if_pos hm, decide_eq_true hm, Bool.true_and]
      by_cases h1 : x.f2 = 1
      · rw [if_pos h1, decide_eq_true h1, Bool.true_or, Bool.true_and]
        cases forB x t <;> rfl
      · rw [if_neg h1, decide_eq_false h1, Bool.false_or]
        by_cases h2 : x.f2 = 2
        · rw [if_pos h2, decide_eq_true h2, Bool.true_and]
          cases forB x t <;> rfl
        · rw [if_neg h2, decide_eq_false h2, Bool.false_and]
    · rw [if_neg hm, decide_eq_false hm, Bool.false_and]
end Go.Proofs.YtonpcojdpfmbkaaDoor.Ma
namespace Go.Proofs.YtonpcojdpfmbkaaDoor.Ma
open Go.RowKit Go.Proofs.YtonpcojdpfmbkaaDoorW.PrintWords Go.Proofs.YtonpcojdpfmbkaaDoorW.PrintLast Go.Proofs.YtonpcojdpfmbkaaDoorW.PrintMore Go.Proofs.YtonpcojdpfmbkaaDoor.XP Go.Proofs.YtonpcojdpfmbkaaDoor.QA Go.Proofs.YtonpcojdpfmbkaaDoor.Cm
set_option linter.unusedVariables false
set_option linter.unusedSimpArgs false
def updT (l : List S41) (a : S29) (c : ByteArray) (z t : Int) (u : S41 → S41) : List S41 × Int := match get a l with | some x => (if heldB (some x) c z t = true then (l.set (pos a l) (u x), 0) else ([], 11)) | none => ([], 11)
def relX (t : Int) (x : S41) : S41 := ⟨x.f0, x.f1, 3, x.f3, mx t x.f3, x.f5, x.f6⟩
def decX (t d : Int) (x : S41) : S41 := ⟨x.f0, x.f1, 5, t, aft t d, x.f5, x.f6⟩
theorem rdSet (l : List S41) (p : Nat) (h : p < l.length) (v : S41) : rd_T41 (l.set p v) (p : Int) = v := by
  rw [rdAt _ p (by rw [List.length_set]; exact h), List.getElem_set_self]
def good3 (c : ByteArray) (z t : Int) : Bool := cliB c && (timeB z && timeB t)
theorem rel_ev (l : List S41) (hl : l.length ≤ 512) (hs : Srt l) (a : S29) (c : ByteArray) (hc : c.size ≤ 140737488351232) (z t : Int) : Ev (fun k => lease_Release.f k l a.f0 a.f1 a.f2 c z t) (if good3 c z t = true then updT l a c z t (relX t) else ([], 1)) := by
  unfold lease_Release.f
  have hj : ∀ b : Bool, b = !good3 c z t → Ev (fun k => lease_Release.j0 k l c z t b a.f0 a.f1 a.f2) (if good3 c z t = true then updT l a c z t (relX t) else ([], 1)) := by
    rintro b rfl
    cases good3 c z t with
    | false => exact Ev_shift 1 (f := fun _ => some ([], 1)) (fun k => by rw [lease_Release.j0, Bool.not_false, if_pos rfl]) (Ev_const rfl)
    | true =>
      rw [if_pos rfl]
      refine Ev_shift 1 (fun k => by rw [lease_Release.j0, Bool.not_true, if_neg Bool.false_ne_true]) ?_
      refine Ev.bind (held_ev l hl hs a c z t) ?_
      unfold updT
      cases hg : get a l with
      | none => exact Ev_const rfl
      | some x =>
        obtain ⟨hp, hx, _⟩ := get_at l hs a x hg
        simp only [Option.isSome_some, if_true]
        cases hh : heldB (some x) c z t with
        | false => exact Ev_const rfl
        | true =>
          have h88 : l.length * 88 ≤ 140737488355328 := by omega
          have e1 : (0 : Int) ≤ (pos a l : Int) := by omega
          have e2 : (pos a l : Int) < (l.length : Int) := by omega
          simp only [if_true, slices_Clone.f, if_pos h88, Option.bind_some, if_pos e1, if_pos e2, Int.toNat_natCast, rdAt l _ hp, hx, rdSet l _ hp, List.set_set]
          exact Ev_const rfl
  refine Ev.bind (cli_ev c hc) ?_
  simp only [xid_v, time_v, Option.bind_some]
  cases h1 : cliB c with
  | false =>
    simp only [Bool.false_eq_true, if_false]
    exact hj true (by unfold good3; rw [h1]; rfl)
  | true =>
    simp only [if_true]
    cases h2 : timeB z with
    | false =>
      simp only [Bool.false_eq_true, if_false]
      exact hj true (by unfold good3; rw [h2, Bool.false_and, Bool.and_false]; rfl)
    | true =>
      simp only [if_true]
      exact hj _ (by unfold good3; rw [h1, h2]; rfl)
def good4 (c : ByteArray) (z t d : Int) : Bool := cliB c && (timeB z && (timeB t && decide (1 ≤ d)))
theorem dec_ev (l : List S41) (hl : l.length ≤ 512) (hs : Srt l) (a : S29) (c : ByteArray) (hc : c.size ≤ 140737488351232) (z t d : Int) : Ev (fun k => lease_Decline.f k l a.f0 a.f1 a.f2 c z t d) (if good4 c z t d = true then updT l a c z t (decX t d) else ([], 1)) := by
  unfold lease_Decline.f
  have hj : ∀ b : Bool, b = !good4 c z t d → Ev (fun k => lease_Decline.j0 k l c z t d b a.f0 a.f1 a.f2) (if good4 c z t d = true then updT l a c z t (decX t d) else ([], 1)) := by
    rintro b rfl
    cases good4 c z t d with
    | false => exact Ev_shift 1 (f := fun _ => some ([], 1)) (fun k => by rw [lease_Decline.j0, Bool.not_false, if_pos rfl]) (Ev_const rfl)
    | true =>
      rw [if_pos rfl]
      refine Ev_shift 1 (fun k => by rw [lease_Decline.j0, Bool.not_true, if_neg Bool.false_ne_true]) ?_
      refine Ev.bind (held_ev l hl hs a c z t) ?_
      unfold updT
      cases hg : get a l with
      | none => exact Ev_const rfl
      | some x =>
        obtain ⟨hp, hx, _⟩ := get_at l hs a x hg
        simp only [Option.isSome_some, if_true]
        cases hh : heldB (some x) c z t with
        | false => exact Ev_const rfl
        | true =>
          have h88 : l.length * 88 ≤ 140737488355328 := by omega
          have e1 : (0 : Int) ≤ (pos a l : Int) := by omega
          have e2 : (pos a l : Int) < (l.length : Int) := by omega
          simp only [if_true, slices_Clone.f, if_pos h88, Option.bind_some, if_pos e1, if_pos e2, Int.toNat_natCast, rdAt l _ hp, hx, rdSet l _ hp, List.set_set, aft_v]
          exact Ev_const rfl
  refine Ev.bind (cli_ev c hc) ?_
  simp only [xid_v, time_v, Option.bind_some]
  cases h1 : cliB c with
  | false =>
    simp only [Bool.false_eq_true, if_false]
    exact hj true (by unfold good4; rw [h1]; rfl)
  | true =>
    simp only [if_true]
    cases h2 : timeB z with
    | false =>
      simp only [Bool.false_eq_true, if_false]
      exact hj true (by unfold good4; rw [h2, Bool.false_and, Bool.and_false]; rfl)
    | true =>
      simp only [if_true]
      cases h3 : timeB t with
      | false =>
        simp only [Bool.false_eq_true, if_false]
        exact hj true (by unfold good4; rw [h3, Bool.false_and, Bool.and_false, Bool.and_false]; rfl)
      | true =>
        simp only [if_true]
        exact hj _ (by unfold good4; rw [h1, h2, h3, Bool.true_and, Bool.true_and, Bool.true_and, Bool.eq_iff_iff]; simp)
def gone (t : Int) (x : S41) : Bool := decide (x.f4 ≤ t) && (decide (x.f2 = 1) || decide (x.f2 = 5))
def expX (t : Int) (x : S41) : S41 := if (decide (x.f4 ≤ t) && decide (x.f2 = 2)) = true then ⟨x.f0, x.f1, 4, x.f3, x.f4, x.f5, x.f6⟩ else x
def expT (t : Int) : List S41 → List S41
  | [] => []
  | x :: r => if gone t x = true then expT t r else expX t x :: expT t r
theorem expT_len (t : Int) : ∀ l : List S41, (expT t l).length ≤ l.length
  | [] => Nat.le_refl _
  | x :: r => by
    have := expT_len t r
    unfold expT
    split <;> simp <;> omega
theorem exp_from (l : List S41) (hl : l.length ≤ 512) (t : Int) : ∀ (r : List S41) (i : Nat) (q : List S41), l.drop i = r → q.length ≤ i → Ev (fun k => lease_Expire.l0 k t q l (l.length : Int) (i : Int)) (q ++ expT t r)
  | [], i, q, h, _ => by
    have := drop_end h
    exact Ev_shift 1 (f := fun _ => some q) (fun k => by rw [lease_Expire.l0, if_neg (by omega)]) (Ev_const (by simp [expT]))
  | x :: r, i, q, h, hq => by
    obtain ⟨hi, hx, hr⟩ := rd41 l i x r h
    have hq1 : q.length < 1599289640401 := by omega
    have ih := fun y : S41 => exp_from l hl t r (i + 1) (q ++ [y]) hr (by simp; omega)
    have ih0 := exp_from l hl t r (i + 1) q hr (by omega)
    by_cases h4 : x.f4 ≤ t
    · have hj : ∀ b : Bool, b = (decide (x.f2 = 1) || decide (x.f2 = 5)) → Ev (fun k => lease_Expire.j1 k t q l (l.length : Int) (i : Int) x.f2 b x.f0.f0 x.f0.f1 x.f0.f2 x.f1 x.f2 x.f3 x.f4 x.f5 x.f6) (q ++ expT t (x :: r)) := by
        rintro b rfl
        unfold expT gone
        rw [decide_eq_true h4, Bool.true_and]
        cases hg : (decide (x.f2 = 1) || decide (x.f2 = 5)) with
        | true => exact Ev_shift 1 (fun k => by rw [lease_Expire.j1, if_pos rfl, next i l.length hi (by omega)]) ih0
        | false =>
          rw [if_neg Bool.false_ne_true]
          unfold expX
          rw [decide_eq_true h4, Bool.true_and]
          by_cases h2 : x.f2 = 2
          · have := ih ⟨x.f0, x.f1, 4, x.f3, x.f4, x.f5, x.f6⟩
            rw [List.append_assoc] at this
            rw [decide_eq_true h2, if_pos rfl]
            exact Ev_shift 1 (fun k => by rw [lease_Expire.j1, if_neg Bool.false_ne_true, if_pos h2, if_pos hq1, next i l.length hi (by omega)]) this
          · have := ih x
            rw [List.append_assoc] at this
            rw [decide_eq_false h2, if_neg Bool.false_ne_true]
            exact Ev_shift 1 (fun k => by rw [lease_Expire.j1, if_neg Bool.false_ne_true, if_neg h2, if_pos hq1, next i l.length hi (by omega)]) this
      by_cases h1 : x.f2 = 1
      · refine Ev_shift 1 (fun k => by rw [lease_Expire.l0, if_pos (by omega), if_pos (by omega), if_pos (by omega), hx, if_pos h4, if_pos h1]) ?_
        exact hj _ (by rw [h1]; rfl)
      · refine Ev_shift 1 (fun k => by rw [lease_Expire.l0, if_pos (by omega), if_pos (by omega), if_pos (by omega), hx, if_pos h4, if_neg h1]) ?_
        exact hj _ (by rw [decide_eq_false h1, Bool.false_or]; rfl)
    · have := ih x
      rw [List.append_assoc] at this
      unfold expT gone expX
      rw [decide_eq_false h4, Bool.false_and, Bool.false_and, if_neg Bool.false_ne_true, if_neg Bool.false_ne_true]
      exact Ev_shift 1 (fun k => by rw [lease_Expire.l0, if_pos (by omega), if_pos (by omega), if_pos (by omega), hx, if_neg h4, if_pos hq1, next i l.length hi (by omega)]) this
theorem updT_len (l : List S41) (hl : l.length ≤ 512) (a : S29) (c : ByteArray) (z t : Int) (u : S41 → S41) : (updT l a c z t u).1.length ≤ 512 := by
  unfold updT
  split
  · split
    · show (l.set _ _).length ≤ 512
      rw [List.length_set]
      exact hl
    · exact Nat.zero_le _
  · exact Nat.zero_le _
end Go.Proofs.YtonpcojdpfmbkaaDoor.Ma
namespace Go.Proofs.YtonpcojdpfmbkaaDoor.Ma
open Go.RowKit Go.Proofs.YtonpcojdpfmbkaaDoorW.PrintWords Go.Proofs.YtonpcojdpfmbkaaDoorW.PrintLast Go.Proofs.YtonpcojdpfmbkaaDoorW.PrintMore Go.Proofs.YtonpcojdpfmbkaaDoor.XP Go.Proofs.YtonpcojdpfmbkaaDoor.QA Go.Proofs.YtonpcojdpfmbkaaDoor.Cm
set_option linter.unusedVariables false
set_option linter.unusedSimpArgs false
/-- A list without the element at place d. -/
def cutD (d : Int) : List S41 → Nat → List S41
  | [], _ => []
  | y :: r, i => (if (i : Int) = d then [] else [y]) ++ cutD d r (i + 1)
theorem cutD_mem (d : Int) : ∀ (r : List S41) (i : Nat) (x : S41), x ∈ cutD d r i → x ∈ r
  | [], _, _, h => by cases h
  | y :: r, i, x, h => by
    unfold cutD at h
    rcases List.mem_append.1 h with h | h
    · split at h
      · cases h
      · rw [List.mem_singleton.1 h]; exact List.mem_cons_self ..
    · exact List.mem_cons_of_mem _ (cutD_mem d r (i + 1) x h)
theorem cutD_past : ∀ (r : List S41) (i n : Nat), n < i → cutD (n : Int) r i = r
  | [], _, _, _ => rfl
  | y :: r, i, n, h => by
    unfold cutD
    rw [if_neg (by omega), cutD_past r (i + 1) n (by omega)]
    rfl
theorem cutD_at : ∀ (r : List S41) (i n : Nat), cutD ((i + n : Nat) : Int) r i = r.take n ++ r.drop (n + 1)
  | [], _, _ => by simp [cutD]
  | y :: r, i, 0 => by
    unfold cutD
    rw [if_pos (by omega), cutD_past r (i + 1) (i + 0) (by omega)]
    rfl
  | y :: r, i, n + 1 => by
    unfold cutD
    have := cutD_at r (i + 1) n
    rw [show i + 1 + n = i + (n + 1) by omega] at this
    rw [if_neg (by omega), this]
    rfl
/-- An entry put at its place. -/
def insR (x : S41) : List S41 → List S41
  | [] => [x]
  | y :: r => if cmp y.f0 x.f0 < 0 then y :: insR x r else x :: y :: r
theorem ins_insR (x : S41) : ∀ l : List S41, ins x l = insR x l
  | [] => rfl
  | y :: r => by
    have ih := ins_insR x r
    unfold ins at ih
    unfold ins insR pos
    split
    · rw [← ih]
      simp
    · rfl
theorem get_none_ne (l : List S41) (a : S29) (h : (get a l).isSome = false) : ∀ y ∈ l, cmp y.f0 a ≠ 0 := by
  intro y hy he
  have h1 : get a l = none := by simpa using h
  unfold get at h1
  rw [List.find?_eq_none] at h1
  exact h1 y hy ((ea_iff _ _).2 ((cmp_zero _ _).1 he))
end Go.Proofs.YtonpcojdpfmbkaaDoor.Ma
namespace Go.Proofs.YtonpcojdpfmbkaaDoor.Ma
open Go.RowKit Go.Proofs.YtonpcojdpfmbkaaDoorW.PrintWords Go.Proofs.YtonpcojdpfmbkaaDoorW.PrintLast Go.Proofs.YtonpcojdpfmbkaaDoorW.PrintMore Go.Proofs.YtonpcojdpfmbkaaDoor.XP Go.Proofs.YtonpcojdpfmbkaaDoor.QA Go.Proofs.YtonpcojdpfmbkaaDoor.Cm
set_option linter.unusedVariables false
set_option linter.unusedSimpArgs false
def bstO (o : Option S41) (c : ByteArray) (t : Int) : Int := match o with | some x => if (mine x c && (decide (x.f2 = 2) && forB x t)) = true then mn t x.f3 else t | none => t
def bxiO (o : Option S41) (c : ByteArray) (z : Int) : Int := match o with | some x => if mine x c = true then mx z x.f6 else z | none => z
def newB (l : List S41) (a : S29) (c h : ByteArray) (z t d : Int) : S41 := ⟨a, c, 2, bstO (get a l) c t, aft t d, h, bxiO (get a l) c z⟩
def bindT (l : List S41) (a : S29) (c h : ByteArray) (z t d : Int) : List S41 × Int :=
  if adB a = true then (if good4 c z t d = true then (if hostB h = true then (if frB (get a l) c t = true then setT l (newB l a c h z t d) t else ([], 23)) else ([], 2)) else ([], 1)) else ([], 3)
theorem bind_ev (l : List S41) (hl : l.length ≤ 512) (hs : Srt l) (a : S29) (c h : ByteArray) (hc : c.size ≤ 140737488351232) (hh : h.size ≤ 140737488351232) (z t d : Int) : Ev (fun k => lease_Bind.f k l a.f0 a.f1 a.f2 c h z t d) (bindT l a c h z t d) := by
  unfold lease_Bind.f bindT
  simp only [ad_v, Option.bind_some, time_v, xid_v]
  cases adB a with
  | false => exact Ev_const rfl
  | true =>
    simp only [if_true]
    refine Ev.bind (cli_ev c hc) ?_
    have h3 : ∀ x : S41, Ev (fun k => lease_Bind.j3 k l t x.f0.f0 x.f0.f1 x.f0.f2 x.f1 x.f2 x.f3 x.f4 x.f5 x.f6) (setT l x t) := by
      intro x
      refine Ev_shift 1 (fun k => by rw [lease_Bind.j3]) ?_
      exact Ev.bind (set_ev l hl hs x t) (Ev_const rfl)
    have h2 : ∀ (x : S41) (b : Bool) (y : S41), Ev (fun k => lease_Bind.j2 k l t b x.f0.f0 x.f0.f1 x.f0.f2 x.f1 x.f2 x.f3 x.f4 x.f5 x.f6 y.f0.f0 y.f0.f1 y.f0.f2 y.f1 y.f2 y.f3 y.f4 y.f5 y.f6) (setT l ⟨x.f0, x.f1, x.f2, if b = true then mn t y.f3 else x.f3, x.f4, x.f5, x.f6⟩ t) := by
      intro x b y
      cases b with
      | true => exact Ev_shift 1 (fun k => by rw [lease_Bind.j2, if_pos rfl]) (h3 ⟨x.f0, x.f1, x.f2, mn t y.f3, x.f4, x.f5, x.f6⟩)
      | false => exact Ev_shift 1 (fun k => by rw [lease_Bind.j2, if_neg Bool.false_ne_true]) (h3 x)
    have hj0 : ∀ b : Bool, b = !good4 c z t d → Ev (fun k => lease_Bind.j0 k l c h z t d b a.f0 a.f1 a.f2) (if good4 c z t d = true then (if hostB h = true then (if frB (get a l) c t = true then setT l (newB l a c h z t d) t else ([], 23)) else ([], 2)) else ([], 1)) := by
      rintro b rfl
      cases good4 c z t d with
      | false => exact Ev_shift 1 (f := fun _ => some ([], 1)) (fun k => by rw [lease_Bind.j0, Bool.not_false, if_pos rfl]) (Ev_const rfl)
      | true =>
        rw [if_pos rfl]
        refine Ev_shift 1 (fun k => by rw [lease_Bind.j0, Bool.not_true, if_neg Bool.false_ne_true]) ?_
        refine Ev.bind (host_ev h hh) ?_
        cases hostB h with
        | false => exact Ev_const rfl
        | true =>
          simp only [if_true]
          refine Ev.bind (free_ev l (by omega) hs a c t) ?_
          cases frB (get a l) c t with
          | false => exact Ev_const rfl
          | true =>
            simp only [if_true, aft_v, Option.bind_some]
            refine Ev.bind (find_ev l (by omega) hs a) ?_
            unfold newB
            cases get a l with
            | none =>
              simp only [tup, Bool.false_eq_true, if_false]
              refine Ev_shift 1 (fun k => by rw [lease_Bind.j1, if_neg Bool.false_ne_true]) ?_
              exact h3 ⟨a, c, 2, t, aft t d, h, z⟩
            | some x =>
              simp only [tup, if_true, toL]
              have hm : (x.f1.data.toList == c.data.toList) = mine x c := by
                unfold mine
                rw [Bool.eq_iff_iff]
                simp
              rw [hm]
              have e1 : bstO (some x) c t = if (mine x c && (decide (x.f2 = 2) && forB x t)) = true then mn t x.f3 else t := rfl
              have e2 : bxiO (some x) c z = if mine x c = true then mx z x.f6 else z := rfl
              rw [e1, e2]
              cases mine x c with
              | false =>
                refine Ev_shift 1 (fun k => by rw [lease_Bind.j1, if_neg Bool.false_ne_true]) ?_
                exact h3 ⟨a, c, 2, t, aft t d, h, z⟩
              | true =>
                refine Ev_shift 1 (fun k => by rw [lease_Bind.j1, if_pos rfl, force_v, Option.bind_some]) ?_
                by_cases hx : x.f2 = 2
                · simp only [if_pos hx, decide_eq_true hx, Bool.true_and]
                  exact h2 ⟨a, c, 2, t, aft t d, h, mx z x.f6⟩ _ x
                · simp only [if_neg hx, decide_eq_false hx, Bool.and_false, Bool.false_and]
                  exact h2 ⟨a, c, 2, t, aft t d, h, mx z x.f6⟩ false x
    cases hcl : cliB c with
    | false =>
      simp only [Bool.false_eq_true, if_false]
      exact hj0 true (by unfold good4; rw [hcl]; rfl)
    | true =>
      simp only [if_true]
      cases hz : timeB z with
      | false =>
        simp only [Bool.false_eq_true, if_false]
        exact hj0 true (by unfold good4; rw [hcl, hz]; rfl)
      | true =>
        simp only [if_true]
        cases ht : timeB t with
        | false =>
          simp only [Bool.false_eq_true, if_false]
          exact hj0 true (by unfold good4; rw [hcl, hz, ht]; rfl)
        | true =>
          simp only [if_true]
          exact hj0 (decide (d < 1)) (by unfold good4; rw [hcl, hz, ht, Bool.true_and, Bool.true_and, Bool.true_and, Bool.eq_iff_iff]; simp)
theorem set_len (l : List S41) (hl : l.length ≤ 512) (x : S41) (t : Int) : (setT l x t).1.length ≤ 512 := by
  unfold setT
  split
  · rw [List.length_set]; exact hl
  · split
    · split
      · exact Nat.zero_le _
      · rcases low_spec t l 0 with h | ⟨n, h, hn⟩
        · omega
        · have hp := pos_le x.f0 (l.take (low t l 0).toNat ++ l.drop ((low t l 0).toNat + 1))
          show (ins x _).length ≤ 512
          unfold ins
          simp only [List.length_append, List.length_take, List.length_drop, List.length_singleton, h] at hp ⊢
          omega
    · have hp := pos_le x.f0 l
      show (ins x l).length ≤ 512
      unfold ins
      simp only [List.length_append, List.length_take, List.length_drop, List.length_singleton]
      omega
end Go.Proofs.YtonpcojdpfmbkaaDoor.Ma
namespace Go.Proofs.YtonpcojdpfmbkaaDoor.Ma
open Go.RowKit Go.Proofs.YtonpcojdpfmbkaaDoorW.PrintWords Go.Proofs.YtonpcojdpfmbkaaDoorW.PrintLast Go.Proofs.YtonpcojdpfmbkaaDoorW.PrintMore Go.Proofs.YtonpcojdpfmbkaaDoor.XP Go.Proofs.YtonpcojdpfmbkaaDoor.QA Go.Proofs.YtonpcojdpfmbkaaDoor.Cm
set_option linter.unusedVariables false
set_option linter.unusedSimpArgs false
theorem chk_one : ∀ (l : List S41) (p : Option S29), chk p l = 0 → ∀ x ∈ l, one x = 0
  | [], _, _ => fun x hx => absurd hx List.not_mem_nil
  | x :: r, p, h => by
    unfold chk at h
    split at h
    · split at h
      · split at h
        · rename_i h3
          intro y hy
          rcases List.mem_cons.1 hy with rfl | hy
          · exact h3
          · exact chk_one r (some x.f0) h y hy
        · rename_i h3
          exact absurd h h3
      · cases h
    · cases h
theorem one_ad (x : S41) (h : one x = 0) : adB x.f0 = true := by
  unfold one at h
  split at h
  · assumption
  · cases h
theorem chk_of : ∀ (l : List S41) (p : Option S29), (∀ q, p = some q → ∀ x ∈ l, cmp q x.f0 < 0) → Srt l → (∀ x ∈ l, one x = 0) → chk p l = 0
  | [], _, _, _, _ => rfl
  | x :: r, p, hp, hs, ho => by
    obtain ⟨h1, h2⟩ := List.pairwise_cons.1 hs
    have h3 := ho x (List.mem_cons_self ..)
    have hu : upB p x.f0 = true := by
      cases p with
      | none => rfl
      | some q => exact decide_eq_true (hp q rfl x (List.mem_cons_self ..))
    unfold chk
    rw [if_pos (one_ad x h3), if_pos hu, if_pos h3]
    refine chk_of r (some x.f0) ?_ h2 (fun y hy => ho y (List.mem_cons_of_mem _ hy))
    rintro q hq y hy
    cases hq
    exact h1 y hy
/-- A table: no more than 512 entries, rising, each of a lease's form. -/
structure Tab (l : List S41) : Prop where
  len : l.length ≤ 512
  srt : Srt l
  one : ∀ x ∈ l, one x = 0
  ok : ∀ x ∈ l, okS41 x
theorem tab_chk {l : List S41} (h : Tab l) : chkT l = 0 := by
  unfold chkT
  rw [if_neg (by have := h.len; omega)]
  exact chk_of l none (fun q hq => by cases hq) h.srt h.one
theorem chk_tab {l : List S41} (h : chkT l = 0) (ok : ∀ x ∈ l, okS41 x) : Tab l := by
  obtain ⟨h1, h2⟩ := chkT_zero l h
  refine ⟨h1, h2, ?_, ok⟩
  unfold chkT at h
  rw [if_neg (by omega)] at h
  exact chk_one l none h
theorem srt_map (l : List S41) : Srt l ↔ (l.map (·.f0)).Pairwise fun a b => cmp a b < 0 := by
  unfold Srt
  rw [List.pairwise_map]
theorem srt_same {l q : List S41} (h : q.map (·.f0) = l.map (·.f0)) (hs : Srt l) : Srt q := by
  rw [srt_map] at hs ⊢
  rw [h]
  exact hs
theorem set_map (l : List S41) (p : Nat) (h : p < l.length) (x : S41) (hx : x.f0 = (l[p]).f0) : (l.set p x).map (·.f0) = l.map (·.f0) := by
  apply List.ext_getElem
  · simp
  · intro i h1 h2
    simp only [List.getElem_map, List.getElem_set]
    split
    · rename_i he
      subst he
      exact hx
    · rfl
theorem insR_mem (x : S41) : ∀ (l : List S41) (z : S41), z ∈ insR x l ↔ z = x ∨ z ∈ l
  | [], z => by simp [insR]
  | y :: r, z => by
    unfold insR
    split
    · rw [List.mem_cons, insR_mem x r z, List.mem_cons]
      constructor
      · rintro (h | h | h)
        · exact .inr (.inl h)
        · exact .inl h
        · exact .inr (.inr h)
      · rintro (h | h | h)
        · exact .inr (.inl h)
        · exact .inl h
        · exact .inr (.inr h)
    · rw [List.mem_cons]
theorem insR_srt (x : S41) : ∀ (l : List S41), Srt l → (∀ y ∈ l, cmp y.f0 x.f0 ≠ 0) → Srt (insR x l)
  | [], _, _ => List.pairwise_singleton _ _
  | y :: r, hs, hn => by
    obtain ⟨h1, h2⟩ := List.pairwise_cons.1 hs
    have hy := hn y (List.mem_cons_self ..)
    unfold insR
    split
    · rename_i hc
      refine List.pairwise_cons.2 ⟨fun z hz => ?_, insR_srt x r h2 (fun z hz => hn z (List.mem_cons_of_mem _ hz))⟩
      rcases (insR_mem x r z).1 hz with rfl | hz
      · exact hc
      · exact h1 z hz
    · rename_i hc
      have hf := cmp_flip x.f0 y.f0
      have hlt : cmp x.f0 y.f0 < 0 := by omega
      refine List.pairwise_cons.2 ⟨fun z hz => ?_, hs⟩
      rcases List.mem_cons.1 hz with rfl | hz
      · exact hlt
      · exact cmp_trans hlt (h1 z hz)
theorem cut_keep (t : Int) (e : S41) (he : forB e t = true) : ∀ (l : List S41) (i : Nat), e ∈ l → e ∈ cutD (low t l i) l i
  | [], _, h => absurd h List.not_mem_nil
  | y :: r, i, h => by
    unfold low cutD
    by_cases hy : forB y t = true
    · rw [if_pos hy]
      have hne : ¬ ((i : Int) = low t r (i + 1)) := by
        rcases low_spec t r (i + 1) with h | ⟨n, h, _⟩ <;> omega
      rw [if_neg hne]
      rcases List.mem_cons.1 h with rfl | h
      · exact List.mem_append_left _ (List.mem_cons_self ..)
      · exact List.mem_append_right _ (cut_keep t e he r (i + 1) h)
    · rw [if_neg hy, if_pos rfl, List.nil_append, cutD_past r (i + 1) i (by omega)]
      rcases List.mem_cons.1 h with rfl | h
      · exact absurd he hy
      · exact h
/-- What Set leaves, where it succeeds. -/
structure SetOk (l : List S41) (x : S41) (t : Int) (r : List S41) : Prop where
  len : r.length ≤ 512
  srt : Srt r
  new : x ∈ r
  keep : ∀ e ∈ l, e.f0 ≠ x.f0 → forB e t = true → e ∈ r
  only : ∀ z ∈ r, z = x ∨ z ∈ l
theorem set_keep (l : List S41) (p : Nat) (hp : p < l.length) (x e : S41) (he : e ∈ l) (hne : e ≠ l[p]) : e ∈ l.set p x := by
  obtain ⟨j, hj, rfl⟩ := List.mem_iff_getElem.1 he
  have hjp : p ≠ j := by
    rintro rfl
    exact hne rfl
  refine List.mem_iff_getElem.2 ⟨j, by rw [List.length_set]; exact hj, ?_⟩
  rw [List.getElem_set_ne hjp]
theorem set_ok (l : List S41) (hl : l.length ≤ 512) (hs : Srt l) (x : S41) (t : Int) (h : (setT l x t).2 = 0) : SetOk l x t (setT l x t).1 := by
  have hlen := set_len l hl x t
  cases hg : (get x.f0 l).isSome with
  | true =>
    obtain ⟨y, hy⟩ := Option.isSome_iff_exists.1 hg
    obtain ⟨hp, hx, hf⟩ := get_at l hs x.f0 y hy
    have he : setT l x t = (l.set (pos x.f0 l) x, 0) := by
      unfold setT
      rw [if_pos hg]
    rw [he] at hlen ⊢
    refine ⟨hlen, srt_same (set_map l _ hp x (by rw [hx, hf])) hs, List.mem_iff_getElem.2 ⟨pos x.f0 l, by rw [List.length_set]; exact hp, List.getElem_set_self ..⟩, fun e h1 h2 _ => set_keep l _ hp x e h1 (fun h3 => h2 (by rw [h3, hx, hf])), fun z hz => ?_⟩
    rcases List.mem_or_eq_of_mem_set hz with h | h
    · exact .inr h
    · exact .inl h
  | false =>
    have hne := get_none_ne l x.f0 hg
    by_cases hf : 512 ≤ l.length
    · by_cases hlow : low t l 0 < 0
      · have he : setT l x t = ([], 9) := by
          unfold setT
          rw [hg, if_neg Bool.false_ne_true, if_pos hf, if_pos hlow]
        rw [he] at h
        cases h
      · rcases low_spec t l 0 with h2 | ⟨n, h2, hn⟩
        · omega
        · have hcd := cutD_at l 0 n
          have he : setT l x t = (insR x (cutD (low t l 0) l 0), 0) := by
            unfold setT
            rw [hg, if_neg Bool.false_ne_true, if_pos hf, if_neg hlow, ins_insR, h2, hcd, Int.toNat_natCast, Nat.zero_add]
          rw [he] at hlen ⊢
          have hsc : Srt (cutD (low t l 0) l 0) := by
            rw [h2, hcd]
            exact srt_drop l hs n
          exact ⟨hlen, insR_srt x _ hsc (fun y hy => hne y (cutD_mem _ _ _ y hy)), (insR_mem x _ x).2 (.inl rfl), fun e h1 _ h3 => (insR_mem x _ e).2 (.inr (cut_keep t e h3 l 0 h1)), fun z hz => ((insR_mem x _ z).1 hz).imp id (fun h => cutD_mem _ _ _ z h)⟩
    · have he : setT l x t = (insR x l, 0) := by
        unfold setT
        rw [hg, if_neg Bool.false_ne_true, if_neg hf, ins_insR]
      rw [he] at hlen ⊢
      exact ⟨hlen, insR_srt x l hs hne, (insR_mem x l x).2 (.inl rfl), fun e h1 _ _ => (insR_mem x l e).2 (.inr h1), fun z hz => (insR_mem x l z).1 hz⟩
/-- What an update of the holder's entry leaves, where it succeeds. -/
structure UpdOk (l : List S41) (a : S29) (c : ByteArray) (z t : Int) (u : S41 → S41) (r : List S41) : Prop where
  len : r.length ≤ 512
  srt : Srt r
  at_ : ∃ y ∈ l, y.f0 = a ∧ heldB (some y) c z t = true ∧ u y ∈ r ∧ ∀ w ∈ r, w = u y ∨ w ∈ l
  keep : ∀ e ∈ l, e.f0 ≠ a → e ∈ r
theorem get_some_mem {l : List S41} {a : S29} {y : S41} (h : get a l = some y) : y ∈ l ∧ y.f0 = a := by
  unfold get at h
  have h2 := List.find?_some (p := fun x : S41 => ea x.f0 a) h
  exact ⟨List.mem_of_find?_eq_some h, (ea_iff _ _).1 h2⟩
theorem upd_ok (l : List S41) (hl : l.length ≤ 512) (hs : Srt l) (a : S29) (c : ByteArray) (z t : Int) (u : S41 → S41) (hu : ∀ y, (u y).f0 = y.f0) (h : (updT l a c z t u).2 = 0) : UpdOk l a c z t u (updT l a c z t u).1 := by
  have hlen := updT_len l hl a c z t u
  cases hg : get a l with
  | none =>
    unfold updT at h
    rw [hg] at h
    cases h
  | some y =>
    obtain ⟨hp, hx, hf⟩ := get_at l hs a y hg
    cases hh : heldB (some y) c z t with
    | false =>
      unfold updT at h
      rw [hg] at h
      simp only [hh, Bool.false_eq_true, if_false] at h
      cases h
    | true =>
      have he : updT l a c z t u = (l.set (pos a l) (u y), 0) := by
        unfold updT
        rw [hg]
        simp only [hh, if_true]
      rw [he] at hlen ⊢
      refine ⟨hlen, srt_same (set_map l _ hp _ (by rw [hu, hx])) hs, ⟨y, (get_some_mem hg).1, hf, hh, List.mem_iff_getElem.2 ⟨pos a l, by rw [List.length_set]; exact hp, List.getElem_set_self ..⟩, fun w hw => ?_⟩, fun e h1 h2 => set_keep l _ hp _ e h1 (fun h3 => h2 (by rw [h3, hx, hf]))⟩
      rcases List.mem_or_eq_of_mem_set hw with h | h
      · exact .inr h
      · exact .inl h
theorem exp_map_mem (t : Int) : ∀ (l : List S41) (z : S41), z ∈ expT t l → ∃ y ∈ l, z = expX t y ∧ gone t y = false
  | [], _, h => absurd h List.not_mem_nil
  | x :: r, z, h => by
    unfold expT at h
    split at h
    · obtain ⟨y, h1, h2⟩ := exp_map_mem t r z h
      exact ⟨y, List.mem_cons_of_mem _ h1, h2⟩
    · rename_i hg
      rcases List.mem_cons.1 h with rfl | h
      · exact ⟨x, List.mem_cons_self .., rfl, by simpa using hg⟩
      · obtain ⟨y, h1, h2⟩ := exp_map_mem t r z h
        exact ⟨y, List.mem_cons_of_mem _ h1, h2⟩
theorem expX_f0 (t : Int) (x : S41) : (expX t x).f0 = x.f0 := by
  unfold expX
  split <;> rfl
theorem exp_srt (t : Int) : ∀ (l : List S41), Srt l → Srt (expT t l)
  | [], _ => List.Pairwise.nil
  | x :: r, hs => by
    obtain ⟨h1, h2⟩ := List.pairwise_cons.1 hs
    unfold expT
    split
    · exact exp_srt t r h2
    · refine List.pairwise_cons.2 ⟨fun z hz => ?_, exp_srt t r h2⟩
      obtain ⟨y, hy, rfl, _⟩ := exp_map_mem t r z hz
      rw [expX_f0, expX_f0]
      exact h1 y hy
theorem exp_keep (t : Int) (e : S41) (he : t < e.f4) : ∀ (l : List S41), e ∈ l → e ∈ expT t l
  | [], h => absurd h List.not_mem_nil
  | x :: r, h => by
    unfold expT
    rcases List.mem_cons.1 h with rfl | h
    · have h4 : decide (e.f4 ≤ t) = false := decide_eq_false (by omega)
      have hg : ¬ gone t e = true := by
        unfold gone
        rw [h4]
        simp
      have hx : expX t e = e := by
        unfold expX
        rw [h4]
        rfl
      rw [if_neg hg, hx]
      exact List.mem_cons_self ..
    · split
      · exact exp_keep t e he r h
      · exact List.mem_cons_of_mem _ (exp_keep t e he r h)
end Go.Proofs.YtonpcojdpfmbkaaDoor.Ma
namespace Go.Proofs.YtonpcojdpfmbkaaDoor.Ma
open Go.RowKit Go.Proofs.YtonpcojdpfmbkaaDoorW.PrintWords Go.Proofs.YtonpcojdpfmbkaaDoorW.PrintLast Go.Proofs.YtonpcojdpfmbkaaDoorW.PrintMore Go.Proofs.YtonpcojdpfmbkaaDoor.XP Go.Proofs.YtonpcojdpfmbkaaDoor.QA Go.Proofs.YtonpcojdpfmbkaaDoor.Cm
set_option linter.unusedVariables false
set_option linter.unusedSimpArgs false
theorem wf64 {n : Int} (h0 : -9223372036854775808 ≤ n) (h1 : n ≤ 9223372036854775807) : (Lit.int .i64 n).wf = true := by
  simp [Lit.wf, IntKind.min, IntKind.max, IntKind.signed, IntKind.bits]
  omega
theorem le64 {n : Int} (h : (Lit.int .i64 n).wf = true) : -9223372036854775808 ≤ n ∧ n ≤ 9223372036854775807 := by
  have : -9223372036854775808 ≤ n ∧ n ≤ 9223372036854775807 := by simpa [Lit.wf, IntKind.min, IntKind.max, IntKind.signed, IntKind.bits] using h
  omega
theorem time_iff (t : Int) : timeB t = true ↔ 0 ≤ t ∧ t ≤ 4294967295 := by
  unfold timeB
  rw [Bool.and_eq_true, decide_eq_true_eq, decide_eq_true_eq]
theorem aft_in {t d : Int} (ht : timeB t = true) (hd : 1 ≤ d) (hd2 : d ≤ 9223372036854775807) : timeB (aft t d) = true ∧ t ≤ aft t d := by
  rw [time_iff] at ht ⊢
  unfold aft
  have e : wrap64 (4294967295 - t) = 4294967295 - t := by unfold wrap64; omega
  rw [e]
  split
  · omega
  · have e2 : wrap64 (t + d) = t + d := by unfold wrap64; omega
    rw [e2]
    omega
theorem arg_parts {x : S41} (h : one x = 0) : (1 ≤ x.f2 ∧ x.f2 ≤ 5) ∧ cliB x.f1 = true ∧ timeB x.f6 = true ∧ timeB x.f3 = true ∧ timeB x.f4 = true ∧ x.f3 ≤ x.f4 ∧ hostB x.f5 = true := by
  unfold one at h
  split at h
  · split at h
    · split at h
      · rename_i h1 h2 h3
        unfold argB at h2
        simp only [Bool.and_eq_true, decide_eq_true_eq] at h2
        exact ⟨⟨h2.1, h2.2.1⟩, h2.2.2.1, h2.2.2.2.1, h2.2.2.2.2.1, h2.2.2.2.2.2.1, h2.2.2.2.2.2.2, h3⟩
      · cases h
    · cases h
  · cases h
theorem one_of {x : S41} (ha : adB x.f0 = true) (h2 : 1 ≤ x.f2) (h2' : x.f2 ≤ 5) (hc : cliB x.f1 = true) (h6 : timeB x.f6 = true) (h3 : timeB x.f3 = true) (h4 : timeB x.f4 = true) (h34 : x.f3 ≤ x.f4) (h5 : hostB x.f5 = true) : one x = 0 := by
  unfold one argB
  rw [if_pos ha, hc, h6, h3, h4, decide_eq_true h2, decide_eq_true h2', decide_eq_true h34, h5]
  rfl
/-- The arguments of a call, as they can be. -/
structure AskOk (a : S29) (c h : ByteArray) (d : Int) : Prop where
  a : okS29 a
  c : c.size ≤ 140737488351232
  h : h.size ≤ 140737488351232
  d : d ≤ 9223372036854775807
theorem ok_of {x : S41} (ha : okS29 x.f0) (hc : x.f1.size ≤ 140737488351232) (hh : x.f5.size ≤ 140737488351232) (ho : one x = 0) : okS41 x := by
  obtain ⟨⟨h1, h2⟩, _, h6, h3, h4, _, _⟩ := arg_parts ho
  rw [time_iff] at h6 h3 h4
  exact ⟨ha, hc, wf64 (by omega) (by omega), wf64 (by omega) (by omega), wf64 (by omega) (by omega), hh, wf64 (by omega) (by omega)⟩
theorem host_nil : hostB ⟨#[]⟩ = true := rfl
theorem mn_time {a b : Int} (ha : timeB a = true) (hb : timeB b = true) : timeB (mn a b) = true ∧ mn a b ≤ a := by
  unfold mn
  split
  · exact ⟨hb, by omega⟩
  · exact ⟨ha, Int.le_refl _⟩
theorem mx_time {a b : Int} (ha : timeB a = true) (hb : timeB b = true) : timeB (mx a b) = true ∧ b ≤ mx a b := by
  unfold mx
  split
  · exact ⟨hb, Int.le_refl _⟩
  · exact ⟨ha, by omega⟩
/-- A step of a script on a table. -/
def stepT (l : List S41) (K : Int) (a : S29) (c h : ByteArray) (z t d : Int) : List S41 × Int :=
  if K = 0 then offT l a c t d else if K = 1 then bindT l a c h z t d else if K = 2 then (if good3 c z t = true then updT l a c z t (relX t) else ([], 1)) else if K = 3 then (if good4 c z t d = true then updT l a c z t (decX t d) else ([], 1)) else if K = 4 then (expT t l, 0) else (l, 0)
def playT (l : List S41) (K : Int) (a : S29) (c h : ByteArray) (z t d : Int) : List S41 := if (stepT l K a c h z t d).2 = 0 then (stepT l K a c h z t d).1 else l
theorem play_ev (l : List S41) (hl : l.length ≤ 512) (hs : Srt l) (K : Int) (a : S29) (c h : ByteArray) (z t d : Int) (hok : AskOk a c h d) : Ev (fun k => ddilaw38_play.f k l K a.f0 a.f1 a.f2 c h z t d) (playT l (Int.tmod K 5) a c h z t d) := by
  have hj : ∀ r : List S41 × Int, Ev (fun k => ddilaw38_play.j0 k l r.1 r.2) (if r.2 = 0 then r.1 else l) := by
    rintro ⟨q, n⟩
    by_cases hn : n = 0
    · exact Ev_shift 1 (f := fun _ => some q) (fun k => by rw [ddilaw38_play.j0, if_pos hn]) (Ev_const (by rw [if_pos hn]))
    · exact Ev_shift 1 (f := fun _ => some l) (fun k => by rw [ddilaw38_play.j0, if_neg hn]) (Ev_const (by rw [if_neg hn]))
  unfold ddilaw38_play.f playT
  by_cases h0 : Int.tmod K 5 = 0
  · have e : stepT l (Int.tmod K 5) a c h z t d = offT l a c t d := by unfold stepT; rw [if_pos h0]
    rw [e]
    simp only [if_pos h0]
    exact Ev.bind (offer_ev l hl hs a c hok.c t d) (hj _)
  by_cases h1 : Int.tmod K 5 = 1
  · have e : stepT l (Int.tmod K 5) a c h z t d = bindT l a c h z t d := by unfold stepT; rw [if_neg h0, if_pos h1]
    rw [e]
    simp only [if_neg h0, if_pos h1]
    exact Ev.bind (bind_ev l hl hs a c h hok.c hok.h z t d) (hj _)
  by_cases h2 : Int.tmod K 5 = 2
  · have e : stepT l (Int.tmod K 5) a c h z t d = (if good3 c z t = true then updT l a c z t (relX t) else ([], 1)) := by unfold stepT; rw [if_neg h0, if_neg h1, if_pos h2]
    rw [e]
    simp only [if_neg h0, if_neg h1, if_pos h2]
    exact Ev.bind (rel_ev l hl hs a c hok.c z t) (hj _)
  by_cases h3 : Int.tmod K 5 = 3
  · have e : stepT l (Int.tmod K 5) a c h z t d = (if good4 c z t d = true then updT l a c z t (decX t d) else ([], 1)) := by unfold stepT; rw [if_neg h0, if_neg h1, if_neg h2, if_pos h3]
    rw [e]
    simp only [if_neg h0, if_neg h1, if_neg h2, if_pos h3]
    exact Ev.bind (dec_ev l hl hs a c hok.c z t d) (hj _)
  by_cases h4 : Int.tmod K 5 = 4
  · have e : stepT l (Int.tmod K 5) a c h z t d = (expT t l, 0) := by unfold stepT; rw [if_neg h0, if_neg h1, if_neg h2, if_neg h3, if_pos h4]
    rw [e]
    simp only [if_neg h0, if_neg h1, if_neg h2, if_neg h3, if_pos h4]
    refine Ev.bind (show Ev (fun k => lease_Expire.f k l t) (expT t l) by unfold lease_Expire.f; exact exp_from l hl t l 0 [] rfl (Nat.le_refl _)) ?_
    exact hj (expT t l, 0)
  · have e : stepT l (Int.tmod K 5) a c h z t d = (l, 0) := by unfold stepT; rw [if_neg h0, if_neg h1, if_neg h2, if_neg h3, if_neg h4]
    rw [e]
    simp only [if_neg h0, if_neg h1, if_neg h2, if_neg h3, if_neg h4]
    exact hj (l, 0)
/-- What holds of a step that succeeds. -/
structure StepOk (l : List S41) (K : Int) (a : S29) (c : ByteArray) (z t : Int) (r : List S41) : Prop where
  tab : Tab r
  keep : ∀ e ∈ l, forB e t = true → (K = 4 ∨ e.f0 ≠ a) → e ∈ r
  hold : ∀ e ∈ l, forB e t = true → e.f2 = 2 → ∃ y ∈ r, y.f0 = e.f0 ∧ y.f1.data.toList = e.f1.data.toList ∧ (y.f2 = 2 ∨ ((K = 2 ∨ K = 3) ∧ c.data.toList = e.f1.data.toList ∧ a = e.f0 ∧ z ≥ e.f6))
theorem stay_ok {l : List S41} (hT : Tab l) (K : Int) (a : S29) (c : ByteArray) (z t : Int) : StepOk l K a c z t l :=
  ⟨hT, fun e h _ _ => h, fun e h _ h2 => ⟨e, h, rfl, rfl, .inl h2⟩⟩
theorem set_step {l : List S41} (hT : Tab l) (K : Int) (hK : K ≠ 4) (x : S41) (c : ByteArray) (z t : Int) (hx1 : one x = 0) (hx2 : okS41 x) (hin : ∀ e ∈ l, forB e t = true → e.f2 = 2 → e.f0 = x.f0 → x.f2 = 2 ∧ x.f1.data.toList = e.f1.data.toList) (h : (setT l x t).2 = 0) : StepOk l K x.f0 c z t (setT l x t).1 := by
  have hs := set_ok l hT.len hT.srt x t h
  refine ⟨⟨hs.len, hs.srt, fun w hw => ?_, fun w hw => ?_⟩, fun e he hf hk => ?_, fun e he hf h2 => ?_⟩
  · rcases hs.only w hw with rfl | hw
    · exact hx1
    · exact hT.one w hw
  · rcases hs.only w hw with rfl | hw
    · exact hx2
    · exact hT.ok w hw
  · rcases hk with hk | hk
    · exact absurd hk hK
    · exact hs.keep e he hk hf
  · by_cases ha : e.f0 = x.f0
    · obtain ⟨i1, i2⟩ := hin e he hf h2 ha
      exact ⟨x, hs.new, ha.symm, i2, .inl i1⟩
    · exact ⟨e, hs.keep e he ha hf, rfl, rfl, .inl h2⟩
theorem fr_mem {l : List S41} (hs : Srt l) {e : S41} (he : e ∈ l) (c : ByteArray) (t : Int) (h : frB (get e.f0 l) c t = true) (hf : forB e t = true) : e.f2 ≠ 5 ∧ e.f1.data.toList = c.data.toList := by
  rw [get_mem l hs e he] at h
  have h2 : freeB e c t = true := h
  unfold freeB at h2
  rw [hf] at h2
  simpa using h2
theorem off_step {l : List S41} (hT : Tab l) (a : S29) (c h : ByteArray) (z t d : Int) (hok : AskOk a c h d) (hr : (offT l a c t d).2 = 0) : StepOk l 0 a c z t (offT l a c t d).1 := by
  unfold offT at hr ⊢
  by_cases ha : adB a = true
  case neg => rw [if_neg ha] at hr; cases hr
  rw [if_pos ha] at hr ⊢
  by_cases hg : (cliB c && (timeB t && decide (1 ≤ d))) = true
  case neg => rw [if_neg hg] at hr; cases hr
  rw [if_pos hg] at hr ⊢
  by_cases hf : frB (get a l) c t = true
  case neg => rw [if_neg hf] at hr; cases hr
  rw [if_pos hf] at hr ⊢
  simp only [Bool.and_eq_true, decide_eq_true_eq] at hg
  obtain ⟨hc, ht, hd⟩ := hg
  by_cases hk : keep (get a l) c t = true
  · rw [if_pos hk] at hr ⊢
    exact stay_ok hT 0 a c z t
  · rw [if_neg hk] at hr ⊢
    obtain ⟨g1, g2⟩ := aft_in ht hd hok.d
    have hx6 : timeB (xidO (get a l) c) = true := by
      cases hg : get a l with
      | none => rfl
      | some y =>
        show timeB (if mine y c = true then y.f6 else 0) = true
        split
        · exact (arg_parts (hT.one y (get_some_mem hg).1)).2.2.1
        · rfl
    have ho : one ⟨a, c, 1, t, aft t d, ⟨#[]⟩, xidO (get a l) c⟩ = 0 := one_of ha (show (1 : Int) ≤ 1 by decide) (show (1 : Int) ≤ 5 by decide) hc hx6 ht g1 g2 host_nil
    refine set_step hT 0 (by decide) ⟨a, c, 1, t, aft t d, ⟨#[]⟩, xidO (get a l) c⟩ c z t ho (ok_of hok.a hok.c (show (⟨#[]⟩ : ByteArray).size ≤ 140737488351232 by decide) ho) (fun e he hfe h2 hea => ?_) hr
    obtain ⟨f1, f2⟩ := fr_mem hT.srt he c t (by rw [hea]; exact hf) hfe
    refine absurd ?_ hk
    have hga : get a l = some e := by
      have := get_mem l hT.srt e he
      rw [hea] at this
      exact this
    rw [hga]
    show (mine e c && (decide (e.f2 = 2) && forB e t)) = true
    unfold mine
    rw [decide_eq_true f2, decide_eq_true h2, hfe]
    rfl
theorem bind_step {l : List S41} (hT : Tab l) (a : S29) (c h : ByteArray) (z t d : Int) (hok : AskOk a c h d) (hr : (bindT l a c h z t d).2 = 0) : StepOk l 1 a c z t (bindT l a c h z t d).1 := by
  unfold bindT at hr ⊢
  by_cases ha : adB a = true
  case neg => rw [if_neg ha] at hr; cases hr
  rw [if_pos ha] at hr ⊢
  by_cases hg : good4 c z t d = true
  case neg => rw [if_neg hg] at hr; cases hr
  rw [if_pos hg] at hr ⊢
  by_cases hh : hostB h = true
  case neg => rw [if_neg hh] at hr; cases hr
  rw [if_pos hh] at hr ⊢
  by_cases hf : frB (get a l) c t = true
  case neg => rw [if_neg hf] at hr; cases hr
  rw [if_pos hf] at hr ⊢
  unfold good4 at hg
  simp only [Bool.and_eq_true, decide_eq_true_eq] at hg
  obtain ⟨hc, hz, ht, hd⟩ := hg
  obtain ⟨g1, g2⟩ := aft_in ht hd hok.d
  have hx6 : timeB (bxiO (get a l) c z) = true := by
    cases hg : get a l with
    | none => exact hz
    | some y =>
      show timeB (if mine y c = true then mx z y.f6 else z) = true
      split
      · exact (mx_time hz (arg_parts (hT.one y (get_some_mem hg).1)).2.2.1).1
      · exact hz
  have hx3 : timeB (bstO (get a l) c t) = true ∧ bstO (get a l) c t ≤ t := by
    cases hg : get a l with
    | none => exact ⟨ht, Int.le_refl _⟩
    | some y =>
      show timeB (if (mine y c && (decide (y.f2 = 2) && forB y t)) = true then mn t y.f3 else t) = true ∧ (if (mine y c && (decide (y.f2 = 2) && forB y t)) = true then mn t y.f3 else t) ≤ t
      split
      · exact mn_time ht (arg_parts (hT.one y (get_some_mem hg).1)).2.2.2.1
      · exact ⟨ht, Int.le_refl _⟩
  have ho : one (newB l a c h z t d) = 0 := one_of ha (by show (1 : Int) ≤ 2; decide) (by show (2 : Int) ≤ 5; decide) hc hx6 hx3.1 g1 (Int.le_trans hx3.2 g2) hh
  exact set_step hT 1 (by decide) (newB l a c h z t d) c z t ho (ok_of hok.a hok.c hok.h ho) (fun e he hfe h2 hea => ⟨rfl, (fr_mem hT.srt he c t (by rw [hea]; exact hf) hfe).2.symm⟩) hr
theorem upd_step {l : List S41} (hT : Tab l) (K : Int) (hK : K = 2 ∨ K = 3) (a : S29) (c : ByteArray) (z t : Int) (u : S41 → S41) (hu : ∀ y, (u y).f0 = y.f0) (hu1 : ∀ y, (u y).f1 = y.f1) (hone : ∀ y, one y = 0 → okS41 y → one (u y) = 0 ∧ okS41 (u y)) (h : (updT l a c z t u).2 = 0) : StepOk l K a c z t (updT l a c z t u).1 := by
  have hs := upd_ok l hT.len hT.srt a c z t u hu h
  obtain ⟨y, hy, hya, hhe, hin, honly⟩ := hs.at_
  obtain ⟨o1, o2⟩ := hone y (hT.one y hy) (hT.ok y hy)
  refine ⟨⟨hs.len, hs.srt, fun w hw => ?_, fun w hw => ?_⟩, fun e he hf hk => ?_, fun e he hf h2 => ?_⟩
  · rcases honly w hw with rfl | hw
    · exact o1
    · exact hT.one w hw
  · rcases honly w hw with rfl | hw
    · exact o2
    · exact hT.ok w hw
  · rcases hk with hk | hk
    · omega
    · exact hs.keep e he hk
  · by_cases ha : e.f0 = a
    · have hey : e = y := by
        have g1 := get_mem l hT.srt e he
        have g2 := get_mem l hT.srt y hy
        rw [ha] at g1
        rw [hya, g1] at g2
        exact Option.some.inj g2
      subst hey
      have hm : heldB (some e) c z t = (mine e c && ((decide (e.f2 = 1) || decide (e.f2 = 2)) && (forB e t && decide (z ≥ e.f6)))) := rfl
      rw [hm] at hhe
      simp only [Bool.and_eq_true, decide_eq_true_eq, mine] at hhe
      exact ⟨u e, hin, hu e, by rw [hu1], .inr ⟨hK, hhe.1.symm, ha.symm, hhe.2.2.2⟩⟩
    · exact ⟨e, hs.keep e he ha, rfl, rfl, .inl h2⟩
theorem exp_step {l : List S41} (hT : Tab l) (a : S29) (c : ByteArray) (z t : Int) : StepOk l 4 a c z t (expT t l) := by
  have hone : ∀ y, one y = 0 → okS41 y → one (expX t y) = 0 ∧ okS41 (expX t y) := by
    intro y h1 h2
    unfold expX
    split
    · obtain ⟨_, p2, p3, p4, p5, p6, p7⟩ := arg_parts h1
      have ho : one ⟨y.f0, y.f1, 4, y.f3, y.f4, y.f5, y.f6⟩ = 0 := one_of (one_ad y h1) (show (1 : Int) ≤ 4 by decide) (show (4 : Int) ≤ 5 by decide) p2 p3 p4 p5 p6 p7
      exact ⟨ho, ok_of h2.1 h2.2.1 h2.2.2.2.2.2.1 ho⟩
    · exact ⟨h1, h2⟩
  have hlt : ∀ e : S41, forB e t = true → t < e.f4 := by
    intro e h
    unfold forB at h
    rw [Bool.and_eq_true, decide_eq_true_eq] at h
    exact h.1
  refine ⟨⟨Nat.le_trans (expT_len t l) hT.len, exp_srt t l hT.srt, fun w hw => ?_, fun w hw => ?_⟩, fun e he hf _ => exp_keep t e (hlt e hf) l he, fun e he hf h2 => ⟨e, exp_keep t e (hlt e hf) l he, rfl, rfl, .inl h2⟩⟩
  · obtain ⟨y, hy, rfl, _⟩ := exp_map_mem t l w hw
    exact (hone y (hT.one y hy) (hT.ok y hy)).1
  · obtain ⟨y, hy, rfl, _⟩ := exp_map_mem t l w hw
    exact (hone y (hT.one y hy) (hT.ok y hy)).2
theorem step_ok {l : List S41} (hT : Tab l) (K : Int) (a : S29) (c h : ByteArray) (z t d : Int) (hok : AskOk a c h d) : StepOk l K a c z t (playT l K a c h z t d) := by
  unfold playT
  split
  case isFalse => exact stay_ok hT K a c z t
  case isTrue hr =>
    unfold stepT at hr ⊢
    by_cases h0 : K = 0
    · rw [if_pos h0] at hr ⊢
      subst h0
      exact off_step hT a c h z t d hok hr
    rw [if_neg h0] at hr ⊢
    by_cases h1 : K = 1
    · rw [if_pos h1] at hr ⊢
      subst h1
      exact bind_step hT a c h z t d hok hr
    rw [if_neg h1] at hr ⊢
    by_cases h2 : K = 2
    · rw [if_pos h2] at hr ⊢
      by_cases hg : good3 c z t = true
      case neg => rw [if_neg hg] at hr; cases hr
      rw [if_pos hg] at hr ⊢
      unfold good3 at hg
      simp only [Bool.and_eq_true] at hg
      refine upd_step hT K (.inl h2) a c z t (relX t) (fun _ => rfl) (fun _ => rfl) (fun y y1 y2 => ?_) hr
      obtain ⟨_, p2, p3, p4, p5, p6, p7⟩ := arg_parts y1
      obtain ⟨m1, m2⟩ := mx_time hg.2.2 p4
      have ho : one (relX t y) = 0 := one_of (one_ad y y1) (by show (1 : Int) ≤ 3; decide) (by show (3 : Int) ≤ 5; decide) p2 p3 p4 m1 m2 p7
      exact ⟨ho, ok_of y2.1 y2.2.1 y2.2.2.2.2.2.1 ho⟩
    rw [if_neg h2] at hr ⊢
    by_cases h3 : K = 3
    · rw [if_pos h3] at hr ⊢
      by_cases hg : good4 c z t d = true
      case neg => rw [if_neg hg] at hr; cases hr
      rw [if_pos hg] at hr ⊢
      unfold good4 at hg
      simp only [Bool.and_eq_true, decide_eq_true_eq] at hg
      refine upd_step hT K (.inr h3) a c z t (decX t d) (fun _ => rfl) (fun _ => rfl) (fun y y1 y2 => ?_) hr
      obtain ⟨_, p2, p3, p4, p5, p6, p7⟩ := arg_parts y1
      obtain ⟨g1, g2⟩ := aft_in hg.2.2.1 hg.2.2.2 hok.d
      have ho : one (decX t d y) = 0 := one_of (one_ad y y1) (by show (1 : Int) ≤ 5; decide) (by show (5 : Int) ≤ 5; decide) p2 p3 hg.2.2.1 g1 g2 p7
      exact ⟨ho, ok_of y2.1 y2.2.1 y2.2.2.2.2.2.1 ho⟩
    rw [if_neg h3] at hr ⊢
    by_cases h4 : K = 4
    · rw [if_pos h4]
      subst h4
      exact exp_step hT a c z t
    · rw [if_neg h4]
      exact stay_ok hT K a c z t
end Go.Proofs.YtonpcojdpfmbkaaDoor.Ma
namespace Go.Proofs.YtonpcojdpfmbkaaDoor.Ma
open Go.RowKit Go.Proofs.YtonpcojdpfmbkaaDoorW.PrintWords Go.Proofs.YtonpcojdpfmbkaaDoorW.PrintLast Go.Proofs.YtonpcojdpfmbkaaDoorW.PrintMore Go.Proofs.YtonpcojdpfmbkaaDoor.XP Go.Proofs.YtonpcojdpfmbkaaDoor.QA Go.Proofs.YtonpcojdpfmbkaaDoor.Cm
set_option linter.unusedVariables false
set_option linter.unusedSimpArgs false
theorem rd52 (q : List S52) (i : Nat) (y : S52) (r : List S52) (h : q.drop i = y :: r) : i < q.length ∧ rd_T52 q (i : Int) = y ∧ q.drop (i + 1) = r := by
  obtain ⟨hi, hx, hr⟩ := drop_at h
  refine ⟨hi, ?_, hr⟩
  simp [rd_T52, List.getD_eq_getElem?_getD, List.getElem?_eq_getElem hi, hx]
theorem ask_ok {s : S52} (h : okS52 s) : AskOk s.f1.f0 s.f1.f1 s.f1.f2 s.f1.f5 := ⟨h.2.1, h.2.2.1, h.2.2.2.1, (le64 h.2.2.2.2.2.2).2⟩
theorem for_of {e : S41} (h : one e = 0) (t : Int) (h4 : t < e.f4) (h3 : e.f2 ≠ 3) (h2 : e.f2 ≠ 4) : forB e t = true := by
  obtain ⟨⟨p1, p2⟩, _⟩ := arg_parts h
  have : e.f2 = 1 ∨ e.f2 = 2 ∨ e.f2 = 5 := by omega
  unfold forB
  rw [decide_eq_true h4]
  rcases this with h | h | h <;> rw [h] <;> rfl
theorem tab1_from (l y : List S41) (hl : Tab l) (hy : Tab y) (q : List S52) (n : Int) (s : S52) (hkeep : ∀ e ∈ l, forB e s.f1.f4 = true → (Int.tmod s.f0 5 = 4 ∨ e.f0 ≠ s.f1.f0) → e ∈ y) (hR : Ev (fun k => ddilaw38_LeaseTables.l0 k y q (wrap64 (n + 1))) true) :
    ∀ (r : List S41) (i : Nat), l.drop i = r → Ev (fun k => ddilaw38_LeaseTables.l1 k l q n y (i : Int) s.f0 s.f1.f0.f0 s.f1.f0.f1 s.f1.f0.f2 s.f1.f1 s.f1.f2 s.f1.f3 s.f1.f4 s.f1.f5) true
  | [], i, h => by
    have := drop_end h
    exact Ev_shift 1 (fun k => by rw [ddilaw38_LeaseTables.l1, if_neg (by omega)]) hR
  | e :: r, i, h => by
    have hlen := hl.len
    obtain ⟨hi, hx, hr⟩ := rd41 l i e r h
    have he : e ∈ l := by
      have : e ∈ l.drop i := by rw [h]; exact List.mem_cons_self ..
      exact List.mem_of_mem_drop this
    have ih := tab1_from l y hl hy q n s hkeep hR r (i + 1) hr
    have hj : Ev (fun k => ddilaw38_LeaseTables.j3 k l q n y (i : Int) false s.f0 s.f1.f0.f0 s.f1.f0.f1 s.f1.f0.f2 s.f1.f1 s.f1.f2 s.f1.f3 s.f1.f4 s.f1.f5) true :=
      Ev_shift 1 (fun k => by rw [ddilaw38_LeaseTables.j3, if_neg Bool.false_ne_true, next i l.length hi (by omega)]) ih
    have hlate : ¬ forB e s.f1.f4 = true → Ev (fun k => if e.f4 > s.f1.f4 then (if e.f2 = 3 then (ddilaw38_LeaseTables.j3 k l q n y (i : Int) false s.f0 s.f1.f0.f0 s.f1.f0.f1 s.f1.f0.f2 s.f1.f1 s.f1.f2 s.f1.f3 s.f1.f4 s.f1.f5) else (ddilaw38_LeaseTables.j3 k l q n y (i : Int) (e.f2 != 4) s.f0 s.f1.f0.f0 s.f1.f0.f1 s.f1.f0.f2 s.f1.f1 s.f1.f2 s.f1.f3 s.f1.f4 s.f1.f5)) else (ddilaw38_LeaseTables.j3 k l q n y (i : Int) false s.f0 s.f1.f0.f0 s.f1.f0.f1 s.f1.f0.f2 s.f1.f1 s.f1.f2 s.f1.f3 s.f1.f4 s.f1.f5)) true := by
      intro hf
      by_cases h4 : e.f4 > s.f1.f4
      · simp only [if_pos h4]
        by_cases h3 : e.f2 = 3
        · simp only [if_pos h3]
          exact hj
        · simp only [if_neg h3]
          have h2 : e.f2 = 4 := by
            by_cases h2 : e.f2 = 4
            · exact h2
            · exact absurd (for_of (hl.one e he) s.f1.f4 h4 h3 h2) hf
          have hb : (e.f2 != 4) = false := by rw [h2]; rfl
          rw [hb]
          exact hj
      · simp only [if_neg h4]
        exact hj
    have hcond : e ∉ y → Ev (fun k => if (Int.tmod s.f0 5) = 4 then (if e.f4 > s.f1.f4 then (if e.f2 = 3 then (ddilaw38_LeaseTables.j3 k l q n y (i : Int) false s.f0 s.f1.f0.f0 s.f1.f0.f1 s.f1.f0.f2 s.f1.f1 s.f1.f2 s.f1.f3 s.f1.f4 s.f1.f5) else (ddilaw38_LeaseTables.j3 k l q n y (i : Int) (e.f2 != 4) s.f0 s.f1.f0.f0 s.f1.f0.f1 s.f1.f0.f2 s.f1.f1 s.f1.f2 s.f1.f3 s.f1.f4 s.f1.f5)) else (ddilaw38_LeaseTables.j3 k l q n y (i : Int) false s.f0 s.f1.f0.f0 s.f1.f0.f1 s.f1.f0.f2 s.f1.f1 s.f1.f2 s.f1.f3 s.f1.f4 s.f1.f5)) else (if (!(e.f0.f0 == s.f1.f0.f0) || (!(e.f0.f1 == s.f1.f0.f1) || (!(e.f0.f2 == s.f1.f0.f2)))) = true then (if e.f4 > s.f1.f4 then (if e.f2 = 3 then (ddilaw38_LeaseTables.j3 k l q n y (i : Int) false s.f0 s.f1.f0.f0 s.f1.f0.f1 s.f1.f0.f2 s.f1.f1 s.f1.f2 s.f1.f3 s.f1.f4 s.f1.f5) else (ddilaw38_LeaseTables.j3 k l q n y (i : Int) (e.f2 != 4) s.f0 s.f1.f0.f0 s.f1.f0.f1 s.f1.f0.f2 s.f1.f1 s.f1.f2 s.f1.f3 s.f1.f4 s.f1.f5)) else (ddilaw38_LeaseTables.j3 k l q n y (i : Int) false s.f0 s.f1.f0.f0 s.f1.f0.f1 s.f1.f0.f2 s.f1.f1 s.f1.f2 s.f1.f3 s.f1.f4 s.f1.f5)) else (ddilaw38_LeaseTables.j3 k l q n y (i : Int) false s.f0 s.f1.f0.f0 s.f1.f0.f1 s.f1.f0.f2 s.f1.f1 s.f1.f2 s.f1.f3 s.f1.f4 s.f1.f5))) true := by
      intro hn
      by_cases hK : (Int.tmod s.f0 5) = 4
      · simp only [if_pos hK]
        exact hlate (fun hf => hn (hkeep e he hf (.inl hK)))
      · simp only [if_neg hK]
        by_cases ha : (!(e.f0.f0 == s.f1.f0.f0) || (!(e.f0.f1 == s.f1.f0.f1) || (!(e.f0.f2 == s.f1.f0.f2)))) = true
        · simp only [if_pos ha]
          refine hlate (fun hf => hn (hkeep e he hf (.inr fun h2 => ?_)))
          rw [h2] at ha
          simp at ha
        · simp only [if_neg ha]
          exact hj
    have hf := find_ev y (by have := hy.len; omega) hy.srt e.f0
    refine Ev_shift 1 (fun k => by rw [ddilaw38_LeaseTables.l1, if_pos (by omega), if_pos (by omega), hx]) ?_
    refine Ev.bind hf ?_
    cases hg : get e.f0 y with
    | none =>
      simp only [tup, Bool.false_eq_true, if_false]
      refine hcond (fun hm => ?_)
      rw [get_mem y hy.srt e hm] at hg
      cases hg
    | some z =>
      simp only [tup, if_true]
      by_cases hm : e ∈ y
      · rw [get_mem y hy.srt e hm] at hg
        cases hg
        have hb : ((!(e.f0.f0 == e.f0.f0) || (!(e.f0.f1 == e.f0.f1) || (!(e.f0.f2 == e.f0.f2)))) || (!(e.f1.toList == e.f1.toList) || (!(e.f2 == e.f2) || (!(e.f3 == e.f3) || (!(e.f4 == e.f4) || (!(e.f5.toList == e.f5.toList) || (!(e.f6 == e.f6)))))))) = false := by simp
        simp only [hb, Bool.false_eq_true, if_false]
        exact hj
      · rcases Bool.eq_false_or_eq_true ((!(z.f0.f0 == e.f0.f0) || (!(z.f0.f1 == e.f0.f1) || (!(z.f0.f2 == e.f0.f2)))) || (!(z.f1.toList == e.f1.toList) || (!(z.f2 == e.f2) || (!(z.f3 == e.f3) || (!(z.f4 == e.f4) || (!(z.f5.toList == e.f5.toList) || (!(z.f6 == e.f6)))))))) with hb | hb
        · simp only [hb, if_true]
          exact hcond hm
        · simp only [hb, Bool.false_eq_true, if_false]
          exact hj
theorem tab_from (q : List S52) (hq : q.length ≤ 100) (ok : ∀ s ∈ q, okS52 s) : ∀ (r : List S52) (i : Nat) (l : List S41), q.drop i = r → Tab l → Ev (fun k => ddilaw38_LeaseTables.l0 k l q (i : Int)) true
  | [], i, l, h, hl => by
    have := drop_end h
    refine Ev_shift 1 (fun k => by rw [ddilaw38_LeaseTables.l0, if_neg (by omega)]) ?_
    exact Ev.bind awake_ev (Ev_const rfl)
  | s :: r, i, l, h, hl => by
    obtain ⟨hi, hx, hr⟩ := rd52 q i s r h
    have hs : s ∈ q := by
      have : s ∈ q.drop i := by rw [h]; exact List.mem_cons_self ..
      exact List.mem_of_mem_drop this
    have hok := ask_ok (ok s hs)
    have st := step_ok hl (Int.tmod s.f0 5) s.f1.f0 s.f1.f1 s.f1.f2 s.f1.f3 s.f1.f4 s.f1.f5 hok
    have ih := tab_from q hq ok r (i + 1) _ hr st.tab
    refine Ev_shift 1 (fun k => by rw [ddilaw38_LeaseTables.l0, if_pos (by omega), if_pos (by omega), hx]) ?_
    refine Ev.bind (play_ev l hl.len hl.srt s.f0 s.f1.f0 s.f1.f1 s.f1.f2 s.f1.f3 s.f1.f4 s.f1.f5 hok) ?_
    refine Ev.bind (check_ev _ (by have := st.tab.len; omega) st.tab.ok) ?_
    rw [tab_chk st.tab]
    simp only [if_true]
    refine tab1_from l _ hl st.tab q (i : Int) s st.keep ?_ l 0 rfl
    rw [wnext i (by omega)]
    exact ih
theorem leaseTables : ddilaw38_LeaseTables.Pure := by
  intro l q ⟨hl, _, ok⟩ ⟨hq, _, okq⟩
  refine Ev.rounds (?_ : Ev (fun k => ddilaw38_LeaseTables.f k l q) true)
  unfold ddilaw38_LeaseTables.f
  refine Ev.bind (check_ev l (by omega) ok) ?_
  have hend : Ev (fun k => ddilaw38_LeaseTables.j0 k l q true) true := by
    refine Ev_shift 1 (fun k => by rw [ddilaw38_LeaseTables.j0, if_pos rfl]) ?_
    exact Ev.bind awake_ev (Ev_const rfl)
  by_cases h0 : chkT l = 0
  · simp only [if_pos h0]
    by_cases hn : (q.length : Int) > 100
    · rw [decide_eq_true hn]
      exact hend
    · rw [decide_eq_false hn]
      refine Ev_shift 1 (fun k => by rw [ddilaw38_LeaseTables.j0, if_neg Bool.false_ne_true]) ?_
      exact tab_from q (by omega) okq q 0 l rfl (chk_tab h0 ok)
  · simp only [if_neg h0]
    exact hend
end Go.Proofs.YtonpcojdpfmbkaaDoor.Ma
namespace Go.Proofs.YtonpcojdpfmbkaaDoor.Pure
theorem LeaseTables : QA.ddilaw38_LeaseTables.Pure := Ma.leaseTables
end Go.Proofs.YtonpcojdpfmbkaaDoor.Pure
