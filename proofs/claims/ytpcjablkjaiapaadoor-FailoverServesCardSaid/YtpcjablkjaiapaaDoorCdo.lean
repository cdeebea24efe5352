/- Domain names: what lies between the periods; Valid of the program and of the reference are one test. -/
import Derived.Test.YtpcjablkjaiapaaDoorQAd1
import Derived.Test.YtpcjablkjaiapaaDoorQAd2
import Derived.Test.YtpcjablkjaiapaaDoorCdn
namespace Go.Proofs.YtpcjablkjaiapaaDoor.Cm
open Go.RowKit Go.Proofs.YtpcjablkjaiapaaDoorW.PrintWords Go.Proofs.YtpcjablkjaiapaaDoorW.PrintLast Go.Proofs.YtpcjablkjaiapaaDoorW.PrintMore Go.Proofs.YtpcjablkjaiapaaDoor.XP Go.Proofs.YtpcjablkjaiapaaDoor.QA
set_option linter.unusedVariables false
set_option linter.unusedSimpArgs false
def mkB (l : List UInt8) : ByteArray := ⟨l.toArray⟩
theorem mkB_data (l : List UInt8) : (mkB l).data.toList = l := rfl
theorem mkB_of (s : ByteArray) : mkB s.data.toList = s := by
  obtain ⟨⟨l⟩⟩ := s
  rfl
theorem mkB_size (l : List UInt8) : (mkB l).size = l.length := by rw [size_data]; rfl
/-- What lies between the periods; cur is what was read since the last one. -/
def pcs : List UInt8 → List UInt8 → List (List UInt8)
  | cur, [] => [cur]
  | cur, c :: r => if c = 46 then cur :: pcs [] r else pcs (cur ++ [c]) r
def dots (l : List UInt8) : Nat := l.count 46
theorem pcs_len : ∀ (l cur : List UInt8), (pcs cur l).length = dots l + 1
  | [], _ => rfl
  | c :: r, cur => by
    rw [pcs]
    by_cases h : c = 46
    · subst h
      rw [if_pos rfl, List.length_cons, pcs_len r, dots, dots, List.count_cons_self]
    · rw [if_neg h, pcs_len r, dots, dots, List.count_cons_of_ne h]
theorem idx_some : ∀ l : List UInt8, 0 < dots l → ∃ p q, l = p ++ 46 :: q ∧ dots p = 0 ∧ Go.Lib.indexByte l 46 = (p.length : Int)
  | [], h => by cases h
  | c :: r, h => by
    by_cases hc : c = 46
    · subst hc
      exact ⟨[], r, rfl, rfl, rfl⟩
    · have hr : 0 < dots r := by
        rw [dots, List.count_cons_of_ne hc] at h
        exact h
      obtain ⟨p, q, e, hp, hi⟩ := idx_some r hr
      have hb : (c == 46) = false := by simpa using hc
      refine ⟨c :: p, q, by rw [e]; rfl, by rw [dots, List.count_cons_of_ne hc]; exact hp, ?_⟩
      rw [Go.Lib.indexByte, hb, hi]
      have : ((p.length : Int) == -1) = false := by
        rw [beq_eq_false_iff_ne]
        omega
      simp only [this, Bool.false_eq_true, if_false, List.length_cons]
      omega
theorem pcs_front : ∀ (p cur q : List UInt8), dots p = 0 → pcs cur (p ++ 46 :: q) = (cur ++ p) :: pcs [] q
  | [], cur, q, _ => by simp [pcs]
  | c :: p, cur, q, h => by
    have hc : ¬ c = 46 := by
      rintro rfl
      rw [dots, List.count_cons_self] at h
      omega
    have hp : dots p = 0 := by
      rw [dots, List.count_cons_of_ne hc] at h
      exact h
    rw [List.cons_append, pcs, if_neg hc, pcs_front p _ q hp]
    simp
theorem pcs_last : ∀ (p cur : List UInt8), dots p = 0 → pcs cur p = [cur ++ p]
  | [], cur, _ => by simp [pcs]
  | c :: p, cur, h => by
    have hc : ¬ c = 46 := by
      rintro rfl
      rw [dots, List.count_cons_self] at h
      omega
    have hp : dots p = 0 := by
      rw [dots, List.count_cons_of_ne hc] at h
      exact h
    rw [pcs, if_neg hc, pcs_last p _ hp]
    simp
theorem dots_le (l : List UInt8) : dots l ≤ l.length := List.count_le_length
theorem set_at {α : Type} (d : List α) (x e : α) (n : Nat) : (d ++ List.replicate (n + 1) e).set d.length x = d ++ [x] ++ List.replicate n e := by
  rw [List.replicate_succ, List.set_append_right _ _ (Nat.le_refl _), Nat.sub_self, List.set_cons_zero, List.append_assoc]
  rfl
def sep1 : ByteArray := ⟨#[46]⟩
theorem sfind (s : ByteArray) : strings_Index.f s sep1 = some (Go.Lib.indexByte s.data.toList 46) := rfl
theorem scount (s : ByteArray) : strings_Count.f s sep1 = some ((dots s.data.toList : Nat) : Int) := rfl
theorem nx1 (n : Nat) (h : n ≤ 1000000) : wrap64 ((n : Int) + 1) = ((n + 1 : Nat) : Int) := by rw [wrap_id (by omega) (by omega)]; omega
theorem nx0 (n : Nat) (h : n ≤ 1000000) : wrap64 ((n : Int) + 0) = ((n : Nat) : Int) := by rw [wrap_id (by omega) (by omega)]; omega
set_option maxHeartbeats 400000 in
theorem split_from (n : Nat) (hn : n ≤ 1000000) (m : Nat) : ∀ (done : List ByteArray) (s : ByteArray), dots s.data.toList = m → done.length + m = n → s.size ≤ 1000000 →
    Ev (fun k => strings_genSplit.l0 k s sep1 0 (n : Int) (done ++ List.replicate (m + 1) (⟨#[]⟩ : ByteArray)) (done.length : Int)) (done ++ (pcs [] s.data.toList).map mkB) := by
  induction m with
  | zero =>
    intro done s hd hl hs
    have hend : ((done ++ List.replicate (0 + 1) (⟨#[]⟩ : ByteArray)).set done.length s).take (done.length + 1) = done ++ (pcs [] s.data.toList).map mkB := by
      rw [set_at, pcs_last _ _ hd, List.nil_append, List.map_cons, List.map_nil, mkB_of, List.replicate_zero, List.append_nil, List.take_of_length_le (by simp)]
    have hlen : (done ++ List.replicate (0 + 1) (⟨#[]⟩ : ByteArray)).length = done.length + 1 := by simp
    have hw : wrap64 ((done.length : Int) + 1) = ((done.length + 1 : Nat) : Int) := by rw [wrap_id (by omega) (by omega)]; omega
    refine Ev_shift 1 (f := fun _ => some (done ++ (pcs [] s.data.toList).map mkB)) (fun k => ?_) (Ev_const rfl)
    rw [strings_genSplit.l0, if_neg (by omega), if_pos (by omega), hlen, if_pos (by omega), hw, if_pos (by omega), if_pos (by omega), Int.toNat_natCast, Int.toNat_natCast, hend]
  | succ m ih0 =>
    intro done s hd hl hs
    obtain ⟨p, q, e, hp, hi⟩ := idx_some s.data.toList (by omega)
    have hsz := size_data s
    have hsl : s.size = p.length + (q.length + 1) := by rw [hsz, e]; simp
    have hq : dots q = m := by
      have : dots s.data.toList = dots p + (dots q + 1) := by rw [e, dots, List.count_append, List.count_cons_self]; rfl
      omega
    have e1 : (s.extract (p.length + 1) s.size).data.toList = q := by
      rw [data_ext, e, ← List.drop_drop, List.drop_left, List.drop_one, List.tail_cons, List.take_of_length_le (by omega)]
    have e0 : s.extract 0 p.length = mkB p := by
      apply data_inj
      rw [data_ext, e, mkB_data, List.drop_zero, Nat.sub_zero, List.take_left]
    have hsz2 : (s.extract (p.length + 1) s.size).size ≤ 1000000 := by rw [size_data, e1]; omega
    obtain ⟨s2, hs2⟩ : ∃ s2, s2 = s.extract (p.length + 1) s.size := ⟨_, rfl⟩
    rw [← hs2] at e1 hsz2
    have ih := ih0 (done ++ [mkB p]) s2 (by rw [e1]; exact hq) (by rw [List.length_append, List.length_singleton]; omega) hsz2
    rw [e1] at ih
    have g1 : (done.length : Int) < (n : Int) := by omega
    have g2 : ¬ ((p.length : Int) < 0) := by omega
    have g3 : (0 : Int) ≤ ((p.length : Nat) : Int) := by omega
    have g4 : ((p.length : Nat) : Int) ≤ (s.size : Int) := by omega
    have g5 : (0 : Int) ≤ (done.length : Int) := by omega
    have g6 : (done.length : Int) < ((done.length + (m + 2) : Nat) : Int) := by omega
    have g7 : (0 : Int) ≤ ((p.length + 1 : Nat) : Int) := by omega
    have g8 : ((p.length + 1 : Nat) : Int) ≤ (s.size : Int) := by omega
    have g9 : p.length ≤ 1000000 := by omega
    have g10 : done.length ≤ 1000000 := by omega
    have hs1 : ((sep1.size : Nat) : Int) = 1 := rfl
    have hlen : (done ++ List.replicate (m + 1 + 1) (⟨#[]⟩ : ByteArray)).length = done.length + (m + 2) := by simp
    have hr : done ++ (pcs [] s.data.toList).map mkB = done ++ [mkB p] ++ (pcs [] q).map mkB := by
      rw [e, pcs_front p [] q hp, List.nil_append, List.map_cons, List.append_assoc]
      rfl
    rw [hr]
    have hw1 := nx0 p.length g9
    have hw2 := nx1 p.length g9
    have hw3 := nx1 done.length g10
    refine Ev_shift 1 (fun k => ?_) ih
    rw [strings_genSplit.l0, if_pos g1, sfind, hi, Option.bind_some, if_neg g2, hs1, hw1, hw2, hw3, if_pos g3, if_pos g4, if_pos g5, hlen, if_pos g6, if_pos g7, if_pos g8, Int.toNat_natCast, Int.toNat_natCast, Int.toNat_natCast, set_at, e0, List.length_append, List.length_singleton, ← hs2]
theorem split_ev (s : ByteArray) (hs : s.size ≤ 1000000) : Ev (fun k => strings_Split.f k s sep1) ((pcs [] s.data.toList).map mkB) := by
  have hd := dots_le s.data.toList
  have hsz := size_data s
  unfold strings_Split.f strings_genSplit.f
  have h0 : ¬ sep1.toList = ([] : List UInt8) := by rw [toL]; exact List.cons_ne_nil _ _
  simp only [if_neg (show ¬ (-1 : Int) = 0 by omega), if_neg h0, if_pos (show (-1 : Int) < 0 by omega), scount, Option.bind_some]
  have hw : wrap64 (((dots s.data.toList : Nat) : Int) + 1) = ((dots s.data.toList + 1 : Nat) : Int) := by rw [wrap_id (by omega) (by omega)]; omega
  have hw2 : wrap64 ((s.size : Int) + 1) = ((s.size + 1 : Nat) : Int) := by rw [wrap_id (by omega) (by omega)]; omega
  have hm : mn ((dots s.data.toList + 1 : Nat) : Int) ((s.size + 1 : Nat) : Int) = ((dots s.data.toList + 1 : Nat) : Int) := by rw [mn_len, Nat.min_eq_left (by omega)]
  have hw3 : wrap64 (((dots s.data.toList + 1 : Nat) : Int) - 1) = ((dots s.data.toList : Nat) : Int) := by rw [wrap_id (by omega) (by omega)]; omega
  rw [hw]
  refine Ev.bind (a := (pcs [] s.data.toList).map mkB) ?_ (Ev_const rfl)
  refine Ev_shift 1 (fun k => by rw [strings_genSplit.j0, hw2, hm, if_pos (by omega), Int.toNat_natCast, if_pos (by omega), hw3]) ?_
  exact split_from (dots s.data.toList) (by omega) (dots s.data.toList) [] s rfl (by simp) (by omega)
/-- The labels, each by its place. -/
def oks : Bool → List (List UInt8) → Bool
  | _, [] => true
  | first, x :: r => (ordB x || (first && decide (x = [42]))) && oks false r
theorem labels_from (l : List (List UInt8)) (hl : l.length ≤ 1000001) (hsz : ∀ x ∈ l, x.length ≤ 1000000) : ∀ (r : List (List UInt8)) (i : Nat), l.drop i = r →
    Ev (fun k => dname_Valid.l0 k (l.map mkB) (((l.map mkB).length : Nat) : Int) (i : Int)) (oks (decide (i = 0)) r)
  | [], i, h => by
    have := drop_end h
    refine Ev_shift 1 (f := fun _ => some true) (fun k => ?_) (Ev_const rfl)
    rw [dname_Valid.l0, if_neg (by rw [List.length_map]; omega)]
  | x :: r, i, h => by
    obtain ⟨hi, hx, hr⟩ := drop_at h
    have hlm : (l.map mkB).length = l.length := List.length_map _
    have hrd : rdOf ByteArray.empty (l.map mkB) (i : Int) = mkB x := by
      simp [rdOf, List.getD_eq_getElem?_getD, List.getElem?_eq_getElem hi, hx]
    have ih := labels_from l hl hsz r (i + 1) hr
    have hxs : (mkB x).size ≤ 140737488351232 := by
      have := hsz x (hx ▸ List.getElem_mem hi)
      rw [mkB_size]
      omega
    have key : ∀ b : Bool, b = !(ordB x || (decide (i = 0) && decide (x = [42]))) → Ev (fun k => dname_Valid.j2 k (l.map mkB) (((l.map mkB).length : Nat) : Int) (i : Int) b) (oks (decide (i = 0)) (x :: r)) := by
      intro b hb
      rw [oks]
      cases hk : (ordB x || (decide (i = 0) && decide (x = [42]))) with
      | false =>
        rw [hk] at hb
        subst hb
        refine Ev_shift 1 (f := fun _ => some false) (fun k => ?_) (Ev_const rfl)
        rw [dname_Valid.j2]
        rfl
      | true =>
        rw [hk] at hb
        subst hb
        rw [Bool.true_and]
        have hi1 : decide (i + 1 = 0) = false := decide_eq_false (by omega)
        rw [hi1] at ih
        refine Ev_shift 1 (fun k => ?_) ih
        rw [dname_Valid.j2, next i l.length hi (by omega)]
        rfl
    refine Ev_shift 1 (fun k => by rw [dname_Valid.l0, if_pos (by omega), if_pos (by omega), if_pos (by omega), hrd]) ?_
    refine Ev.bind (ord_ev (mkB x) hxs) ?_
    rw [mkB_data]
    cases ho : ordB x with
    | true =>
      simp only [if_true]
      exact key false (by rw [ho]; rfl)
    | false =>
      simp only [Bool.false_eq_true, if_false]
      by_cases h0 : i = 0
      · subst h0
        simp only [if_neg (show ¬ ((0 : Nat) : Int) > 0 by omega)]
        refine key _ ?_
        rw [ho, toL, mkB_data]
        by_cases h42 : x = [42]
        · simp [h42]
        · have : (x != [42]) = true := by simpa using h42
          rw [this]
          simp [h42]
      · simp only [if_pos (show (i : Int) > 0 by omega)]
        exact key true (by rw [ho]; simp [h0])
end Go.Proofs.YtpcjablkjaiapaaDoor.Cm
