/- RelayChecks holds: what the program's relay functions do is what the document says: the pure statement of RelayChecks (no condition but the sizes that every argument has). -/
import Derived.Test.YtngfffoeaghhhaaDoorQAd1
import Derived.Test.YtngfffoeaghhhaaDoorXP
import Derived.Test.YtngfffoeaghhhaaDoorQAd2
import Derived.Test.YtngfffoeaghhhaaDoorXB
import Derived.Laws.Bits64
namespace Go.Proofs.YtngfffoeaghhhaaDoor.Cm
open Go.RowKit Go.Proofs.YtngfffoeaghhhaaDoorW.PrintWords Go.Proofs.YtngfffoeaghhhaaDoorW.PrintLast Go.Proofs.YtngfffoeaghhhaaDoorW.PrintMore Go.Proofs.YtngfffoeaghhhaaDoor.XP Go.Proofs.YtngfffoeaghhhaaDoor.QA
set_option linter.unusedVariables false
set_option linter.unusedSimpArgs false
theorem rdOpt (l : List S59) (i : Nat) (x : S59) (r : List S59) (h : l.drop i = x :: r) : i < l.length ∧ rd_T59 l (i : Int) = x ∧ l.drop (i + 1) = r := by
  obtain ⟨hi, hx, hr⟩ := drop_at h
  exact ⟨hi, by simp [rd_T59, List.getD_eq_getElem?_getD, List.getElem?_eq_getElem hi, hx], hr⟩
theorem take_snoc {α : Type} {l : List α} {i : Nat} {x : α} {r : List α} (h : l.drop i = x :: r) : l.take (i + 1) = l.take i ++ [x] := by
  obtain ⟨hi, hx, hr⟩ := drop_at h
  rw [List.take_succ_eq_append_getElem hi, hx]
def findV (c : Int) : List S59 → ByteArray × Bool
  | [] => ((⟨#[]⟩ : ByteArray), false)
  | x :: r => if x.f0 = c then (x.f1, true) else findV c r
theorem find_from (l : List S59) (hl : l.length ≤ 140737488351232) (c : Int) : ∀ (r : List S59) (i : Nat), l.drop i = r → Ev (fun k => option_Find.l0 k c l (l.length : Int) (i : Int)) (findV c r)
  | [], i, h => by
    have := drop_end h
    refine Ev_shift 1 (f := fun _ => some ((⟨#[]⟩ : ByteArray), false)) (fun k => ?_) (Ev_const rfl)
    rw [option_Find.l0, if_neg (by omega)]
  | x :: r, i, h => by
    obtain ⟨hi, hx, hr⟩ := rdOpt l i x r h
    have ih := find_from l hl c r (i + 1) hr
    by_cases hc : x.f0 = c
    · refine Ev_shift 1 (f := fun _ => some (x.f1, true)) (fun k => ?_) (Ev_const (by rw [findV, if_pos hc]))
      rw [option_Find.l0, if_pos (by omega), if_pos (by omega), if_pos (by omega), hx, if_pos hc]
    · rw [findV, if_neg hc]
      refine Ev_shift 1 (fun k => ?_) ih
      rw [option_Find.l0, if_pos (by omega), if_pos (by omega), if_pos (by omega), hx, if_neg hc, next i l.length hi (by omega)]
theorem find_ev (l : List S59) (hl : l.length ≤ 140737488351232) (c : Int) : Ev (fun k => option_Find.f k l c) (findV c l) := by
  unfold option_Find.f
  exact find_from l hl c l 0 rfl
def idxO (c : Int) : List S59 → Nat → Int
  | [], _ => -1
  | x :: r, i => if x.f0 = c then (i : Int) else idxO c r (i + 1)
theorem index_from (l : List S59) (hl : l.length ≤ 140737488351232) (c : Int) : ∀ (r : List S59) (i : Nat), l.drop i = r → Ev (fun k => ddiref35_index.l0 k l c (i : Int)) (idxO c r i)
  | [], i, h => by
    have := drop_end h
    refine Ev_shift 1 (f := fun _ => some (-1)) (fun k => ?_) (Ev_const rfl)
    rw [ddiref35_index.l0, if_neg (by omega)]
  | x :: r, i, h => by
    obtain ⟨hi, hx, hr⟩ := rdOpt l i x r h
    have ih := index_from l hl c r (i + 1) hr
    by_cases hc : x.f0 = c
    · refine Ev_shift 1 (f := fun _ => some (i : Int)) (fun k => ?_) (Ev_const (by rw [idxO, if_pos hc]))
      rw [ddiref35_index.l0, if_pos (by omega), if_pos (by omega), hx, if_pos hc]
    · rw [idxO, if_neg hc]
      refine Ev_shift 1 (fun k => ?_) ih
      rw [ddiref35_index.l0, if_pos (by omega), if_pos (by omega), hx, if_neg hc, next i l.length hi (by omega)]
theorem index_ev (l : List S59) (hl : l.length ≤ 140737488351232) (c : Int) : Ev (fun k => ddiref35_index.f k l c) (idxO c l 0) := by
  unfold ddiref35_index.f
  exact index_from l hl c l 0 rfl
def okO (x : S59) : Bool := (decide (1 ≤ x.f0) && decide (x.f0 ≤ 254)) && decide (x.f1.size ≤ 1024)
def vO : List S59 → List S59 → Bool
  | _, [] => true
  | pre, x :: r => !(findV x.f0 pre).2 && (okO x && vO (pre ++ [x]) r)
def sumO : List S59 → Nat
  | [] => 0
  | x :: r => x.f1.size + sumO r
def validO (l : List S59) : Bool := decide (l.length ≤ 32) && (decide (sumO l ≤ 4096) && vO [] l)
theorem sumO_le (b : Nat) : ∀ l : List S59, (∀ x ∈ l, x.f1.size ≤ b) → sumO l ≤ l.length * b
  | [], _ => by simp [sumO]
  | x :: r, h => by
    have h1 := sumO_le b r (fun y hy => h y (List.mem_cons_of_mem _ hy))
    have h2 := h x List.mem_cons_self
    rw [sumO, List.length_cons, Nat.succ_mul]
    omega
theorem size_from (l : List S59) (hl : l.length ≤ 140737488351232) : ∀ (r : List S59) (i s : Nat), l.drop i = r → s + sumO r ≤ 9000000000000000 → Ev (fun k => option_size.l0 k (s : Int) l (l.length : Int) (i : Int)) ((s + sumO r : Nat) : Int)
  | [], i, s, h, _ => by
    have := drop_end h
    refine Ev_shift 1 (f := fun _ => some (s : Int)) (fun k => ?_) (Ev_const rfl)
    rw [option_size.l0, if_neg (by omega)]
  | x :: r, i, s, h, hb => by
    obtain ⟨hi, hx, hr⟩ := rdOpt l i x r h
    rw [sumO] at hb
    have ih := size_from l hl r (i + 1) (s + x.f1.size) hr (by omega)
    rw [sumO, ← Nat.add_assoc]
    refine Ev_shift 1 (fun k => ?_) ih
    have hw : wrap64 ((s : Int) + (x.f1.size : Int)) = ((s + x.f1.size : Nat) : Int) := by rw [wrap_id (by omega) (by omega), Int.natCast_add]
    rw [option_size.l0, if_pos (by omega), if_pos (by omega), if_pos (by omega), hx, next i l.length hi (by omega), hw]
theorem isCode_v (n : Int) : option_isCode.f n = some (decide (1 ≤ n) && decide (n ≤ 254)) := by
  unfold option_isCode.f
  by_cases h : n ≥ 1
  · rw [if_pos h, decide_eq_true (show 1 ≤ n from h), Bool.true_and]
  · rw [if_neg h, decide_eq_false (show ¬ 1 ≤ n from h), Bool.false_and]
theorem valid_from (l : List S59) (hl : l.length ≤ 140737488351232) : ∀ (r : List S59) (i : Nat), l.drop i = r → Ev (fun k => option_Valid.l0 k l l (l.length : Int) (i : Int)) (vO (l.take i) r)
  | [], i, h => by
    have := drop_end h
    refine Ev_shift 1 (f := fun _ => some true) (fun k => ?_) (Ev_const rfl)
    rw [option_Valid.l0, if_neg (by omega)]
  | x :: r, i, h => by
    obtain ⟨hi, hx, hr⟩ := rdOpt l i x r h
    have ih := valid_from l hl r (i + 1) hr
    rw [take_snoc h] at ih
    have hj : ∀ b : Bool, b = !(!(findV x.f0 (l.take i)).2 && okO x) → Ev (fun k => option_Valid.j2 k l l (l.length : Int) (i : Int) b) (vO (l.take i) (x :: r)) := by
      intro b hb
      rw [vO, ← Bool.and_assoc]
      cases hk : (!(findV x.f0 (l.take i)).2 && okO x) with
      | false =>
        rw [hk] at hb
        subst hb
        refine Ev_shift 1 (f := fun _ => some false) (fun k => ?_) (Ev_const rfl)
        rw [option_Valid.j2]
        rfl
      | true =>
        rw [hk] at hb
        subst hb
        rw [Bool.true_and]
        refine Ev_shift 1 (fun k => ?_) ih
        rw [option_Valid.j2, next i l.length hi (by omega)]
        rfl
    refine Ev_shift 1 (fun k => by rw [option_Valid.l0, if_pos (by omega), if_pos (by omega), if_pos (by omega), if_pos (by omega), hx, Int.toNat_natCast]) ?_
    refine Ev.bind (find_ev (l.take i) (by rw [List.length_take]; omega) x.f0) ?_
    cases hf : (findV x.f0 (l.take i)).2 with
    | true =>
      simp only [if_true]
      exact hj true (by rw [hf]; rfl)
    | false =>
      simp only [Bool.false_eq_true, if_false]
      simp only [isCode_v, Option.bind_some]
      rw [hf] at hj
      cases hc : (decide (1 ≤ x.f0) && decide (x.f0 ≤ 254)) with
      | true =>
        simp only [if_true]
        refine hj _ ?_
        unfold okO
        rw [hc]
        by_cases hz : x.f1.size ≤ 1024
        · rw [decide_eq_true hz, decide_eq_false (by omega)]; rfl
        · rw [decide_eq_false hz, decide_eq_true (by omega)]; rfl
      | false =>
        simp only [Bool.false_eq_true, if_false]
        refine hj true ?_
        unfold okO
        rw [hc]
        rfl
theorem valid_ev (l : List S59) (hl : l.length ≤ 140737488351232) (ok : ∀ x ∈ l, x.f1.size ≤ 140737488351232) : Ev (fun k => option_Valid.f k l) (validO l) := by
  unfold option_Valid.f validO
  by_cases h : l.length ≤ 32
  · have h2 := sumO_le 140737488351232 l ok
    have h3 : l.length * 140737488351232 ≤ 32 * 140737488351232 := Nat.mul_le_mul_right _ h
    simp only [if_neg (show ¬ (l.length : Int) > 32 by omega), decide_eq_true h, Bool.true_and]
    have hs := size_from l hl l 0 0 rfl (by omega)
    rw [Nat.zero_add] at hs
    refine Ev.bind (a := (sumO l : Int)) hs ?_
    by_cases h4 : sumO l ≤ 4096
    · rw [decide_eq_true h4, Bool.true_and, decide_eq_false (show ¬ (sumO l : Int) > 4096 by omega)]
      refine Ev_shift 1 (fun k => ?_) (valid_from l hl l 0 rfl)
      rw [option_Valid.j0]
      rfl
    · rw [decide_eq_false h4, Bool.false_and, decide_eq_true (show (sumO l : Int) > 4096 by omega)]
      refine Ev_shift 1 (f := fun _ => some false) (fun k => ?_) (Ev_const rfl)
      rw [option_Valid.j0]
      rfl
  · simp only [if_pos (show (l.length : Int) > 32 by omega), decide_eq_false h, Bool.false_and]
    refine Ev_shift 1 (f := fun _ => some false) (fun k => ?_) (Ev_const rfl)
    rw [option_Valid.j0]
    rfl
theorem idx_app (c : Int) (x : S59) (r : List S59) (hx : x.f0 = c) : ∀ (pre : List S59) (j : Nat), (idxO c (pre ++ x :: r) j != ((j + pre.length : Nat) : Int)) = (findV c pre).2
  | [], j => by
    rw [List.nil_append, idxO, if_pos hx]
    simp [findV]
  | y :: pre, j => by
    rw [List.cons_append, idxO, findV]
    by_cases hy : y.f0 = c
    · rw [if_pos hy, if_pos hy, List.length_cons]
      simp
      omega
    · rw [if_neg hy, if_neg hy, ← idx_app c x r hx pre (j + 1), List.length_cons]
      congr 2
      omega
theorem rvalid_from (l : List S59) (hl : l.length ≤ 140737488351232) : ∀ (r : List S59) (i s : Nat), l.drop i = r → s + sumO r ≤ 9000000000000000 → Ev (fun k => ddiref35_Valid.l0 k l (s : Int) (i : Int)) (vO (l.take i) r && decide (s + sumO r ≤ 4096))
  | [], i, s, h, _ => by
    have := drop_end h
    refine Ev_shift 1 (f := fun _ => some (decide ((s : Int) ≤ 4096))) (fun k => ?_) (Ev_const ?_)
    · rw [ddiref35_Valid.l0, if_neg (by omega)]
    · rw [vO, sumO, Bool.true_and]
      congr 1
      by_cases h4 : s ≤ 4096
      · rw [decide_eq_true (show s + 0 ≤ 4096 from h4), decide_eq_true (by omega)]
      · rw [decide_eq_false (show ¬ s + 0 ≤ 4096 from h4), decide_eq_false (by omega)]
  | x :: r, i, s, h, hb => by
    obtain ⟨hi, hx, hr⟩ := rdOpt l i x r h
    rw [sumO] at hb
    have ih := rvalid_from l hl r (i + 1) (s + x.f1.size) hr (by omega)
    rw [take_snoc h] at ih
    have hw : wrap64 ((s : Int) + (x.f1.size : Int)) = ((s + x.f1.size : Nat) : Int) := by rw [wrap_id (by omega) (by omega), Int.natCast_add]
    have hj : ∀ b : Bool, b = !(!(findV x.f0 (l.take i)).2 && okO x) → Ev (fun k => ddiref35_Valid.j1 k l (((s + x.f1.size : Nat)) : Int) (i : Int) b) (vO (l.take i) (x :: r) && decide (s + sumO (x :: r) ≤ 4096)) := by
      intro b hb
      rw [vO, sumO, ← Bool.and_assoc, ← Nat.add_assoc]
      cases hk : (!(findV x.f0 (l.take i)).2 && okO x) with
      | false =>
        rw [hk] at hb
        subst hb
        refine Ev_shift 1 (f := fun _ => some false) (fun k => ?_) (Ev_const rfl)
        rw [ddiref35_Valid.j1]
        rfl
      | true =>
        rw [hk] at hb
        subst hb
        rw [Bool.true_and]
        refine Ev_shift 1 (fun k => ?_) ih
        rw [ddiref35_Valid.j1, next i l.length hi (by omega)]
        rfl
    refine Ev_shift 1 (fun k => by rw [ddiref35_Valid.l0, if_pos (by omega), if_pos (by omega), hx, hw]) ?_
    by_cases h1 : x.f0 < 1
    · simp only [if_pos h1]
      refine hj true ?_
      unfold okO
      rw [decide_eq_false (show ¬ 1 ≤ x.f0 by omega)]
      simp
    · simp only [if_neg h1]
      by_cases h2 : x.f0 > 254
      · simp only [if_pos h2]
        refine hj true ?_
        unfold okO
        rw [decide_eq_false (show ¬ x.f0 ≤ 254 by omega)]
        simp
      · simp only [if_neg h2]
        by_cases h3 : (x.f1.size : Int) > 1024
        · simp only [if_pos h3]
          refine hj true ?_
          unfold okO
          rw [decide_eq_false (show ¬ x.f1.size ≤ 1024 by omega)]
          simp
        · simp only [if_neg h3]
          refine Ev.bind (index_ev l hl x.f0) ?_
          refine hj _ ?_
          have e : l = l.take i ++ x :: r := by rw [← h, List.take_append_drop]
          have e2 := idx_app x.f0 x r rfl (l.take i) 0
          rw [← e, List.length_take, Nat.zero_add, Nat.min_eq_left (by omega)] at e2
          rw [e2]
          unfold okO
          rw [decide_eq_true (show 1 ≤ x.f0 by omega), decide_eq_true (show x.f0 ≤ 254 by omega), decide_eq_true (show x.f1.size ≤ 1024 by omega)]
          simp
theorem rvalid_ev (l : List S59) (hl : l.length ≤ 140737488351232) (ok : ∀ x ∈ l, x.f1.size ≤ 140737488351232) : Ev (fun k => ddiref35_Valid.f k l) (validO l) := by
  unfold ddiref35_Valid.f validO
  by_cases h : l.length ≤ 32
  · have h2 := sumO_le 140737488351232 l ok
    have h3 : l.length * 140737488351232 ≤ 32 * 140737488351232 := Nat.mul_le_mul_right _ h
    simp only [if_neg (show ¬ (l.length : Int) > 32 by omega), decide_eq_true h, Bool.true_and]
    have hs := rvalid_from l hl l 0 0 rfl (by omega)
    rw [Nat.zero_add] at hs
    rw [Bool.and_comm]
    exact hs
  · simp only [if_pos (show (l.length : Int) > 32 by omega), decide_eq_false h, Bool.false_and]
    exact Ev_const rfl
end Go.Proofs.YtngfffoeaghhhaaDoor.Cm
namespace Go.Proofs.YtngfffoeaghhhaaDoor.Ma
open Go.RowKit Go.Proofs.YtngfffoeaghhhaaDoorW.PrintWords Go.Proofs.YtngfffoeaghhhaaDoorW.PrintLast Go.Proofs.YtngfffoeaghhhaaDoorW.PrintMore Go.Proofs.YtngfffoeaghhhaaDoor.XP Go.Proofs.YtngfffoeaghhhaaDoor.QA Go.Proofs.YtngfffoeaghhhaaDoor.Cm
set_option linter.unusedVariables false
set_option linter.unusedSimpArgs false
def t27 (p : S27) : Int × Int × Int × ByteArray × Bool × Int × Int × Bool × Int × Int × Bool × Int × Int × Bool × List S59 :=
  (p.f0, p.f1, p.f2, p.f3, p.f4.f0, p.f4.f1, p.f4.f2, p.f5.f0, p.f5.f1, p.f5.f2, p.f6.f0, p.f6.f1, p.f6.f2, p.f7, p.f8)
theorem mnl (n m : Nat) : 0 ≤ mn (n : Int) (m : Int) ∧ mn (n : Int) (m : Int) ≤ (n : Int) ∧ (mn (n : Int) (m : Int)).toNat = min n m := mn_len' n m
theorem toL (s : ByteArray) : s.toList = s.data.toList := ByteArray.toList_eq s
/-! ### Short -/
def cutO (n : Nat) (x : S59) : S59 := ⟨x.f0, x.f1.extract 0 (min x.f1.size n)⟩
def shortO (l : List S59) : List S59 := (l.take 40).map (cutO 1100)
def shortP (p : S27) : S27 := ⟨p.f0, p.f1, p.f2, p.f3.extract 0 (min p.f3.size 100), p.f4, p.f5, p.f6, p.f7, shortO p.f8⟩
theorem cut_size (n : Nat) (s : ByteArray) : (s.extract 0 (min s.size n)).size ≤ n := by
  rw [size_data, data_ext]
  simp
  omega
theorem short_from (l : List S59) (hl : l.length ≤ 140737488351232) : ∀ (r : List S59) (i : Nat) (q : List S59), l.drop i = r → q.length ≤ 40 → q.length = i → Ev (fun k => ddiref36_options.l0 k l q (i : Int)) (q ++ (r.take (40 - i)).map (cutO 1100))
  | [], i, q, h, _, hq => by
    have := drop_end h
    refine Ev_shift 2 (f := fun _ => some q) (fun k => ?_) (Ev_const (by simp))
    rw [ddiref36_options.l0, if_neg (by omega), ddiref36_options.j1]
    rfl
  | x :: r, i, q, h, h40, hq => by
    obtain ⟨hi, hx, hr⟩ := rdOpt l i x r h
    by_cases hc : i < 40
    · have ih := short_from l hl r (i + 1) (q ++ [cutO 1100 x]) hr (by simp; omega) (by simp; omega)
      have h1 : 0 ≤ mn (x.f1.size : Int) 1100 := (mnl x.f1.size 1100).1
      have h2 : mn (x.f1.size : Int) 1100 ≤ (x.f1.size : Int) := (mnl x.f1.size 1100).2.1
      have h3 : (mn (x.f1.size : Int) 1100).toNat = min x.f1.size 1100 := (mnl x.f1.size 1100).2.2
      have e : (List.take (40 - i) (x :: r)) = x :: r.take (40 - (i + 1)) := by
        rw [show 40 - i = (40 - (i + 1)) + 1 by omega, List.take_succ_cons]
      rw [e, List.map_cons]
      rw [List.append_assoc, List.singleton_append] at ih
      refine Ev_shift 2 (fun k => ?_) ih
      rw [ddiref36_options.l0, if_pos (by omega), decide_eq_true (show (i : Int) < 40 by omega), ddiref36_options.j1, if_pos rfl, if_pos (by omega), if_pos (by omega), hx, if_pos h1, if_pos h2, if_pos (by omega), next i l.length hi (by omega)]
      rw [h3]
      rfl
    · refine Ev_shift 2 (f := fun _ => some q) (fun k => ?_) (Ev_const (by rw [show 40 - i = 0 by omega]; simp))
      rw [ddiref36_options.l0, if_pos (by omega), decide_eq_false (show ¬ (i : Int) < 40 by omega), ddiref36_options.j1]
      rfl
theorem short_ev (p : S27) (hl : p.f8.length ≤ 140737488351232) : Ev (fun k => ddiref36_Short.f k p.f0 p.f1 p.f2 p.f3 p.f4.f0 p.f4.f1 p.f4.f2 p.f5.f0 p.f5.f1 p.f5.f2 p.f6.f0 p.f6.f1 p.f6.f2 p.f7 p.f8) (t27 (shortP p)) := by
  unfold ddiref36_Short.f
  obtain ⟨h1, h2, h3⟩ := mnl p.f3.size 100
  have h1' : 0 ≤ mn (p.f3.size : Int) 100 := h1
  have h2' : mn (p.f3.size : Int) 100 ≤ (p.f3.size : Int) := h2
  have h3' : (mn (p.f3.size : Int) 100).toNat = min p.f3.size 100 := h3
  simp only [if_pos h1', if_pos h2', h3']
  refine Ev.bind (a := shortO p.f8) ?_ (Ev_const rfl)
  unfold ddiref36_options.f
  exact short_from p.f8 hl p.f8 0 [] rfl (by simp) rfl
theorem shortO_ok (l : List S59) : (shortO l).length ≤ 40 ∧ ∀ x ∈ shortO l, x.f1.size ≤ 1100 := by
  refine ⟨by rw [shortO, List.length_map, List.length_take]; omega, fun x hx => ?_⟩
  obtain ⟨y, _, rfl⟩ := List.mem_map.1 hx
  exact cut_size 1100 y.f1
/-! ### Same -/
/-! ### Strip -/
/-! ### Circuit -/
/-! ### Insert -/
theorem wake_ev : Ev (fun k => ddilaw39_awake.f k) true := ⟨60, fun k hk => at_rounds ddilaw39_awake.mono hk (by decide +kernel)⟩
end Go.Proofs.YtngfffoeaghhhaaDoor.Ma
namespace Go.Proofs.YtngfffoeaghhhaaDoor.Cm
open Go.RowKit Go.Proofs.YtngfffoeaghhhaaDoorW.PrintWords Go.Proofs.YtngfffoeaghhhaaDoorW.PrintLast Go.Proofs.YtngfffoeaghhhaaDoorW.PrintMore Go.Proofs.YtngfffoeaghhhaaDoor.XP Go.Proofs.YtngfffoeaghhhaaDoor.QA
set_option linter.unusedVariables false
set_option linter.unusedSimpArgs false
def cmp (a b : S24) : Int := if (a.f0 != b.f0) = true then (if b.f0 = true then -1 else 1) else (if a.f1 = b.f1 then (if a.f2 < b.f2 then -1 else (if a.f2 > b.f2 then 1 else 0)) else (if a.f1 < b.f1 then -1 else 1))
theorem rcmp (a b : S24) : ddiref02_Compare.f a.f0 a.f1 a.f2 b.f0 b.f1 b.f2 = some (cmp a b) := by
  unfold ddiref02_Compare.f cmp
  repeat' split
  all_goals first | rfl | omega
theorem num (a b : Int) : addr_number.f a b = some (if a < b then -1 else (if a > b then 1 else 0)) := by
  unfold addr_number.f
  repeat' split
  all_goals rfl
theorem ucmp (a b : S24) : Ev (fun k => addr_Compare.f k a.f0 a.f1 a.f2 b.f0 b.f1 b.f2) (cmp a b) := by
  refine Ev_shift 1 (f := fun _ => some (cmp a b)) (fun k => ?_) (Ev_const rfl)
  unfold addr_Compare.f addr_Compare.j0 cmp
  simp only [num]
  cases h0 : a.f0 <;> cases h1 : b.f0 <;> simp
  all_goals
    by_cases h : a.f1 = b.f1
    · simp [h]
    · simp only [h, if_false]
      by_cases h2 : a.f1 < b.f1
      · simp [h2]
      · simp [h2]
        omega
theorem cmp_flip (a b : S24) : cmp b a = -cmp a b := by
  obtain ⟨a0, a1, a2⟩ := a
  obtain ⟨b0, b1, b2⟩ := b
  simp only [cmp]
  cases a0 <;> cases b0 <;> simp <;> repeat' split
  all_goals omega
end Go.Proofs.YtngfffoeaghhhaaDoor.Cm
namespace Go.Proofs.YtngfffoeaghhhaaDoor.Cm
open Go.RowKit Go.Proofs.YtngfffoeaghhhaaDoorW.PrintWords Go.Proofs.YtngfffoeaghhhaaDoorW.PrintLast Go.Proofs.YtngfffoeaghhhaaDoorW.PrintMore Go.Proofs.YtngfffoeaghhhaaDoor.XP Go.Proofs.YtngfffoeaghhhaaDoor.QA
set_option linter.unusedVariables false
set_option linter.unusedSimpArgs false
/-- A byte of an ordinary label. -/
def okc (c : UInt8) : Bool := (97 ≤ c.toNat && c.toNat ≤ 122) || ((48 ≤ c.toNat && c.toNat ≤ 57) || (c.toNat == 45 || c.toNat == 95))
def ordB (l : List UInt8) : Bool := !l.isEmpty && (decide (l.length ≤ 63) && l.all okc)
theorem bt_at_drop (s : ByteArray) (i : Nat) (c : UInt8) (r : List UInt8) (h : s.data.toList.drop i = c :: r) : i < s.size ∧ bt s (i : Int) = (c.toNat : Int) ∧ s.data.toList.drop (i + 1) = r := by
  obtain ⟨hi, hx, hr⟩ := drop_at h
  refine ⟨by rw [size_data]; exact hi, ?_, hr⟩
  rw [bt_get s i hi, hx]
theorem size_end (s : ByteArray) (i : Nat) (h : s.data.toList.drop i = []) : s.size ≤ i := by rw [size_data]; exact drop_end h
theorem toL (s : ByteArray) : s.toList = s.data.toList := ByteArray.toList_eq s
theorem ord_from (s : ByteArray) (hs : s.size ≤ 140737488351232) : ∀ (r : List UInt8) (i : Nat), s.data.toList.drop i = r → Ev (fun k => dname_ordinary.l0 k s (s.size : Int) (i : Int)) (r.all okc)
  | [], i, h => by
    have := size_end s i h
    refine Ev_shift 1 (f := fun _ => some true) (fun k => ?_) (Ev_const rfl)
    rw [dname_ordinary.l0, if_neg (by omega)]
  | c :: r, i, h => by
    obtain ⟨hi, hb, hr⟩ := bt_at_drop s i c r h
    have ih := ord_from s hs r (i + 1) hr
    have key : ∀ b : Bool, b = !okc c → Ev (fun k => dname_ordinary.j2 k s (s.size : Int) (i : Int) b) (List.all (c :: r) okc) := by
      intro b hbc
      rw [List.all_cons]
      cases hc : okc c with
      | false =>
        rw [hc] at hbc
        subst hbc
        refine Ev_shift 1 (f := fun _ => some false) (fun k => ?_) (Ev_const rfl)
        rw [dname_ordinary.j2]
        rfl
      | true =>
        rw [hc] at hbc
        subst hbc
        rw [Bool.true_and]
        refine Ev_shift 1 (fun k => ?_) ih
        rw [dname_ordinary.j2, next i s.size hi (by omega)]
        rfl
    refine Ev_shift 1 (f := fun k => dname_ordinary.j2 k s (s.size : Int) (i : Int) (!okc c)) (fun k => ?_) (key _ rfl)
    rw [dname_ordinary.l0, if_pos (by omega), if_pos (by omega), if_pos (by omega), hb]
    have hc : okc c = true ↔ (97 ≤ c.toNat ∧ c.toNat ≤ 122) ∨ ((48 ≤ c.toNat ∧ c.toNat ≤ 57) ∨ (c.toNat = 45 ∨ c.toNat = 95)) := by simp [okc]
    have hbn : ((c.toNat : Int) != 95) = !decide (c.toNat = 95) := by
      rw [Bool.eq_iff_iff]
      simp
      omega
    rw [hbn]
    cases hk : okc c with
    | true =>
      have := hc.1 hk
      repeat' split
      all_goals first | rfl | omega | (congr 1; simp; omega)
    | false =>
      have hn : ¬ _ := fun h => Bool.false_ne_true (hk.symm.trans (hc.2 h))
      repeat' split
      all_goals first | rfl | (exfalso; omega) | (congr 1; simp; omega)
theorem ord_ev (s : ByteArray) (hs : s.size ≤ 140737488351232) : Ev (fun k => dname_ordinary.f k s) (ordB s.data.toList) := by
  have hl := size_data s
  unfold dname_ordinary.f
  rw [toL]
  have hj : ∀ b : Bool, b = !(!s.data.toList.isEmpty && decide (s.data.toList.length ≤ 63)) → Ev (fun k => dname_ordinary.j0 k s b) (ordB s.data.toList) := by
    intro b hb
    unfold ordB
    cases h : (!s.data.toList.isEmpty && decide (s.data.toList.length ≤ 63)) with
    | false =>
      rw [h] at hb
      subst hb
      refine Ev_shift 1 (f := fun _ => some false) (fun k => ?_) (Ev_const (by rw [← Bool.and_assoc, h]; rfl))
      rw [dname_ordinary.j0]
      rfl
    | true =>
      rw [h] at hb
      subst hb
      rw [← Bool.and_assoc, h, Bool.true_and]
      refine Ev_shift 1 (fun k => ?_) (ord_from s hs s.data.toList 0 rfl)
      rw [dname_ordinary.j0]
      rfl
  by_cases h0 : s.data.toList = []
  · simp only [if_pos h0]
    exact hj true (by rw [h0]; rfl)
  · simp only [if_neg h0]
    refine hj _ ?_
    have : s.data.toList.isEmpty = false := by simpa using h0
    rw [this, hl]
    simp only [Bool.not_false, Bool.true_and]
    by_cases h : s.data.toList.length ≤ 63
    · rw [decide_eq_true h, decide_eq_false (by omega)]; rfl
    · rw [decide_eq_false h, decide_eq_true (by omega)]; rfl
theorem lab_from (s : ByteArray) (hs : s.size ≤ 140737488351232) : ∀ (r : List UInt8) (i : Nat), s.data.toList.drop i = r → Ev (fun k => ddiref01_isLabel.l0 k s (i : Int)) (r.all okc)
  | [], i, h => by
    have := size_end s i h
    refine Ev_shift 1 (f := fun _ => some true) (fun k => ?_) (Ev_const rfl)
    rw [ddiref01_isLabel.l0, if_neg (by omega)]
  | c :: r, i, h => by
    obtain ⟨hi, hb, hr⟩ := bt_at_drop s i c r h
    have ih := lab_from s hs r (i + 1) hr
    have key : ∀ b : Bool, b = !okc c → Ev (fun k => ddiref01_isLabel.j2 k s (i : Int) b) (List.all (c :: r) okc) := by
      intro b hbc
      rw [List.all_cons]
      cases hc : okc c with
      | false =>
        rw [hc] at hbc
        subst hbc
        refine Ev_shift 1 (f := fun _ => some false) (fun k => ?_) (Ev_const rfl)
        rw [ddiref01_isLabel.j2]
        rfl
      | true =>
        rw [hc] at hbc
        subst hbc
        rw [Bool.true_and]
        refine Ev_shift 1 (fun k => ?_) ih
        rw [ddiref01_isLabel.j2, next i s.size hi (by omega)]
        rfl
    refine Ev_shift 1 (f := fun k => ddiref01_isLabel.j2 k s (i : Int) (!okc c)) (fun k => ?_) (key _ rfl)
    rw [ddiref01_isLabel.l0, if_pos (by omega), if_pos (by omega), hb]
    have hc : okc c = true ↔ (97 ≤ c.toNat ∧ c.toNat ≤ 122) ∨ ((48 ≤ c.toNat ∧ c.toNat ≤ 57) ∨ (c.toNat = 45 ∨ c.toNat = 95)) := by simp [okc]
    have hbn : ((c.toNat : Int) == 95) = decide (c.toNat = 95) := by
      rw [Bool.eq_iff_iff]
      simp
      omega
    rw [hbn]
    cases hk : okc c with
    | true =>
      have := hc.1 hk
      repeat' split
      all_goals first | rfl | omega | (congr 1; simp; omega)
    | false =>
      have hn : ¬ _ := fun h => Bool.false_ne_true (hk.symm.trans (hc.2 h))
      repeat' split
      all_goals first | rfl | (exfalso; omega) | (congr 1; simp; omega)
def labB (l : List UInt8) : Bool := decide (l = [42]) || ordB l
theorem lab_ev (s : ByteArray) (hs : s.size ≤ 140737488351232) : Ev (fun k => ddiref01_isLabel.f k s) (labB s.data.toList) := by
  have hl := size_data s
  unfold ddiref01_isLabel.f labB
  rw [toL]
  have hj : ∀ b : Bool, b = !(!s.data.toList.isEmpty && decide (s.data.toList.length ≤ 63)) → Ev (fun k => ddiref01_isLabel.j0 k s b) (ordB s.data.toList) := by
    intro b hb
    unfold ordB
    cases h : (!s.data.toList.isEmpty && decide (s.data.toList.length ≤ 63)) with
    | false =>
      rw [h] at hb
      subst hb
      refine Ev_shift 1 (f := fun _ => some false) (fun k => ?_) (Ev_const (by rw [← Bool.and_assoc, h]; rfl))
      rw [ddiref01_isLabel.j0]
      rfl
    | true =>
      rw [h] at hb
      subst hb
      rw [← Bool.and_assoc, h, Bool.true_and]
      refine Ev_shift 1 (fun k => ?_) (lab_from s hs s.data.toList 0 rfl)
      rw [ddiref01_isLabel.j0]
      rfl
  by_cases h42 : s.data.toList = [42]
  · simp only [if_pos h42, h42, decide_true, Bool.true_or]
    exact Ev_const rfl
  · simp only [if_neg h42, h42, decide_false, Bool.false_or]
    by_cases h0 : (s.size : Int) < 1
    · simp only [if_pos h0]
      refine hj true ?_
      have : s.data.toList = [] := List.length_eq_zero_iff.1 (by rw [← hl]; omega)
      rw [this]
      rfl
    · simp only [if_neg h0]
      refine hj _ ?_
      have : s.data.toList.isEmpty = false := by
        cases h : s.data.toList with
        | nil => rw [h, List.length_nil] at hl; exfalso; omega
        | cons => rfl
      rw [this, hl]
      simp only [Bool.not_false, Bool.true_and]
      by_cases h : s.data.toList.length ≤ 63
      · rw [decide_eq_true h, decide_eq_false (by omega)]; rfl
      · rw [decide_eq_false h, decide_eq_true (by omega)]; rfl
end Go.Proofs.YtngfffoeaghhhaaDoor.Cm
namespace Go.Proofs.YtngfffoeaghhhaaDoor.Cm
open Go.RowKit Go.Proofs.YtngfffoeaghhhaaDoorW.PrintWords Go.Proofs.YtngfffoeaghhhaaDoorW.PrintLast Go.Proofs.YtngfffoeaghhhaaDoorW.PrintMore Go.Proofs.YtngfffoeaghhhaaDoor.XP Go.Proofs.YtngfffoeaghhhaaDoor.QA
set_option linter.unusedVariables false
set_option linter.unusedSimpArgs false
def mkB (l : List UInt8) : ByteArray := ⟨l.toArray⟩
theorem mkB_data (l : List UInt8) : (mkB l).data.toList = l := rfl
theorem mkB_of (s : ByteArray) : mkB s.data.toList = s := by
  obtain ⟨⟨l⟩⟩ := s
  rfl
theorem mkB_size (l : List UInt8) : (mkB l).size = l.length := by rw [size_data]; rfl
/-- What lies between the periods; cur is what was read since the last one. -/
def pcs : List UInt8 → List UInt8 → List (List UInt8)
  | cur, [] => [cur]
  | cur, c :: r => if c = 46 then cur :: pcs [] r else pcs (cur ++ [c]) r
def dots (l : List UInt8) : Nat := l.count 46
theorem pcs_len : ∀ (l cur : List UInt8), (pcs cur l).length = dots l + 1
  | [], _ => rfl
  | c :: r, cur => by
    rw [pcs]
    by_cases h : c = 46
    · subst h
      rw [if_pos rfl, List.length_cons, pcs_len r, dots, dots, List.count_cons_self]
    · rw [if_neg h, pcs_len r, dots, dots, List.count_cons_of_ne h]
theorem idx_some : ∀ l : List UInt8, 0 < dots l → ∃ p q, l = p ++ 46 :: q ∧ dots p = 0 ∧ Go.Lib.indexByte l 46 = (p.length : Int)
  | [], h => by cases h
  | c :: r, h => by
    by_cases hc : c = 46
    · subst hc
      exact ⟨[], r, rfl, rfl, rfl⟩
    · have hr : 0 < dots r := by
        rw [dots, List.count_cons_of_ne hc] at h
        exact h
      obtain ⟨p, q, e, hp, hi⟩ := idx_some r hr
      have hb : (c == 46) = false := by simpa using hc
      refine ⟨c :: p, q, by rw [e]; rfl, by rw [dots, List.count_cons_of_ne hc]; exact hp, ?_⟩
      rw [Go.Lib.indexByte, hb, hi]
      have : ((p.length : Int) == -1) = false := by
        rw [beq_eq_false_iff_ne]
        omega
      simp only [this, Bool.false_eq_true, if_false, List.length_cons]
      omega
theorem pcs_front : ∀ (p cur q : List UInt8), dots p = 0 → pcs cur (p ++ 46 :: q) = (cur ++ p) :: pcs [] q
  | [], cur, q, _ => by simp [pcs]
  | c :: p, cur, q, h => by
    have hc : ¬ c = 46 := by
      rintro rfl
      rw [dots, List.count_cons_self] at h
      omega
    have hp : dots p = 0 := by
      rw [dots, List.count_cons_of_ne hc] at h
      exact h
    rw [List.cons_append, pcs, if_neg hc, pcs_front p _ q hp]
    simp
theorem pcs_last : ∀ (p cur : List UInt8), dots p = 0 → pcs cur p = [cur ++ p]
  | [], cur, _ => by simp [pcs]
  | c :: p, cur, h => by
    have hc : ¬ c = 46 := by
      rintro rfl
      rw [dots, List.count_cons_self] at h
      omega
    have hp : dots p = 0 := by
      rw [dots, List.count_cons_of_ne hc] at h
      exact h
    rw [pcs, if_neg hc, pcs_last p _ hp]
    simp
theorem dots_le (l : List UInt8) : dots l ≤ l.length := List.count_le_length
theorem set_at {α : Type} (d : List α) (x e : α) (n : Nat) : (d ++ List.replicate (n + 1) e).set d.length x = d ++ [x] ++ List.replicate n e := by
  rw [List.replicate_succ, List.set_append_right _ _ (Nat.le_refl _), Nat.sub_self, List.set_cons_zero, List.append_assoc]
  rfl
def sep1 : ByteArray := ⟨#[46]⟩
theorem sfind (s : ByteArray) : strings_Index.f s sep1 = some (Go.Lib.indexByte s.data.toList 46) := rfl
theorem scount (s : ByteArray) : strings_Count.f s sep1 = some ((dots s.data.toList : Nat) : Int) := rfl
theorem nx1 (n : Nat) (h : n ≤ 1000000) : wrap64 ((n : Int) + 1) = ((n + 1 : Nat) : Int) := by rw [wrap_id (by omega) (by omega)]; omega
theorem nx0 (n : Nat) (h : n ≤ 1000000) : wrap64 ((n : Int) + 0) = ((n : Nat) : Int) := by rw [wrap_id (by omega) (by omega)]; omega
set_option maxHeartbeats 400000 in
theorem split_from (n : Nat) (hn : n ≤ 1000000) (m : Nat) : ∀ (done : List ByteArray) (s : ByteArray), dots s.data.toList = m → done.length + m = n → s.size ≤ 1000000 →
    Ev (fun k => strings_genSplit.l0 k s sep1 0 (n : Int) (done ++ List.replicate (m + 1) (⟨#[]⟩ : ByteArray)) (done.length : Int)) (done ++ (pcs [] s.data.toList).map mkB) := by
  induction m with
  | zero =>
    intro done s hd hl hs
    have hend : ((done ++ List.replicate (0 + 1) (⟨#[]⟩ : ByteArray)).set done.length s).take (done.length + 1) = done ++ (pcs [] s.data.toList).map mkB := by
      rw [set_at, pcs_last _ _ hd, List.nil_append, List.map_cons, List.map_nil, mkB_of, List.replicate_zero, List.append_nil, List.take_of_length_le (by simp)]
    have hlen : (done ++ List.replicate (0 + 1) (⟨#[]⟩ : ByteArray)).length = done.length + 1 := by simp
    have hw : wrap64 ((done.length : Int) + 1) = ((done.length + 1 : Nat) : Int) := by rw [wrap_id (by omega) (by omega)]; omega
    refine Ev_shift 1 (f := fun _ => some (done ++ (pcs [] s.data.toList).map mkB)) (fun k => ?_) (Ev_const rfl)
    rw [strings_genSplit.l0, if_neg (by omega), if_pos (by omega), hlen, if_pos (by omega), hw, if_pos (by omega), if_pos (by omega), Int.toNat_natCast, Int.toNat_natCast, hend]
  | succ m ih0 =>
    intro done s hd hl hs
    obtain ⟨p, q, e, hp, hi⟩ := idx_some s.data.toList (by omega)
    have hsz := size_data s
    have hsl : s.size = p.length + (q.length + 1) := by rw [hsz, e]; simp
    have hq : dots q = m := by
      have : dots s.data.toList = dots p + (dots q + 1) := by rw [e, dots, List.count_append, List.count_cons_self]; rfl
      omega
    have e1 : (s.extract (p.length + 1) s.size).data.toList = q := by
      rw [data_ext, e, ← List.drop_drop, List.drop_left, List.drop_one, List.tail_cons, List.take_of_length_le (by omega)]
    have e0 : s.extract 0 p.length = mkB p := by
      apply data_inj
      rw [data_ext, e, mkB_data, List.drop_zero, Nat.sub_zero, List.take_left]
    have hsz2 : (s.extract (p.length + 1) s.size).size ≤ 1000000 := by rw [size_data, e1]; omega
    obtain ⟨s2, hs2⟩ : ∃ s2, s2 = s.extract (p.length + 1) s.size := ⟨_, rfl⟩
    rw [← hs2] at e1 hsz2
    have ih := ih0 (done ++ [mkB p]) s2 (by rw [e1]; exact hq) (by rw [List.length_append, List.length_singleton]; omega) hsz2
    rw [e1] at ih
    have g1 : (done.length : Int) < (n : Int) := by omega
    have g2 : ¬ ((p.length : Int) < 0) := by omega
    have g3 : (0 : Int) ≤ ((p.length : Nat) : Int) := by omega
    have g4 : ((p.length : Nat) : Int) ≤ (s.size : Int) := by omega
    have g5 : (0 : Int) ≤ (done.length : Int) := by omega
    have g6 : (done.length : Int) < ((done.length + (m + 2) : Nat) : Int) := by omega
    have g7 : (0 : Int) ≤ ((p.length + 1 : Nat) : Int) := by omega
    have g8 : ((p.length + 1 : Nat) : Int) ≤ (s.size : Int) := by omega
    have g9 : p.length ≤ 1000000 := by omega
    have g10 : done.length ≤ 1000000 := by omega
    have hs1 : ((sep1.size : Nat) : Int) = 1 := rfl
    have hlen : (done ++ List.replicate (m + 1 + 1) (⟨#[]⟩ : ByteArray)).length = done.length + (m + 2) := by simp
    have hr : done ++ (pcs [] s.data.toList).map mkB = done ++ [mkB p] ++ (pcs [] q).map mkB := by
      rw [e, pcs_front p [] q hp, List.nil_append, List.map_cons, List.append_assoc]
      rfl
    rw [hr]
    have hw1 := nx0 p.length g9
    have hw2 := nx1 p.length g9
    have hw3 := nx1 done.length g10
    refine Ev_shift 1 (fun k => ?_) ih
    rw [strings_genSplit.l0, if_pos g1, sfind, hi, Option.bind_some, if_neg g2, hs1, hw1, hw2, hw3, if_pos g3, if_pos g4, if_pos g5, hlen, if_pos g6, if_pos g7, if_pos g8, Int.toNat_natCast, Int.toNat_natCast, Int.toNat_natCast, set_at, e0, List.length_append, List.length_singleton, ← hs2]
theorem split_ev (s : ByteArray) (hs : s.size ≤ 1000000) : Ev (fun k => strings_Split.f k s sep1) ((pcs [] s.data.toList).map mkB) := by
  have hd := dots_le s.data.toList
  have hsz := size_data s
  unfold strings_Split.f strings_genSplit.f
  have h0 : ¬ sep1.toList = ([] : List UInt8) := by rw [toL]; exact List.cons_ne_nil _ _
  simp only [if_neg (show ¬ (-1 : Int) = 0 by omega), if_neg h0, if_pos (show (-1 : Int) < 0 by omega), scount, Option.bind_some]
  have hw : wrap64 (((dots s.data.toList : Nat) : Int) + 1) = ((dots s.data.toList + 1 : Nat) : Int) := by rw [wrap_id (by omega) (by omega)]; omega
  have hw2 : wrap64 ((s.size : Int) + 1) = ((s.size + 1 : Nat) : Int) := by rw [wrap_id (by omega) (by omega)]; omega
  have hm : mn ((dots s.data.toList + 1 : Nat) : Int) ((s.size + 1 : Nat) : Int) = ((dots s.data.toList + 1 : Nat) : Int) := by rw [mn_len, Nat.min_eq_left (by omega)]
  have hw3 : wrap64 (((dots s.data.toList + 1 : Nat) : Int) - 1) = ((dots s.data.toList : Nat) : Int) := by rw [wrap_id (by omega) (by omega)]; omega
  rw [hw]
  refine Ev.bind (a := (pcs [] s.data.toList).map mkB) ?_ (Ev_const rfl)
  refine Ev_shift 1 (fun k => by rw [strings_genSplit.j0, hw2, hm, if_pos (by omega), Int.toNat_natCast, if_pos (by omega), hw3]) ?_
  exact split_from (dots s.data.toList) (by omega) (dots s.data.toList) [] s rfl (by simp) (by omega)
/-- The labels, each by its place. -/
def oks : Bool → List (List UInt8) → Bool
  | _, [] => true
  | first, x :: r => (ordB x || (first && decide (x = [42]))) && oks false r
theorem labels_from (l : List (List UInt8)) (hl : l.length ≤ 1000001) (hsz : ∀ x ∈ l, x.length ≤ 1000000) : ∀ (r : List (List UInt8)) (i : Nat), l.drop i = r →
    Ev (fun k => dname_Valid.l0 k (l.map mkB) (((l.map mkB).length : Nat) : Int) (i : Int)) (oks (decide (i = 0)) r)
  | [], i, h => by
    have := drop_end h
    refine Ev_shift 1 (f := fun _ => some true) (fun k => ?_) (Ev_const rfl)
    rw [dname_Valid.l0, if_neg (by rw [List.length_map]; omega)]
  | x :: r, i, h => by
    obtain ⟨hi, hx, hr⟩ := drop_at h
    have hlm : (l.map mkB).length = l.length := List.length_map _
    have hrd : rdOf ByteArray.empty (l.map mkB) (i : Int) = mkB x := by
      simp [rdOf, List.getD_eq_getElem?_getD, List.getElem?_eq_getElem hi, hx]
    have ih := labels_from l hl hsz r (i + 1) hr
    have hxs : (mkB x).size ≤ 140737488351232 := by
      have := hsz x (hx ▸ List.getElem_mem hi)
      rw [mkB_size]
      omega
    have key : ∀ b : Bool, b = !(ordB x || (decide (i = 0) && decide (x = [42]))) → Ev (fun k => dname_Valid.j2 k (l.map mkB) (((l.map mkB).length : Nat) : Int) (i : Int) b) (oks (decide (i = 0)) (x :: r)) := by
      intro b hb
      rw [oks]
      cases hk : (ordB x || (decide (i = 0) && decide (x = [42]))) with
      | false =>
        rw [hk] at hb
        subst hb
        refine Ev_shift 1 (f := fun _ => some false) (fun k => ?_) (Ev_const rfl)
        rw [dname_Valid.j2]
        rfl
      | true =>
        rw [hk] at hb
        subst hb
        rw [Bool.true_and]
        have hi1 : decide (i + 1 = 0) = false := decide_eq_false (by omega)
        rw [hi1] at ih
        refine Ev_shift 1 (fun k => ?_) ih
        rw [dname_Valid.j2, next i l.length hi (by omega)]
        rfl
    refine Ev_shift 1 (fun k => by rw [dname_Valid.l0, if_pos (by omega), if_pos (by omega), if_pos (by omega), hrd]) ?_
    refine Ev.bind (ord_ev (mkB x) hxs) ?_
    rw [mkB_data]
    cases ho : ordB x with
    | true =>
      simp only [if_true]
      exact key false (by rw [ho]; rfl)
    | false =>
      simp only [Bool.false_eq_true, if_false]
      by_cases h0 : i = 0
      · subst h0
        simp only [if_neg (show ¬ ((0 : Nat) : Int) > 0 by omega)]
        refine key _ ?_
        rw [ho, toL, mkB_data]
        by_cases h42 : x = [42]
        · simp [h42]
        · have : (x != [42]) = true := by simpa using h42
          rw [this]
          simp [h42]
      · simp only [if_pos (show (i : Int) > 0 by omega)]
        exact key true (by rw [ho]; simp [h0])
end Go.Proofs.YtngfffoeaghhhaaDoor.Cm
namespace Go.Proofs.YtngfffoeaghhhaaDoor.Cm
open Go.RowKit Go.Proofs.YtngfffoeaghhhaaDoorW.PrintWords Go.Proofs.YtngfffoeaghhhaaDoorW.PrintLast Go.Proofs.YtngfffoeaghhhaaDoorW.PrintMore Go.Proofs.YtngfffoeaghhhaaDoor.XP Go.Proofs.YtngfffoeaghhhaaDoor.QA
set_option linter.unusedVariables false
set_option linter.unusedSimpArgs false
/-- A domain name, by its bytes. -/
def nameB (l : List UInt8) : Bool := decide (l = [46]) || (decide (2 ≤ l.length ∧ l.length ≤ 254) && (decide (l.getLast? = some 46) && oks true (pcs [] l.dropLast)))
theorem wsub1 (n : Nat) (h : 1 ≤ n) (h2 : n ≤ 140737488351232) : wrap64 ((n : Int) - 1) = ((n - 1 : Nat) : Int) := by
  rw [wrap_id (by omega) (by omega)]
  omega
theorem last_iff (s : ByteArray) (h1 : 1 ≤ s.size) (hs : s.size ≤ 1000000) : (bt s ((s.size - 1 : Nat) : Int) = 46) ↔ s.data.toList.getLast? = some 46 := by
  have hsz := size_data s
  have hi : s.size - 1 < s.data.toList.length := by omega
  rw [bt_get s (s.size - 1) hi, List.getLast?_eq_getElem?, ← hsz, List.getElem?_eq_getElem hi]
  constructor
  · intro h
    have : (s.data.toList[s.size - 1]).toNat = 46 := by omega
    have h2 : s.data.toList[s.size - 1] = 46 := UInt8.toNat.inj this
    rw [h2]
  · intro h
    injection h with h
    rw [h]
    rfl
theorem suffix_val (s : ByteArray) (hs : s.size ≤ 1000000) : strings_HasSuffix.f s sep1 = some (decide (s.data.toList.getLast? = some 46)) := by
  have hsz := size_data s
  unfold strings_HasSuffix.f stringslite_HasSuffix.f
  have h1 : sep1.size = 1 := rfl
  rw [h1]
  by_cases h0 : 1 ≤ s.size
  · have hw : wrap64 ((s.size : Int) - ((1 : Nat) : Int)) = ((s.size - 1 : Nat) : Int) := by rw [wrap_id (by omega) (by omega)]; omega
    rw [if_pos (by omega), hw, if_pos (by omega), if_pos (by omega), Int.toNat_natCast, Option.bind_some, toL, toL]
    have hi : s.size - 1 < s.data.toList.length := by omega
    have e : (s.extract (s.size - 1) s.size).data.toList = [s.data.toList[s.size - 1]] := by
      rw [data_ext, List.drop_eq_getElem_cons hi, List.drop_eq_nil_of_le (by omega), List.take_of_length_le (by simp; omega)]
    rw [e, List.getLast?_eq_getElem?, ← hsz, List.getElem?_eq_getElem hi]
    congr 1
    rw [Bool.eq_iff_iff, beq_iff_eq, decide_eq_true_eq]
    show [_] = [46] ↔ _
    simp
  · have : s.data.toList = [] := List.length_eq_zero_iff.1 (by omega)
    rw [if_neg (by omega), Option.bind_some, this]
    rfl
theorem pcs_small : ∀ (l cur : List UInt8) (x : List UInt8), x ∈ pcs cur l → x.length ≤ cur.length + l.length
  | [], cur, x, h => by simp [pcs] at h; subst h; simp
  | c :: r, cur, x, h => by
    rw [pcs] at h
    split at h
    · rcases List.mem_cons.1 h with h | h
      · subst h; simp
      · have := pcs_small r [] x h; simp at this ⊢; omega
    · have := pcs_small r _ x h; simp at this ⊢; omega
theorem name_ev (s : ByteArray) (hs : s.size ≤ 140737488351232) : Ev (fun k => dname_Valid.f k s) (nameB s.data.toList) := by
  have hsz := size_data s
  unfold dname_Valid.f nameB
  rw [toL]
  by_cases h46 : s.data.toList = [46]
  · simp only [if_pos h46, h46, decide_true, Bool.true_or]
    exact Ev_const rfl
  · simp only [h46, if_false, decide_false, Bool.false_or]
    by_cases hbig : (s.size : Int) ≥ 255
    · simp only [if_pos hbig]
      have : decide (2 ≤ s.data.toList.length ∧ s.data.toList.length ≤ 254) = false := decide_eq_false (by omega)
      rw [this, Bool.false_and]
      exact Ev_shift 1 (f := fun _ => some false) (fun k => by rw [dname_Valid.j0, if_pos rfl]) (Ev_const rfl)
    · simp only [if_neg hbig]
      have hsf := suffix_val s (by omega)
      simp only [show (⟨#[46]⟩ : ByteArray) = sep1 from rfl, hsf, Option.bind_some]
      cases hl : decide (s.data.toList.getLast? = some 46) with
      | false =>
        rw [Bool.false_and, Bool.and_false]
        exact Ev_shift 1 (f := fun _ => some false) (fun k => by rw [dname_Valid.j0]; rfl) (Ev_const rfl)
      | true =>
        have hl' := of_decide_eq_true hl
        have hn2 : 2 ≤ s.data.toList.length := by
          cases hd : s.data.toList with
          | nil => rw [hd] at hl'; cases hl'
          | cons c r =>
            cases r with
            | nil =>
              rw [hd] at hl'
              have hl2 : c = 46 := by simpa using hl'
              exact absurd (by rw [hd, hl2]) h46
            | cons => simp
        have : decide (2 ≤ s.data.toList.length ∧ s.data.toList.length ≤ 254) = true := decide_eq_true (by omega)
        rw [this, Bool.true_and, Bool.true_and]
        refine Ev_shift 1 (fun k => by rw [dname_Valid.j0, Bool.not_true, if_neg (by decide), wsub1 s.size (by rw [hsz]; omega) hs, if_pos (by omega), if_pos (by omega), Int.toNat_natCast]) ?_
        have he : (s.extract 0 (s.size - 1)).data.toList = s.data.toList.dropLast := by
          rw [data_ext, List.drop_zero, Nat.sub_zero, List.dropLast_eq_take, hsz]
        have hes : (s.extract 0 (s.size - 1)).size ≤ 254 := by rw [size_data, he, List.length_dropLast]; omega
        have hsp := split_ev (s.extract 0 (s.size - 1)) (by omega)
        rw [he] at hsp
        refine Ev.bind hsp ?_
        have hdl : s.data.toList.dropLast.length ≤ 254 := by rw [List.length_dropLast]; omega
        have := labels_from (pcs [] s.data.toList.dropLast) (by have := pcs_len s.data.toList.dropLast []; have := dots_le s.data.toList.dropLast; omega) (fun x hx => by have := pcs_small _ _ x hx; simp at this; omega) _ 0 rfl
        exact this
/-! ### the reference's -/
theorem rsplit_from (s : ByteArray) (hs : s.size ≤ 254) : ∀ (r : List UInt8) (i st : Nat) (l : List ByteArray), s.data.toList.drop i = r → st ≤ i → dots ((s.data.toList.drop st).take (i - st)) = 0 → l.length ≤ i → (s.data.toList.getLast? = some 46) →
    ∃ q : List ByteArray, Ev (fun k => ddiref01_split.l0 k s l (st : Int) (i : Int)) (q, if r = [] then true else oks (decide (st = 0)) (pcs ((s.data.toList.drop st).take (i - st)) r.dropLast))
  | [], i, st, l, h, hst, hd, hl, hlast => by
    have := size_end s i h
    refine ⟨l, Ev_shift 1 (f := fun _ => some (l, true)) (fun k => ?_) (Ev_const rfl)⟩
    rw [ddiref01_split.l0, if_neg (by omega)]
  | c :: r, i, st, l, h, hst, hd, hl, hlast => by
    have hsz := size_data s
    obtain ⟨hi, hb, hr⟩ := bt_at_drop s i c r h
    have hlen : r.length = s.size - (i + 1) := by rw [← hr, List.length_drop]; omega
    have hsb : s.size ≤ 140737488351232 := by omega
    have hcur : (s.data.toList.drop st).take (i + 1 - st) = (s.data.toList.drop st).take (i - st) ++ [c] := by
      have : i - st < (s.data.toList.drop st).length := by rw [List.length_drop]; omega
      rw [show i + 1 - st = (i - st) + 1 by omega, List.take_succ_eq_append_getElem this]
      congr 2
      rw [List.getElem_drop]
      have h2 := (drop_at h).2.1
      rw [← h2]
      congr 1
      omega
    by_cases hc : c = 46
    · subst hc
      have hx : (s.extract st i).data.toList = (s.data.toList.drop st).take (i - st) := data_ext s st i
      generalize hcr : (s.data.toList.drop st).take (i - st) = cur at hx hd hcur
      have hxs : (s.extract st i).size ≤ 140737488351232 := by
        rw [size_data, hx, ← hcr, List.length_take, List.length_drop]
        omega
      have hgo : (labB cur && !(decide (cur = [42]) && decide (0 < st))) = (ordB cur || (decide (st = 0) && decide (cur = [42]))) := by
        unfold labB
        by_cases h42 : cur = [42]
        · have ho : ordB cur = false := by rw [h42]; decide
          by_cases h0 : st = 0
          · simp [h42, h0]
          · have : 0 < st := by omega
            rw [ho]
            simp [h42, h0, this]
        · simp [h42]
          skip
      have hpc : (if ((46 : UInt8) :: r) = [] then true else oks (decide (st = 0)) (pcs cur ((46 : UInt8) :: r).dropLast)) = ((ordB cur || (decide (st = 0) && decide (cur = [42]))) && (if r = [] then true else oks false (pcs [] r.dropLast))) := by
        rw [if_neg (List.cons_ne_nil _ _)]
        cases r with
        | nil => rw [if_pos rfl, show ([46] : List UInt8).dropLast = [] from rfl, pcs, oks, oks]
        | cons c2 r2 => rw [if_neg (List.cons_ne_nil _ _), List.dropLast_cons_of_ne_nil (List.cons_ne_nil _ _), pcs, if_pos rfl, oks]
      rw [hpc]
      have hj : ∀ b : Bool, b = !(ordB cur || (decide (st = 0) && decide (cur = [42]))) → ∃ q : List ByteArray, Ev (fun k => ddiref01_split.j2 k s l (i : Int) (s.extract st i) b) (q, (ordB cur || (decide (st = 0) && decide (cur = [42]))) && (if r = [] then true else oks false (pcs [] r.dropLast))) := by
        intro b hbk
        cases hk : (ordB cur || (decide (st = 0) && decide (cur = [42]))) with
        | false =>
          rw [hk] at hbk
          subst hbk
          refine ⟨[], Ev_shift 1 (f := fun _ => some ([], false)) (fun k => ?_) (Ev_const rfl)⟩
          rw [ddiref01_split.j2]
          rfl
        | true =>
          rw [hk] at hbk
          subst hbk
          obtain ⟨q, ih⟩ := rsplit_from s hs r (i + 1) (i + 1) (l ++ [s.extract st i]) hr (Nat.le_refl _) (by rw [Nat.sub_self, List.take_zero]; rfl) (by simp; omega) hlast
          rw [Nat.sub_self, List.take_zero, show decide (i + 1 = 0) = false from decide_eq_false (by omega)] at ih
          refine ⟨q, Ev_shift 1 (fun k => ?_) (by rw [Bool.true_and]; exact ih)⟩
          rw [ddiref01_split.j2, Bool.not_true, if_neg (by decide), if_pos (by omega), next i s.size hi (by omega)]
      have hlab := lab_ev (s.extract st i) hxs
      rw [hx] at hlab
      have hfst : ∃ b : Bool, b = !(ordB cur || (decide (st = 0) && decide (cur = [42]))) ∧ ∀ q v, Ev (fun k => ddiref01_split.j2 k s l (i : Int) (s.extract st i) b) (q, v) → Ev (fun k => ddiref01_split.l0 k s l (st : Int) (i : Int)) (q, v) := by
        refine ⟨_, rfl, fun q v hq => ?_⟩
        refine Ev_shift 1 (fun k => by rw [ddiref01_split.l0, if_pos (by omega), if_pos (by omega), hb, if_pos (by rfl), if_pos (by omega), if_pos (by omega), if_pos (by omega), Int.toNat_natCast, Int.toNat_natCast]) ?_
        refine Ev.bind hlab ?_
        rw [toL, hx]
        rw [← hgo] at hq
        cases hl2 : labB cur with
        | false =>
          rw [hl2] at hq
          simp only [Bool.false_eq_true, if_false]
          exact hq
        | true =>
          rw [hl2] at hq
          simp only [if_true]
          by_cases h42 : cur = [42]
          · simp only [if_pos h42]
            rw [show decide ((st : Int) > 0) = decide (0 < st) from by rw [Bool.eq_iff_iff]; simp]
            simpa [h42] using hq
          · simp only [if_neg h42]
            simpa [h42] using hq
      obtain ⟨b, hb1, hb2⟩ := hfst
      obtain ⟨q, hq⟩ := hj b hb1
      exact ⟨q, hb2 q _ hq⟩
    · have hcn : ¬ (c.toNat : Int) = 46 := by
        intro e
        exact hc (UInt8.toNat.inj (by show c.toNat = 46; omega))
      have hd2 : dots ((s.data.toList.drop st).take (i + 1 - st)) = 0 := by
        rw [hcur, dots, List.count_append, List.count_singleton]
        have : (c == 46) = false := by simpa using hc
        rw [this]
        simpa [dots] using hd
      have hrn : r ≠ [] := by
        rintro rfl
        have : s.data.toList.getLast? = some c := by
          rw [← List.take_append_drop i s.data.toList, h]
          simp
        rw [this] at hlast
        injection hlast with hlast
        exact hc hlast
      obtain ⟨q, ih⟩ := rsplit_from s hs r (i + 1) st l hr (by omega) hd2 (by omega) hlast
      refine ⟨q, Ev_shift 1 (f := fun k => ddiref01_split.l0 k s l (st : Int) ((i + 1 : Nat) : Int)) (fun k => ?_) ?_⟩
      · rw [ddiref01_split.l0, if_pos (by omega), if_pos (by omega), hb, if_neg hcn, next i s.size hi (by omega)]
      · rw [if_neg (List.cons_ne_nil _ _), List.dropLast_cons_of_ne_nil hrn, pcs, if_neg hc, ← hcur]
        rw [if_neg hrn] at ih
        exact ih
theorem rname_ev (s : ByteArray) (hs : s.size ≤ 140737488351232) : Ev (fun k => ddiref01_Valid.f k s) (nameB s.data.toList) := by
  have hsz := size_data s
  unfold ddiref01_Valid.f ddiref01_split.f nameB
  rw [toL]
  have hbad : ∀ v : Bool, v = false → Ev (fun k => (ddiref01_split.j0 k s true).bind fun bt => some bt.2) v := by
    rintro v rfl
    refine Ev.bind (a := (([] : List ByteArray), false)) ?_ (Ev_const rfl)
    exact Ev_shift 1 (f := fun _ => some ([], false)) (fun k => by rw [ddiref01_split.j0, if_pos rfl]) (Ev_const rfl)
  by_cases h46 : s.data.toList = [46]
  · simp only [if_pos h46, h46, decide_true, Bool.true_or, Option.bind_some]
    exact Ev_const rfl
  · simp only [h46, if_false, decide_false, Bool.false_or]
    by_cases h2 : (s.size : Int) < 2
    · simp only [if_pos h2]
      exact hbad _ (by rw [show decide (2 ≤ s.data.toList.length ∧ s.data.toList.length ≤ 254) = false from decide_eq_false (by omega)]; rfl)
    · simp only [if_neg h2]
      by_cases h254 : (s.size : Int) > 254
      · simp only [if_pos h254]
        exact hbad _ (by rw [show decide (2 ≤ s.data.toList.length ∧ s.data.toList.length ≤ 254) = false from decide_eq_false (by omega)]; rfl)
      · simp only [if_neg h254]
        simp only [wsub1 s.size (by omega) hs, if_pos (show (0 : Int) ≤ ((s.size - 1 : Nat) : Int) by omega), if_pos (show ((s.size - 1 : Nat) : Int) < (s.size : Int) by omega)]
        rw [show decide (2 ≤ s.data.toList.length ∧ s.data.toList.length ≤ 254) = true from decide_eq_true (by omega), Bool.true_and]
        have hli := last_iff s (by omega) (by omega)
        by_cases hl : s.data.toList.getLast? = some 46
        · have hb : (bt s ((s.size - 1 : Nat) : Int) != 46) = false := by simpa using hli.2 hl
          rw [hb, hl, decide_eq_true rfl, Bool.true_and]
          obtain ⟨q, hq⟩ := rsplit_from s (by omega) s.data.toList 0 0 [] rfl (Nat.le_refl _) (by rw [Nat.sub_self, List.take_zero]; rfl) (by simp) hl
          have hne : s.data.toList ≠ [] := by
            intro e
            rw [e] at hl
            cases hl
          rw [if_neg hne, Nat.sub_self, List.take_zero] at hq
          refine Ev.bind (Ev_shift 1 (fun k => by rw [ddiref01_split.j0, if_neg (by decide)]; rfl) hq) (Ev_const rfl)
        · have hb : (bt s ((s.size - 1 : Nat) : Int) != 46) = true := by
            rw [bne_iff_ne]
            exact fun e => hl (hli.1 e)
          rw [hb]
          exact hbad _ (by rw [decide_eq_false hl]; rfl)
end Go.Proofs.YtngfffoeaghhhaaDoor.Cm
namespace Go.Proofs.YtngfffoeaghhhaaDoor.Cm
open Go.RowKit Go.Proofs.YtngfffoeaghhhaaDoorW.PrintWords Go.Proofs.YtngfffoeaghhhaaDoorW.PrintLast Go.Proofs.YtngfffoeaghhhaaDoorW.PrintMore Go.Proofs.YtngfffoeaghhhaaDoor.XP Go.Proofs.YtngfffoeaghhhaaDoor.QA
set_option linter.unusedVariables false
set_option linter.unusedSimpArgs false
/-! ### bits -/
theorem bv_split (A B : BitVec 64) : (A &&& ~~~B) + (A &&& B) = A := by
  rw [BitVec.add_eq_or_of_and_eq_zero]
  · apply BitVec.eq_of_getLsbD_eq
    intro i hi
    simp only [BitVec.getLsbD_or, BitVec.getLsbD_and, BitVec.getLsbD_not, hi, decide_true, Bool.true_and]
    cases A.getLsbD i <;> cases B.getLsbD i <;> rfl
  · apply BitVec.eq_of_getLsbD_eq
    intro i hi
    simp only [BitVec.getLsbD_and, BitVec.getLsbD_not, hi, decide_true, Bool.true_and, BitVec.getLsbD_zero]
    cases A.getLsbD i <;> cases B.getLsbD i <;> rfl
theorem bv_of (x : Int) (h0 : 0 ≤ x) (h1 : x < 18446744073709551616) : ((BitVec.ofInt 64 x).toNat : Int) = x := by
  obtain ⟨n, rfl⟩ := Int.eq_ofNat_of_zero_le h0
  rw [BitVec.ofInt_natCast, BitVec.toNat_ofNat]
  omega
theorem b_and (x m : Int) : Go.bits .and .u64 x m = ((BitVec.ofInt 64 x &&& BitVec.ofInt 64 m).toNat : Int) := by
  show IntKind.u64.wrap ((BitVec.ofInt 64 x &&& BitVec.ofInt 64 m).toNat : Int) = _
  have := (BitVec.ofInt 64 x &&& BitVec.ofInt 64 m).isLt
  rw [IntKind.wrap_u64]
  omega
theorem b_or (x m : Int) : Go.bits .or .u64 x m = ((BitVec.ofInt 64 x ||| BitVec.ofInt 64 m).toNat : Int) := by
  show IntKind.u64.wrap ((BitVec.ofInt 64 x ||| BitVec.ofInt 64 m).toNat : Int) = _
  have := (BitVec.ofInt 64 x ||| BitVec.ofInt 64 m).isLt
  rw [IntKind.wrap_u64]
  omega
theorem b_not (x m : Int) : Go.bits .andNot .u64 x m = ((BitVec.ofInt 64 x &&& ~~~BitVec.ofInt 64 m).toNat : Int) := by
  show IntKind.u64.wrap ((BitVec.ofInt 64 x &&& ~~~BitVec.ofInt 64 m).toNat : Int) = _
  have := (BitVec.ofInt 64 x &&& ~~~BitVec.ofInt 64 m).isLt
  rw [IntKind.wrap_u64]
  omega
theorem andnot_sub (x m : Int) (h0 : 0 ≤ x) (h1 : x < 18446744073709551616) : IntKind.u64.wrap (x - Go.bits .and .u64 x m) = Go.bits .andNot .u64 x m := by
  rw [b_and, b_not, IntKind.wrap_u64]
  have hx := bv_of x h0 h1
  generalize BitVec.ofInt 64 x = A at hx
  generalize BitVec.ofInt 64 m = B
  have h := congrArg BitVec.toNat (bv_split A B)
  rw [BitVec.toNat_add] at h
  have c1 : (A &&& B).toNat ≤ A.toNat := by rw [BitVec.toNat_and]; exact Nat.and_le_left
  have c2 : (A &&& ~~~B).toNat ≤ A.toNat := by rw [BitVec.toNat_and]; exact Nat.and_le_left
  omega
theorem or_add (x m : Int) (h0 : 0 ≤ x) (h1 : x < 18446744073709551616) (g0 : 0 ≤ m) (g1 : m < 18446744073709551616) (h : Go.bits .and .u64 x m = 0) : IntKind.u64.wrap (x + m) = Go.bits .or .u64 x m := by
  rw [b_and] at h
  rw [b_or, IntKind.wrap_u64]
  have hx := bv_of x h0 h1
  have hm := bv_of m g0 g1
  generalize BitVec.ofInt 64 x = A at hx h
  generalize BitVec.ofInt 64 m = B at hm h
  have hz : A &&& B = 0#64 := by
    apply BitVec.eq_of_toNat_eq
    rw [BitVec.toNat_ofNat]
    omega
  rw [← BitVec.add_eq_or_of_and_eq_zero A B hz, BitVec.toNat_add]
  omega
/-! ### masks -/
def mHi (m : Nat) : Int := ((2 ^ (m - 64) - 1 : Nat) : Int)
def mLo (m : Nat) : Int := ((2 ^ (min m 64) - 1 : Nat) : Int)
def lenV (b : Bool) : Int := if b = true then 128 else 32
theorem later6 : ∀ n : Fin 129, prefix_later.f true ((n.val : Nat) : Int) = some (mHi (128 - n.val), mLo (128 - n.val)) := by decide +kernel
theorem later4 : ∀ n : Fin 33, prefix_later.f false ((n.val : Nat) : Int) = some (mHi (32 - n.val), mLo (32 - n.val)) := by decide +kernel
theorem ones_all : ∀ m : Fin 129, ddiref03_ones.f 300 ((m.val : Nat) : Int) = some (mHi m.val, mLo m.val) := by decide +kernel
theorem mask_lt : ∀ m : Fin 129, (0 ≤ mHi m.val ∧ mHi m.val < 18446744073709551616) ∧ (0 ≤ mLo m.val ∧ mLo m.val < 18446744073709551616) := by decide +kernel
theorem lenV_le (b : Bool) : 32 ≤ lenV b ∧ lenV b ≤ 128 := by
  cases b <;> simp [lenV]
theorem later_v (b : Bool) (n : Int) (h0 : 0 ≤ n) (h1 : n ≤ lenV b) : prefix_later.f b n = some (mHi (lenV b - n).toNat, mLo (lenV b - n).toNat) := by
  obtain ⟨j, rfl⟩ := Int.eq_ofNat_of_zero_le h0
  cases b with
  | true =>
    have h2 : lenV true = 128 := rfl
    rw [h2] at h1 ⊢
    have h := later6 ⟨j, by omega⟩
    simp only at h
    rw [h, show ((128 : Int) - (j : Int)).toNat = 128 - j by omega]
  | false =>
    have h2 : lenV false = 32 := rfl
    rw [h2] at h1 ⊢
    have h := later4 ⟨j, by omega⟩
    simp only at h
    rw [h, show ((32 : Int) - (j : Int)).toNat = 32 - j by omega]
theorem ones_ev (b : Bool) (n : Int) (h0 : 0 ≤ n) (h1 : n ≤ lenV b) : Ev (fun k => ddiref03_ones.f k (wrap64 (lenV b - n))) (mHi (lenV b - n).toNat, mLo (lenV b - n).toNat) := by
  have hl := lenV_le b
  rw [wrap_id (by omega) (by omega)]
  obtain ⟨j, hj⟩ := Int.eq_ofNat_of_zero_le (show 0 ≤ lenV b - n by omega)
  rw [hj, Int.toNat_natCast]
  have h := ones_all ⟨j, by omega⟩
  exact ⟨300, fun k hk => at_rounds (g := fun k => ddiref03_ones.f k (j : Int)) (ddiref03_ones.mono (j : Int)) hk h⟩
theorem msk_lt (b : Bool) (n : Int) (h0 : 0 ≤ n) (h1 : n ≤ lenV b) : (0 ≤ mHi (lenV b - n).toNat ∧ mHi (lenV b - n).toNat < 18446744073709551616) ∧ (0 ≤ mLo (lenV b - n).toNat ∧ mLo (lenV b - n).toNat < 18446744073709551616) := by
  have hl := lenV_le b
  exact mask_lt ⟨(lenV b - n).toNat, by omega⟩
theorem long_v (b : Bool) : ddiref03_Long.f b = some (lenV b) := by cases b <;> rfl
theorem length_v (a : S24) : prefix_length.f a.f0 a.f1 a.f2 = some (lenV a.f0) := by
  unfold prefix_length.f
  cases a.f0 <;> rfl
/-! ### addresses -/
def adB (x : S24) : Bool := x.f0 || (decide (x.f1 = 0) && decide (x.f2 ≤ 4294967295))
theorem ad_v (x : S24) : addr_Valid.f x.f0 x.f1 x.f2 = some (adB x) := by
  unfold addr_Valid.f adB
  cases h : x.f0 with
  | true => rfl
  | false =>
    simp only [Bool.false_eq_true, if_false, Bool.false_or]
    by_cases h1 : x.f1 = 0
    · simp [h1]
    · simp [h1]
theorem rad_v (x : S24) : ddiref02_Valid.f x.f0 x.f1 x.f2 = some (adB x) := by
  unfold ddiref02_Valid.f adB
  cases h : x.f0 with
  | true => rfl
  | false =>
    simp only [Bool.false_eq_true, if_false, Bool.false_or]
    by_cases h1 : x.f1 = 0
    · simp [h1]
      omega
    · simp [h1]
/-! ### Valid -/
def mkH (a : S24) (n : Int) : Int := mHi (lenV a.f0 - n).toNat
def mkL (a : S24) (n : Int) : Int := mLo (lenV a.f0 - n).toNat
def inB (a : S24) (n : Int) : Bool := adB a && (decide (0 ≤ n) && decide (n ≤ lenV a.f0))
def pvB (p : S45) : Bool := inB p.f0 p.f1 && (decide (Go.bits .and .u64 p.f0.f1 (mkH p.f0 p.f1) = 0) && (Go.bits .and .u64 p.f0.f2 (mkL p.f0 p.f1) == 0))
theorem inB_iff (a : S24) (n : Int) : inB a n = true ↔ adB a = true ∧ 0 ≤ n ∧ n ≤ lenV a.f0 := by
  simp [inB]
theorem pv_in {p : S45} (h : pvB p = true) : adB p.f0 = true ∧ 0 ≤ p.f1 ∧ p.f1 ≤ lenV p.f0.f0 := by
  rw [pvB, Bool.and_eq_true] at h
  exact (inB_iff _ _).1 h.1
theorem pv_j (p : S45) (b : Bool) (hb : b = !inB p.f0 p.f1) : Ev (fun k => prefix_Valid.j0 k b p.f0.f0 p.f0.f1 p.f0.f2 p.f1) (pvB p) := by
  unfold pvB
  cases hi : inB p.f0 p.f1 with
  | false =>
    rw [hi] at hb
    subst hb
    refine Ev_shift 1 (f := fun _ => some false) (fun k => ?_) (Ev_const rfl)
    rw [prefix_Valid.j0]
    rfl
  | true =>
    rw [hi] at hb
    subst hb
    obtain ⟨_, h0, h1⟩ := (inB_iff _ _).1 hi
    refine Ev_shift 1 (f := fun _ => some (decide (Go.bits .and .u64 p.f0.f1 (mkH p.f0 p.f1) = 0) && (Go.bits .and .u64 p.f0.f2 (mkL p.f0 p.f1) == 0))) (fun k => ?_) (Ev_const rfl)
    rw [prefix_Valid.j0, if_neg (by decide), later_v p.f0.f0 p.f1 h0 h1]
    simp only [Option.bind_some]
    show (if Go.bits .and .u64 p.f0.f1 (mkH p.f0 p.f1) = 0 then _ else _) = _
    by_cases h : Go.bits .and .u64 p.f0.f1 (mkH p.f0 p.f1) = 0
    · rw [if_pos h, decide_eq_true h]; rfl
    · rw [if_neg h, decide_eq_false h]; rfl
theorem valid_pfx (p : S45) : Ev (fun k => prefix_Valid.f k p.f0.f0 p.f0.f1 p.f0.f2 p.f1) (pvB p) := by
  unfold prefix_Valid.f
  simp only [ad_v, Option.bind_some, length_v]
  cases ha : adB p.f0 with
  | false =>
    simp only [Bool.false_eq_true, if_false]
    exact pv_j p true (by simp [inB, ha])
  | true =>
    simp only [if_true]
    by_cases h0 : p.f1 < 0
    · simp only [if_pos h0]
      exact pv_j p true (by simp [inB, ha]; omega)
    · simp only [if_neg h0]
      refine pv_j p _ ?_
      by_cases h1 : p.f1 ≤ lenV p.f0.f0
      · rw [decide_eq_false (by omega)]; simp [inB, ha, h1]; omega
      · rw [decide_eq_true (by omega)]; simp [inB, ha, h1]
theorem rpv_j (p : S45) (b : Bool) (hb : b = !inB p.f0 p.f1) : Ev (fun k => ddiref03_Valid.j0 k b p.f0.f0 p.f0.f1 p.f0.f2 p.f1) (pvB p) := by
  unfold pvB
  cases hi : inB p.f0 p.f1 with
  | false =>
    rw [hi] at hb
    subst hb
    refine Ev_shift 1 (f := fun _ => some false) (fun k => ?_) (Ev_const rfl)
    rw [ddiref03_Valid.j0]
    rfl
  | true =>
    rw [hi] at hb
    subst hb
    obtain ⟨_, h0, h1⟩ := (inB_iff _ _).1 hi
    refine Ev_shift 1 (fun k => by rw [ddiref03_Valid.j0, if_neg (by decide), long_v, Option.bind_some]) ?_
    refine Ev.bind (ones_ev p.f0.f0 p.f1 h0 h1) ?_
    show Ev (fun n => if Go.bits .and .u64 p.f0.f1 (mkH p.f0 p.f1) = 0 then _ else _) _
    by_cases h : Go.bits .and .u64 p.f0.f1 (mkH p.f0 p.f1) = 0
    · simp only [if_pos h, decide_eq_true h]
      exact Ev_const rfl
    · simp only [if_neg h, decide_eq_false h]
      exact Ev_const rfl
theorem rvalid_pfx (p : S45) : Ev (fun k => ddiref03_Valid.f k p.f0.f0 p.f0.f1 p.f0.f2 p.f1) (pvB p) := by
  unfold ddiref03_Valid.f
  simp only [rad_v, Option.bind_some, long_v]
  cases ha : adB p.f0 with
  | false =>
    simp only [Bool.false_eq_true, if_false]
    exact rpv_j p true (by simp [inB, ha])
  | true =>
    simp only [if_true]
    by_cases h0 : p.f1 < 0
    · simp only [if_pos h0]
      exact rpv_j p true (by simp [inB, ha]; omega)
    · simp only [if_neg h0]
      refine rpv_j p _ ?_
      by_cases h1 : p.f1 ≤ lenV p.f0.f0
      · rw [decide_eq_false (by omega)]; simp [inB, ha, h1]; omega
      · rw [decide_eq_true (by omega)]; simp [inB, ha, h1]
/-! ### Of -/
def zPfx : S45 := ⟨⟨false, 0, 0⟩, 0⟩
def ofV (a : S24) (n : Int) : S45 := if inB a n = true then ⟨⟨a.f0, Go.bits .andNot .u64 a.f1 (mkH a n), Go.bits .andNot .u64 a.f2 (mkL a n)⟩, n⟩ else zPfx
def tPfx (p : S45) (b : Bool) : Bool × Int × Int × Int × Bool := (p.f0.f0, p.f0.f1, p.f0.f2, p.f1, b)
theorem of_j (a : S24) (n : Int) (b : Bool) (hb : b = !inB a n) : Ev (fun k => prefix_Of.j0 k n b a.f0 a.f1 a.f2) (tPfx (ofV a n) (inB a n)) := by
  unfold ofV
  cases hi : inB a n with
  | false =>
    rw [hi] at hb
    subst hb
    refine Ev_shift 1 (f := fun _ => some (tPfx zPfx false)) (fun k => ?_) (Ev_const rfl)
    rw [prefix_Of.j0]
    rfl
  | true =>
    rw [hi] at hb
    subst hb
    obtain ⟨_, h0, h1⟩ := (inB_iff _ _).1 hi
    refine Ev_shift 1 (f := fun _ => some (tPfx ⟨⟨a.f0, Go.bits .andNot .u64 a.f1 (mkH a n), Go.bits .andNot .u64 a.f2 (mkL a n)⟩, n⟩ true)) (fun k => ?_) (Ev_const rfl)
    rw [prefix_Of.j0, if_neg (by decide), later_v a.f0 n h0 h1]
    rfl
theorem of_pfx (a : S24) (n : Int) : Ev (fun k => prefix_Of.f k a.f0 a.f1 a.f2 n) (tPfx (ofV a n) (inB a n)) := by
  unfold prefix_Of.f
  simp only [ad_v, Option.bind_some, length_v]
  cases ha : adB a with
  | false =>
    simp only [Bool.false_eq_true, if_false]
    exact of_j a n true (by simp [inB, ha])
  | true =>
    simp only [if_true]
    by_cases h0 : n < 0
    · simp only [if_pos h0]
      exact of_j a n true (by simp [inB, ha]; omega)
    · simp only [if_neg h0]
      refine of_j a n _ ?_
      by_cases h1 : n ≤ lenV a.f0
      · rw [decide_eq_false (by omega)]; simp [inB, ha, h1]; omega
      · rw [decide_eq_true (by omega)]; simp [inB, ha, h1]
def uA (a : S24) : Prop := (0 ≤ a.f1 ∧ a.f1 < 18446744073709551616) ∧ (0 ≤ a.f2 ∧ a.f2 < 18446744073709551616)
theorem uA_of {a : S24} (h : okS24 a) : uA a := by
  obtain ⟨_, h1, h2⟩ := h
  have g1 := wf_u64 h1
  have g2 := wf_u64 h2
  exact ⟨⟨g1.1, by omega⟩, ⟨g2.1, by omega⟩⟩
theorem rof_j (a : S24) (ok : uA a) (n : Int) (b : Bool) (hb : b = !inB a n) : Ev (fun k => ddiref03_Of.j0 k n b a.f0 a.f1 a.f2) (tPfx (ofV a n) (inB a n)) := by
  unfold ofV
  cases hi : inB a n with
  | false =>
    rw [hi] at hb
    subst hb
    refine Ev_shift 1 (f := fun _ => some (tPfx zPfx false)) (fun k => ?_) (Ev_const rfl)
    rw [ddiref03_Of.j0]
    rfl
  | true =>
    rw [hi] at hb
    subst hb
    obtain ⟨_, h0, h1⟩ := (inB_iff _ _).1 hi
    refine Ev_shift 1 (fun k => by rw [ddiref03_Of.j0, if_neg (by decide), long_v, Option.bind_some]) ?_
    refine Ev.bind (ones_ev a.f0 n h0 h1) (Ev_const ?_)
    show some (a.f0, IntKind.u64.wrap (a.f1 - Go.bits .and .u64 a.f1 (mkH a n)), IntKind.u64.wrap (a.f2 - Go.bits .and .u64 a.f2 (mkL a n)), n, true) = _
    rw [andnot_sub _ _ ok.1.1 ok.1.2, andnot_sub _ _ ok.2.1 ok.2.2]
    rfl
theorem rof_pfx (a : S24) (ok : uA a) (n : Int) : Ev (fun k => ddiref03_Of.f k a.f0 a.f1 a.f2 n) (tPfx (ofV a n) (inB a n)) := by
  unfold ddiref03_Of.f
  simp only [rad_v, Option.bind_some, long_v]
  cases ha : adB a with
  | false =>
    simp only [Bool.false_eq_true, if_false]
    exact rof_j a ok n true (by simp [inB, ha])
  | true =>
    simp only [if_true]
    by_cases h0 : n < 0
    · simp only [if_pos h0]
      exact rof_j a ok n true (by simp [inB, ha]; omega)
    · simp only [if_neg h0]
      refine rof_j a ok n _ ?_
      by_cases h1 : n ≤ lenV a.f0
      · rw [decide_eq_false (by omega)]; simp [inB, ha, h1]; omega
      · rw [decide_eq_true (by omega)]; simp [inB, ha, h1]
/-! ### Contains, Within, Overlap -/
def eqPfx (x p : S45) : Bool := (x.f0.f0 == p.f0.f0 && (x.f0.f1 == p.f0.f1 && (x.f0.f2 == p.f0.f2))) && (x.f1 == p.f1)
def pcB (p : S45) (a : S24) : Bool := pvB p && ((p.f0.f0 == a.f0) && (inB a p.f1 && eqPfx (ofV a p.f1) p))
theorem con_j (p : S45) (a : S24) (b : Bool) (hb : b = !(pvB p && (p.f0.f0 == a.f0))) : Ev (fun k => prefix_Contains.j0 k b p.f0.f0 p.f0.f1 p.f0.f2 p.f1 a.f0 a.f1 a.f2) (pcB p a) := by
  unfold pcB
  rw [← Bool.and_assoc]
  cases hi : (pvB p && (p.f0.f0 == a.f0)) with
  | false =>
    rw [hi] at hb
    subst hb
    refine Ev_shift 1 (f := fun _ => some false) (fun k => ?_) (Ev_const rfl)
    rw [prefix_Contains.j0]
    rfl
  | true =>
    rw [hi] at hb
    subst hb
    refine Ev_shift 1 (fun k => by rw [prefix_Contains.j0, if_neg (by decide)]) ?_
    refine Ev.bind (of_pfx a p.f1) ?_
    show Ev (fun n => if inB a p.f1 = true then some (eqPfx (ofV a p.f1) p) else some false) _
    cases inB a p.f1 with
    | true => exact Ev_const rfl
    | false => exact Ev_const rfl
theorem contains_pfx (p : S45) (a : S24) : Ev (fun k => prefix_Contains.f k p.f0.f0 p.f0.f1 p.f0.f2 p.f1 a.f0 a.f1 a.f2) (pcB p a) := by
  unfold prefix_Contains.f
  refine Ev.bind (valid_pfx p) ?_
  cases hv : pvB p with
  | true =>
    simp only [if_true]
    exact con_j p a _ (by rw [hv]; rfl)
  | false =>
    simp only [Bool.false_eq_true, if_false]
    exact con_j p a _ (by rw [hv]; rfl)
theorem rcon_j (p : S45) (a : S24) (ok : uA a) (b : Bool) (hb : b = !((pvB p && adB a) && (p.f0.f0 == a.f0))) : Ev (fun k => ddiref03_Contains.j0 k b p.f0.f0 p.f0.f1 p.f0.f2 p.f1 a.f0 a.f1 a.f2) (pcB p a) := by
  have hE : pcB p a = (((pvB p && adB a) && (p.f0.f0 == a.f0)) && eqPfx (ofV a p.f1) p) := by
    unfold pcB
    cases hv : pvB p with
    | false => rfl
    | true =>
      obtain ⟨_, h0, h1⟩ := pv_in hv
      by_cases he : p.f0.f0 = a.f0
      · rw [he] at h1
        simp [inB, he, h0, h1]
      · have : (p.f0.f0 == a.f0) = false := by simpa using he
        rw [this]
        simp
  rw [hE]
  cases hi : ((pvB p && adB a) && (p.f0.f0 == a.f0)) with
  | false =>
    rw [hi] at hb
    subst hb
    refine Ev_shift 1 (f := fun _ => some false) (fun k => ?_) (Ev_const rfl)
    rw [ddiref03_Contains.j0]
    rfl
  | true =>
    rw [hi] at hb
    subst hb
    refine Ev_shift 1 (fun k => by rw [ddiref03_Contains.j0, if_neg (by decide)]) ?_
    refine Ev.bind (rof_pfx a ok p.f1) ?_
    exact Ev_const rfl
theorem rcontains_pfx (p : S45) (a : S24) (ok : uA a) : Ev (fun k => ddiref03_Contains.f k p.f0.f0 p.f0.f1 p.f0.f2 p.f1 a.f0 a.f1 a.f2) (pcB p a) := by
  unfold ddiref03_Contains.f
  refine Ev.bind (rvalid_pfx p) ?_
  cases hv : pvB p with
  | true =>
    simp only [if_true, rad_v, Option.bind_some]
    cases ha : adB a with
    | true =>
      simp only [if_true]
      exact rcon_j p a ok _ (by rw [hv, ha]; rfl)
    | false =>
      simp only [Bool.false_eq_true, if_false]
      exact rcon_j p a ok _ (by rw [hv, ha]; rfl)
  | false =>
    simp only [Bool.false_eq_true, if_false]
    exact rcon_j p a ok _ (by rw [hv]; rfl)
def pwB (p q : S45) : Bool := pvB p && (decide (q.f1 ≤ p.f1) && pcB q p.f0)
theorem pcB_v {q : S45} {a : S24} (h : pvB q = false) : pcB q a = false := by rw [pcB, h]; rfl
theorem within_pfx (p q : S45) : Ev (fun k => prefix_Within.f k p.f0.f0 p.f0.f1 p.f0.f2 p.f1 q.f0.f0 q.f0.f1 q.f0.f2 q.f1) (pwB p q) := by
  unfold prefix_Within.f pwB
  refine Ev.bind (valid_pfx p) ?_
  cases hv : pvB p with
  | false =>
    simp only [Bool.false_eq_true, if_false]
    exact Ev_const rfl
  | true =>
    simp only [if_true, Bool.true_and]
    refine Ev.bind (valid_pfx q) ?_
    cases hq : pvB q with
    | false =>
      simp only [Bool.false_eq_true, if_false]
      rw [pcB_v hq, Bool.and_false]
      exact Ev_const rfl
    | true =>
      simp only [if_true]
      by_cases h : p.f1 ≥ q.f1
      · simp only [if_pos h, decide_eq_true (show q.f1 ≤ p.f1 from h), Bool.true_and]
        exact Ev.bind (contains_pfx q p.f0) (Ev_const rfl)
      · simp only [if_neg h, decide_eq_false (show ¬ q.f1 ≤ p.f1 from h), Bool.false_and]
        exact Ev_const rfl
theorem rwithin_pfx (p q : S45) (ok : uA p.f0) : Ev (fun k => ddiref03_Within.f k p.f0.f0 p.f0.f1 p.f0.f2 p.f1 q.f0.f0 q.f0.f1 q.f0.f2 q.f1) (pwB p q) := by
  unfold ddiref03_Within.f pwB
  refine Ev.bind (rvalid_pfx p) ?_
  cases hv : pvB p with
  | false =>
    simp only [Bool.false_eq_true, if_false]
    exact Ev_const rfl
  | true =>
    simp only [if_true, Bool.true_and]
    by_cases h : p.f1 ≥ q.f1
    · simp only [if_pos h, decide_eq_true (show q.f1 ≤ p.f1 from h), Bool.true_and]
      exact Ev.bind (rcontains_pfx q p.f0 ok) (Ev_const rfl)
    · simp only [if_neg h, decide_eq_false (show ¬ q.f1 ≤ p.f1 from h), Bool.false_and]
      exact Ev_const rfl
def poB (p q : S45) : Bool := pwB p q || pwB q p
theorem overlap_pfx (p q : S45) : Ev (fun k => prefix_Overlap.f k p.f0.f0 p.f0.f1 p.f0.f2 p.f1 q.f0.f0 q.f0.f1 q.f0.f2 q.f1) (poB p q) := by
  unfold prefix_Overlap.f poB
  refine Ev.bind (within_pfx p q) ?_
  cases pwB p q with
  | true => exact Ev_const rfl
  | false =>
    simp only [Bool.false_eq_true, if_false]
    exact Ev.bind (within_pfx q p) (Ev_const rfl)
theorem roverlap_pfx (p q : S45) (okp : uA p.f0) (okq : uA q.f0) : Ev (fun k => ddiref03_Overlap.f k p.f0.f0 p.f0.f1 p.f0.f2 p.f1 q.f0.f0 q.f0.f1 q.f0.f2 q.f1) (poB p q) := by
  unfold ddiref03_Overlap.f poB
  refine Ev.bind (rwithin_pfx p q okp) ?_
  cases pwB p q with
  | true => exact Ev_const rfl
  | false =>
    simp only [Bool.false_eq_true, if_false]
    exact Ev.bind (rwithin_pfx q p okq) (Ev_const rfl)
/-! ### Bounds -/
def lastA (p : S45) : S24 := ⟨p.f0.f0, Go.bits .or .u64 p.f0.f1 (mkH p.f0 p.f1), Go.bits .or .u64 p.f0.f2 (mkL p.f0 p.f1)⟩
def zAdr : S24 := ⟨false, 0, 0⟩
def tRng (x y : S24) (b : Bool) : Bool × Int × Int × Bool × Int × Int × Bool := (x.f0, x.f1, x.f2, y.f0, y.f1, y.f2, b)
def bdV (p : S45) : Bool × Int × Int × Bool × Int × Int × Bool := if pvB p = true then tRng p.f0 (lastA p) true else tRng zAdr zAdr false
theorem bounds_pfx (p : S45) : Ev (fun k => prefix_Bounds.f k p.f0.f0 p.f0.f1 p.f0.f2 p.f1) (bdV p) := by
  unfold prefix_Bounds.f bdV
  refine Ev.bind (valid_pfx p) ?_
  cases hv : pvB p with
  | false =>
    simp only [Bool.false_eq_true, if_false]
    exact Ev_const rfl
  | true =>
    simp only [if_true]
    obtain ⟨_, h0, h1⟩ := pv_in hv
    rw [later_v p.f0.f0 p.f1 h0 h1]
    exact Ev_const rfl
theorem rbounds_pfx (p : S45) (ok : uA p.f0) : Ev (fun k => ddiref03_Bounds.f k p.f0.f0 p.f0.f1 p.f0.f2 p.f1) (bdV p) := by
  unfold ddiref03_Bounds.f bdV
  refine Ev.bind (rvalid_pfx p) ?_
  cases hv : pvB p with
  | false =>
    simp only [Bool.false_eq_true, if_false]
    exact Ev_const rfl
  | true =>
    simp only [if_true, long_v, Option.bind_some]
    obtain ⟨_, h0, h1⟩ := pv_in hv
    refine Ev.bind (ones_ev p.f0.f0 p.f1 h0 h1) (Ev_const ?_)
    have m1 : 0 ≤ mkH p.f0 p.f1 ∧ mkH p.f0 p.f1 < 18446744073709551616 := (msk_lt p.f0.f0 p.f1 h0 h1).1
    have m2 : 0 ≤ mkL p.f0 p.f1 ∧ mkL p.f0 p.f1 < 18446744073709551616 := (msk_lt p.f0.f0 p.f1 h0 h1).2
    have hz := hv
    rw [pvB, Bool.and_eq_true, Bool.and_eq_true] at hz
    have z1 := of_decide_eq_true hz.2.1
    have z2 := eq_of_beq hz.2.2
    show some (p.f0.f0, p.f0.f1, p.f0.f2, p.f0.f0, IntKind.u64.wrap (p.f0.f1 + mkH p.f0 p.f1), IntKind.u64.wrap (p.f0.f2 + mkL p.f0 p.f1), true) = _
    rw [or_add _ _ ok.1.1 ok.1.2 m1.1 m1.2 z1, or_add _ _ ok.2.1 ok.2.2 m2.1 m2.2 z2]
    rfl
end Go.Proofs.YtngfffoeaghhhaaDoor.Cm
namespace Go.Proofs.YtngfffoeaghhhaaDoor.Cm
open Go.RowKit Go.Proofs.YtngfffoeaghhhaaDoorW.PrintWords Go.Proofs.YtngfffoeaghhhaaDoorW.PrintLast Go.Proofs.YtngfffoeaghhhaaDoorW.PrintMore Go.Proofs.YtngfffoeaghhhaaDoor.XP Go.Proofs.YtngfffoeaghhhaaDoor.QA
set_option linter.unusedVariables false
set_option linter.unusedSimpArgs false
theorem rdRng (l : List S75) (i : Nat) (x : S75) (r : List S75) (h : l.drop i = x :: r) : i < l.length ∧ rd_T75 l (i : Int) = x ∧ l.drop (i + 1) = r := by
  obtain ⟨hi, hx, hr⟩ := drop_at h
  exact ⟨hi, by simp [rd_T75, List.getD_eq_getElem?_getD, List.getElem?_eq_getElem hi, hx], hr⟩
theorem rdRes (l : List S81) (i : Nat) (x : S81) (r : List S81) (h : l.drop i = x :: r) : i < l.length ∧ rd_T81 l (i : Int) = x ∧ l.drop (i + 1) = r := by
  obtain ⟨hi, hx, hr⟩ := drop_at h
  exact ⟨hi, by simp [rd_T81, List.getD_eq_getElem?_getD, List.getElem?_eq_getElem hi, hx], hr⟩
def idxP {α : Type} (p : α → Bool) : List α → Nat → Int
  | [], _ => -1
  | x :: r, i => if p x = true then (i : Int) else idxP p r (i + 1)
theorem idxP_any {α : Type} (p : α → Bool) : ∀ (l : List α) (i : Nat), decide (idxP p l i ≥ 0) = l.any p
  | [], _ => rfl
  | x :: r, i => by
    unfold idxP
    rw [List.any_cons]
    cases hp : p x with
    | true =>
      rw [if_pos rfl, Bool.true_or]
      exact decide_eq_true (by omega)
    | false =>
      rw [if_neg Bool.false_ne_true, Bool.false_or]
      exact idxP_any p r (i + 1)
/-! ### what can be leased -/
def neA (a x : S24) : Bool := !(a.f0 == x.f0) || (!(a.f1 == x.f1) || (!(a.f2 == x.f2)))
def leB (p : S45) (a : S24) : Bool := pcB p a && (neA a p.f0 && neA a (lastA p))
theorem leased_v (p : S45) (a : S24) : Ev (fun k => pool_leased.f k p.f0.f0 p.f0.f1 p.f0.f2 p.f1 a.f0 a.f1 a.f2) (leB p a) := by
  unfold pool_leased.f leB
  refine Ev.bind (bounds_pfx p) ?_
  refine Ev.bind (contains_pfx p a) ?_
  cases hc : pcB p a with
  | false =>
    simp only [Bool.false_eq_true, if_false]
    exact Ev_const rfl
  | true =>
    have hv : pvB p = true := by
      cases h : pvB p with
      | true => rfl
      | false => rw [pcB_v h] at hc; cases hc
    unfold bdV
    rw [if_pos hv]
    simp only [if_true, Bool.true_and]
    show Ev (fun n => if neA a p.f0 = true then some (neA a (lastA p)) else some false) _
    cases neA a p.f0 <;> exact Ev_const rfl
theorem usable_v (p : S45) (okp : uA p.f0) (a : S24) (ok : uA a) : Ev (fun k => ddiref37_usable.f k p.f0.f0 p.f0.f1 p.f0.f2 p.f1 a.f0 a.f1 a.f2) (leB p a) := by
  unfold ddiref37_usable.f leB
  refine Ev.bind (rbounds_pfx p okp) ?_
  unfold bdV
  cases hv : pvB p with
  | false =>
    rw [pcB_v hv]
    simp only [Bool.false_eq_true, if_false]
    exact Ev_const rfl
  | true =>
    simp only [if_true]
    show Ev (fun n => if true = true then _ else _) _
    simp only [if_true]
    refine Ev.bind (rcontains_pfx p a ok) ?_
    cases hc : pcB p a with
    | false =>
      simp only [Bool.false_eq_true, if_false]
      exact Ev_const rfl
    | true =>
      simp only [if_true, Bool.true_and]
      show Ev (fun n => if neA a p.f0 = true then some (neA a (lastA p)) else some false) _
      cases neA a p.f0 <;> exact Ev_const rfl
/-! ### pools -/
def inR (r : S75) (a : S24) : Bool := decide (cmp r.f0 a ≤ 0) && decide (cmp a r.f1 ≤ 0)
theorem in_v (r : S75) (a : S24) : Ev (fun k => pool_in.f k r.f0.f0 r.f0.f1 r.f0.f2 r.f1.f0 r.f1.f1 r.f1.f2 a.f0 a.f1 a.f2) (inR r a) := by
  unfold pool_in.f inR
  refine Ev.bind (ucmp r.f0 a) ?_
  by_cases h : cmp r.f0 a ≤ 0
  · simp only [if_pos h, decide_eq_true h, Bool.true_and]
    exact Ev.bind (ucmp a r.f1) (Ev_const rfl)
  · simp only [if_neg h, decide_eq_false h, Bool.false_and]
    exact Ev_const rfl
theorem inside_v (r : S75) (a : S24) : ddiref37_inside.f r.f0.f0 r.f0.f1 r.f0.f2 r.f1.f0 r.f1.f1 r.f1.f2 a.f0 a.f1 a.f2 = some (inR r a) := by
  unfold ddiref37_inside.f inR
  rw [rcmp, Option.bind_some]
  by_cases h : cmp r.f0 a ≤ 0
  · rw [if_pos h, decide_eq_true h, rcmp, Option.bind_some, Bool.true_and]
  · rw [if_neg h, decide_eq_false h, Bool.false_and]
def ovR (x r : S75) : Bool := inR x r.f0 || inR r x.f0
theorem ov_v (x r : S75) : Ev (fun k => pool_pools_1.f k x.f0.f0 x.f0.f1 x.f0.f2 x.f1.f0 x.f1.f1 x.f1.f2 r.f0.f0 r.f0.f1 r.f0.f2 r.f1.f0 r.f1.f1 r.f1.f2) (ovR x r) := by
  unfold pool_pools_1.f ovR
  refine Ev.bind (in_v x r.f0) ?_
  cases inR x r.f0 with
  | true => exact Ev_const rfl
  | false => exact Ev.bind (in_v r x.f0) (Ev_const rfl)
theorem ixP_from (l : List S75) (hl : l.length ≤ 140737488351232) (y : S75) : ∀ (r : List S75) (i : Nat), l.drop i = r → Ev (fun k => slices_IndexFunc_60.l0 k l (l.length : Int) (i : Int) y.f0.f0 y.f0.f1 y.f0.f2 y.f1.f0 y.f1.f1 y.f1.f2) (idxP (fun x => ovR x y) r i)
  | [], i, h => by
    have := drop_end h
    exact Ev_shift 1 (f := fun _ => some (-1)) (fun k => by rw [slices_IndexFunc_60.l0, if_neg (by omega)]) (Ev_const rfl)
  | x :: r, i, h => by
    obtain ⟨hi, hx, hr⟩ := rdRng l i x r h
    have ih := ixP_from l hl y r (i + 1) hr
    refine Ev_shift 1 (fun k => by rw [slices_IndexFunc_60.l0, if_pos (by omega), if_pos (by omega), if_pos (by omega), hx, next i l.length hi (by omega)]) ?_
    refine Ev.bind (ov_v x y) ?_
    unfold idxP
    split
    · exact Ev_const rfl
    · exact ih
theorem cfP_v (l : List S75) (hl : l.length ≤ 140737488351232) (y : S75) : Ev (fun k => slices_ContainsFunc_60.f k l y.f0.f0 y.f0.f1 y.f0.f2 y.f1.f0 y.f1.f1 y.f1.f2) (l.any (fun x => ovR x y)) := by
  unfold slices_ContainsFunc_60.f slices_IndexFunc_60.f
  rw [← idxP_any (fun x => ovR x y) l 0]
  exact Ev.bind (ixP_from l hl y l 0 rfl) (Ev_const rfl)
def goodR (p : S45) (y : S75) : Bool := leB p y.f0 && (leB p y.f1 && decide (cmp y.f0 y.f1 ≤ 0))
def poV (p : S45) : List S75 → List S75 → Int
  | _, [] => 0
  | pre, y :: r => if goodR p y = true then (if pre.any (fun x => ovR x y) = true then 24 else poV p (pre ++ [y]) r) else 3
theorem pools_from (s : S49) (hl : s.f2.length ≤ 140737488351232) : ∀ (r : List S75) (i : Nat), s.f2.drop i = r → Ev (fun k => pool_pools.l0 k s.f2 (s.f2.length : Int) (i : Int) s.f0.f0.f0 s.f0.f0.f1 s.f0.f0.f2 s.f0.f1 s.f1 s.f2 s.f3 s.f4 s.f5) (poV s.f0 (s.f2.take i) r)
  | [], i, h => by
    have := drop_end h
    exact Ev_shift 1 (f := fun _ => some 0) (fun k => by rw [pool_pools.l0, if_neg (by omega)]) (Ev_const rfl)
  | y :: r, i, h => by
    obtain ⟨hi, hy, hr⟩ := rdRng s.f2 i y r h
    have ih := pools_from s hl r (i + 1) hr
    rw [take_snoc h] at ih
    have hj : ∀ b : Bool, b = !goodR s.f0 y → Ev (fun k => pool_pools.j1 k (i : Int) s.f2 (s.f2.length : Int) (i : Int) b s.f0.f0.f0 s.f0.f0.f1 s.f0.f0.f2 s.f0.f1 s.f1 s.f2 s.f3 s.f4 s.f5 y.f0.f0 y.f0.f1 y.f0.f2 y.f1.f0 y.f1.f1 y.f1.f2) (poV s.f0 (s.f2.take i) (y :: r)) := by
      intro b hb
      rw [poV]
      cases hg : goodR s.f0 y with
      | false =>
        rw [hg] at hb
        subst hb
        exact Ev_shift 1 (f := fun _ => some 3) (fun k => by rw [pool_pools.j1, if_pos (by decide)]) (Ev_const rfl)
      | true =>
        rw [hg] at hb
        subst hb
        refine Ev_shift 1 (fun k => by rw [pool_pools.j1, if_neg (by decide), if_pos (by omega), if_pos (by omega), Int.toNat_natCast, next i s.f2.length hi (by omega)]) ?_
        refine Ev.bind (cfP_v (s.f2.take i) (by rw [List.length_take]; omega) y) ?_
        simp only [if_true]
        cases (s.f2.take i).any (fun x => ovR x y) with
        | true => exact Ev_const rfl
        | false => exact ih
    refine Ev_shift 1 (fun k => by rw [pool_pools.l0, if_pos (by omega), if_pos (by omega), if_pos (by omega), hy]) ?_
    refine Ev.bind (leased_v s.f0 y.f0) ?_
    cases h1 : leB s.f0 y.f0 with
    | false =>
      simp only [Bool.false_eq_true, if_false]
      exact hj true (by simp [goodR, h1])
    | true =>
      simp only [if_true]
      refine Ev.bind (leased_v s.f0 y.f1) ?_
      cases h2 : leB s.f0 y.f1 with
      | false =>
        simp only [Bool.false_eq_true, if_false]
        exact hj true (by simp [goodR, h2])
      | true =>
        simp only [if_true]
        refine Ev.bind (ucmp y.f0 y.f1) ?_
        refine hj _ ?_
        unfold goodR
        rw [h1, h2]
        by_cases hc : cmp y.f0 y.f1 ≤ 0
        · rw [decide_eq_true hc, decide_eq_false (show ¬ cmp y.f0 y.f1 > 0 by omega)]; rfl
        · rw [decide_eq_false hc, decide_eq_true (show cmp y.f0 y.f1 > 0 by omega)]; rfl
theorem pools_v (s : S49) (hl : s.f2.length ≤ 140737488351232) : Ev (fun k => pool_pools.f k s.f0.f0.f0 s.f0.f0.f1 s.f0.f0.f2 s.f0.f1 s.f1 s.f2 s.f3 s.f4 s.f5) (poV s.f0 [] s.f2) := by
  unfold pool_pools.f
  exact pools_from s hl s.f2 0 rfl
def uR (y : S75) : Prop := uA y.f0 ∧ uA y.f1
theorem rpools_in (s : S49) (hl : s.f2.length ≤ 140737488351232) (y : S75) (i : Nat) (hi : i ≤ s.f2.length) (R : Int) (hR : Ev (fun k => ddiref37_checkPools.l0 k (wrap64 ((i : Int) + 1)) s.f0.f0.f0 s.f0.f0.f1 s.f0.f0.f2 s.f0.f1 s.f1 s.f2 s.f3 s.f4 s.f5) R) : ∀ (d j : Nat), j + d = i → Ev (fun k => ddiref37_checkPools.l1 k (i : Int) (j : Int) s.f0.f0.f0 s.f0.f0.f1 s.f0.f0.f2 s.f0.f1 s.f1 s.f2 s.f3 s.f4 s.f5 y.f0.f0 y.f0.f1 y.f0.f2 y.f1.f0 y.f1.f1 y.f1.f2) (if ((s.f2.take i).drop j).any (fun x => ovR x y) = true then 24 else R)
  | 0, j, h => by
    have : j = i := by omega
    subst this
    rw [List.drop_eq_nil_of_le (by rw [List.length_take]; omega)]
    refine Ev_shift 1 (fun k => by rw [ddiref37_checkPools.l1, if_neg (by omega)]) ?_
    exact hR
  | d + 1, j, h => by
    have ih := rpools_in s hl y i hi R hR d (j + 1) (by omega)
    have hj : j < s.f2.length := by omega
    obtain ⟨_, hx, _⟩ := rdRng s.f2 j s.f2[j] _ (List.drop_eq_getElem_cons hj)
    have hjt : j < (s.f2.take i).length := by rw [List.length_take]; omega
    rw [List.drop_eq_getElem_cons hjt, List.any_cons, List.getElem_take]
    generalize s.f2[j] = x at hx
    have hjj : ∀ b : Bool, b = ovR x y → Ev (fun k => ddiref37_checkPools.j3 k (i : Int) (j : Int) b s.f0.f0.f0 s.f0.f0.f1 s.f0.f0.f2 s.f0.f1 s.f1 s.f2 s.f3 s.f4 s.f5 y.f0.f0 y.f0.f1 y.f0.f2 y.f1.f0 y.f1.f1 y.f1.f2) (if (ovR x y || ((s.f2.take i).drop (j + 1)).any (fun x => ovR x y)) = true then 24 else R) := by
      intro b hb
      subst hb
      cases hov : ovR x y with
      | true => exact Ev_shift 1 (f := fun _ => some 24) (fun k => by rw [ddiref37_checkPools.j3, if_pos (by decide)]) (Ev_const rfl)
      | false =>
        rw [Bool.false_or]
        refine Ev_shift 1 (fun k => ?_) ih
        rw [ddiref37_checkPools.j3, if_neg (by decide), next j s.f2.length hj (by omega)]
    refine Ev_shift 1 (fun k => by rw [ddiref37_checkPools.l1, if_pos (by omega), if_pos (by omega), if_pos (by omega), hx, inside_v, Option.bind_some]) ?_
    cases h1 : inR y x.f0 with
    | true =>
      simp only [if_true]
      exact hjj true (by simp [ovR, h1])
    | false =>
      simp only [Bool.false_eq_true, if_false, inside_v, Option.bind_some]
      exact hjj _ (by simp [ovR, h1])
theorem rpools_from (s : S49) (okp : uA s.f0.f0) (hl : s.f2.length ≤ 140737488351232) (ok : ∀ y ∈ s.f2, uR y) : ∀ (r : List S75) (i : Nat), s.f2.drop i = r → Ev (fun k => ddiref37_checkPools.l0 k (i : Int) s.f0.f0.f0 s.f0.f0.f1 s.f0.f0.f2 s.f0.f1 s.f1 s.f2 s.f3 s.f4 s.f5) (poV s.f0 (s.f2.take i) r)
  | [], i, h => by
    have := drop_end h
    exact Ev_shift 1 (f := fun _ => some 0) (fun k => by rw [ddiref37_checkPools.l0, if_neg (by omega)]) (Ev_const rfl)
  | y :: r, i, h => by
    obtain ⟨hi, hy, hr⟩ := rdRng s.f2 i y r h
    have ih := rpools_from s okp hl ok r (i + 1) hr
    rw [take_snoc h] at ih
    have hym : y ∈ s.f2 := by
      obtain ⟨h1, h2, _⟩ := drop_at h
      exact h2 ▸ List.getElem_mem h1
    obtain ⟨o1, o2⟩ := ok y hym
    have hj : ∀ b : Bool, b = !goodR s.f0 y → Ev (fun k => ddiref37_checkPools.j1 k (i : Int) b s.f0.f0.f0 s.f0.f0.f1 s.f0.f0.f2 s.f0.f1 s.f1 s.f2 s.f3 s.f4 s.f5 y.f0.f0 y.f0.f1 y.f0.f2 y.f1.f0 y.f1.f1 y.f1.f2) (poV s.f0 (s.f2.take i) (y :: r)) := by
      intro b hb
      rw [poV]
      cases hg : goodR s.f0 y with
      | false =>
        rw [hg] at hb
        subst hb
        exact Ev_shift 1 (f := fun _ => some 3) (fun k => by rw [ddiref37_checkPools.j1, if_pos (by decide)]) (Ev_const rfl)
      | true =>
        rw [hg] at hb
        subst hb
        refine Ev_shift 1 (fun k => by rw [ddiref37_checkPools.j1, if_neg (by decide)]) ?_
        have h2 := rpools_in s hl y i (by omega) _ (by rw [next i s.f2.length hi (by omega)]; exact ih) i 0 (by omega)
        rw [List.drop_zero] at h2
        exact h2
    refine Ev_shift 1 (fun k => by rw [ddiref37_checkPools.l0, if_pos (by omega), if_pos (by omega), hy]) ?_
    refine Ev.bind (usable_v s.f0 okp y.f0 o1) ?_
    cases h1 : leB s.f0 y.f0 with
    | false =>
      simp only [Bool.false_eq_true, if_false]
      exact hj true (by simp [goodR, h1])
    | true =>
      simp only [if_true]
      refine Ev.bind (usable_v s.f0 okp y.f1 o2) ?_
      cases h2 : leB s.f0 y.f1 with
      | false =>
        simp only [Bool.false_eq_true, if_false]
        exact hj true (by simp [goodR, h2])
      | true =>
        simp only [if_true, rcmp, Option.bind_some]
        refine hj _ ?_
        unfold goodR
        rw [h1, h2, cmp_flip y.f0 y.f1]
        by_cases hc : cmp y.f0 y.f1 ≤ 0
        · rw [decide_eq_true hc, decide_eq_false (show ¬ -cmp y.f0 y.f1 < 0 by omega)]; rfl
        · rw [decide_eq_false hc, decide_eq_true (show -cmp y.f0 y.f1 < 0 by omega)]; rfl
theorem rpools_v (s : S49) (okp : uA s.f0.f0) (hl : s.f2.length ≤ 140737488351232) (ok : ∀ y ∈ s.f2, uR y) : Ev (fun k => ddiref37_checkPools.f k s.f0.f0.f0 s.f0.f0.f1 s.f0.f0.f2 s.f0.f1 s.f1 s.f2 s.f3 s.f4 s.f5) (poV s.f0 [] s.f2) := by
  unfold ddiref37_checkPools.f
  exact rpools_from s okp hl ok s.f2 0 rfl
/-! ### clients -/
def visB (c : UInt8) : Bool := decide (33 ≤ c.toNat) && decide (c.toNat ≤ 126)
def clB (s : ByteArray) : Bool := (decide (1 ≤ s.size) && decide (s.size ≤ 32)) && s.data.toList.all visB
theorem cl1_v (c : UInt8) : pool_client_1.f (c.toNat : Int) = some (!visB c) := by
  unfold pool_client_1.f visB
  by_cases h : (c.toNat : Int) < 33
  · rw [if_pos h, decide_eq_false (show ¬ 33 ≤ c.toNat by omega)]; rfl
  · rw [if_neg h, decide_eq_true (show 33 ≤ c.toNat by omega)]
    by_cases h2 : c.toNat ≤ 126
    · rw [decide_eq_true h2, decide_eq_false (by omega)]; rfl
    · rw [decide_eq_false h2, decide_eq_true (by omega)]; rfl
theorem ixC_from (l : List UInt8) (hl : l.length ≤ 140737488351232) : ∀ (r : List UInt8) (i : Nat), l.drop i = r → Ev (fun k => slices_IndexFunc_77.l0 k (l.map fun c => (c.toNat : Int)) (((l.map fun c => (c.toNat : Int)).length : Nat) : Int) (i : Int)) (idxP (fun c => !visB c) r i)
  | [], i, h => by
    have := drop_end h
    exact Ev_shift 1 (f := fun _ => some (-1)) (fun k => by rw [slices_IndexFunc_77.l0, if_neg (by rw [List.length_map]; omega)]) (Ev_const rfl)
  | x :: r, i, h => by
    obtain ⟨hi, hx, hr⟩ := drop_at h
    have ih := ixC_from l hl r (i + 1) hr
    have hrd : rd (l.map fun c => (c.toNat : Int)) (i : Int) = (x.toNat : Int) := by
      simp [rd, List.getD_eq_getElem?_getD, List.getElem?_eq_getElem hi, hx]
    refine Ev_shift 1 (fun k => by rw [slices_IndexFunc_77.l0, if_pos (by rw [List.length_map]; omega), if_pos (by omega), if_pos (by rw [List.length_map]; omega), hrd, cl1_v, Option.bind_some, next i l.length hi (by omega)]) ?_
    unfold idxP
    split
    · exact Ev_const rfl
    · exact ih
theorem client_v (s : ByteArray) : Ev (fun k => pool_client.f k s) (clB s) := by
  unfold pool_client.f clB
  by_cases h1 : (s.size : Int) ≥ 1
  · by_cases h2 : (s.size : Int) ≤ 32
    · simp only [if_pos h1, if_pos h2, decide_eq_true (show 1 ≤ s.size by omega), decide_eq_true (show s.size ≤ 32 by omega), Bool.true_and]
      have hc : conv_bytes_54.f s = some (bytesOf s) := by
        unfold conv_bytes_54.f XC.conv
        rw [if_pos (by omega)]
      simp only [hc, Option.bind_some]
      have hb : bytesOf s = s.data.toList.map fun c => (c.toNat : Int) := rfl
      rw [hb]
      have hsz := size_data s
      refine Ev.bind (a := !s.data.toList.all visB) ?_ (Ev_const (by rw [Bool.not_not]))
      unfold slices_ContainsFunc_77.f slices_IndexFunc_77.f
      have e : (!s.data.toList.all visB) = s.data.toList.any (fun c => !visB c) := List.not_all_eq_any_not
      rw [e, ← idxP_any (fun c => !visB c) s.data.toList 0]
      exact Ev.bind (ixC_from s.data.toList (by omega) s.data.toList 0 rfl) (Ev_const rfl)
    · simp only [if_pos h1, if_neg h2, decide_eq_false (show ¬ s.size ≤ 32 by omega), Bool.and_false, Bool.false_and]
      exact Ev_const rfl
  · simp only [if_neg h1, decide_eq_false (show ¬ 1 ≤ s.size by omega), Bool.false_and]
    exact Ev_const rfl
theorem rclient_from (s : ByteArray) (hs : s.size ≤ 140737488351232) : ∀ (r : List UInt8) (i : Nat), s.data.toList.drop i = r → Ev (fun k => ddiref37_client.l0 k s (i : Int)) (r.all visB)
  | [], i, h => by
    have := size_end s i h
    exact Ev_shift 1 (f := fun _ => some true) (fun k => by rw [ddiref37_client.l0, if_neg (by omega)]) (Ev_const rfl)
  | c :: r, i, h => by
    obtain ⟨hi, hb, hr⟩ := bt_at_drop s i c r h
    have ih := rclient_from s hs r (i + 1) hr
    have hj : ∀ b : Bool, b = !visB c → Ev (fun k => ddiref37_client.j2 k s (i : Int) b) (List.all (c :: r) visB) := by
      intro b hbc
      rw [List.all_cons]
      cases hv : visB c with
      | false =>
        rw [hv] at hbc
        subst hbc
        exact Ev_shift 1 (f := fun _ => some false) (fun k => by rw [ddiref37_client.j2, if_pos (by decide)]) (Ev_const rfl)
      | true =>
        rw [hv] at hbc
        subst hbc
        rw [Bool.true_and]
        refine Ev_shift 1 (fun k => ?_) ih
        rw [ddiref37_client.j2, if_neg (by decide), next i s.size hi (by omega)]
    refine Ev_shift 1 (fun k => by rw [ddiref37_client.l0, if_pos (by omega), if_pos (by omega), hb]) ?_
    by_cases h1 : (c.toNat : Int) < 33
    · simp only [if_pos h1]
      refine hj true ?_
      unfold visB
      rw [decide_eq_false (show ¬ 33 ≤ c.toNat by omega)]
      rfl
    · simp only [if_neg h1]
      refine hj _ ?_
      unfold visB
      rw [decide_eq_true (show 33 ≤ c.toNat by omega)]
      by_cases h2 : c.toNat ≤ 126
      · rw [decide_eq_true h2, decide_eq_false (by omega)]; rfl
      · rw [decide_eq_false h2, decide_eq_true (by omega)]; rfl
theorem rclient_v (s : ByteArray) (hs : s.size ≤ 140737488351232) : Ev (fun k => ddiref37_client.f k s) (clB s) := by
  have hj : ∀ b : Bool, b = !(decide (1 ≤ s.size) && decide (s.size ≤ 32)) → Ev (fun k => ddiref37_client.j0 k s b) (clB s) := by
    intro b hb
    unfold clB
    cases hc : (decide (1 ≤ s.size) && decide (s.size ≤ 32)) with
    | false =>
      rw [hc] at hb
      subst hb
      exact Ev_shift 1 (f := fun _ => some false) (fun k => by rw [ddiref37_client.j0, if_pos (by decide)]) (Ev_const rfl)
    | true =>
      rw [hc] at hb
      subst hb
      rw [Bool.true_and]
      refine Ev_shift 1 (fun k => by rw [ddiref37_client.j0, if_neg (by decide)]) ?_
      exact rclient_from s hs s.data.toList 0 rfl
  unfold ddiref37_client.f
  by_cases h1 : (s.size : Int) < 1
  · simp only [if_pos h1]
    exact hj true (by rw [decide_eq_false (show ¬ 1 ≤ s.size by omega)]; rfl)
  · simp only [if_neg h1]
    refine hj _ ?_
    rw [decide_eq_true (show 1 ≤ s.size by omega)]
    by_cases h2 : s.size ≤ 32
    · rw [decide_eq_true h2, decide_eq_false (by omega)]; rfl
    · rw [decide_eq_false h2, decide_eq_true (by omega)]; rfl
/-! ### reservations -/
def saR (x y : S81) : Bool := decide (x.f0.toList = y.f0.toList) || (x.f1.f0 == y.f1.f0 && (x.f1.f1 == y.f1.f1 && (x.f1.f2 == y.f1.f2)))
theorem sa_v (x y : S81) : pool_reserved_1.f x.f0 x.f1.f0 x.f1.f1 x.f1.f2 x.f2 y.f0 y.f1.f0 y.f1.f1 y.f1.f2 y.f2 = some (saR x y) := by
  unfold pool_reserved_1.f saR
  by_cases h : x.f0.toList = y.f0.toList
  · rw [if_pos h, decide_eq_true h]; rfl
  · rw [if_neg h, decide_eq_false h]; rfl
theorem ixR_from (l : List S81) (hl : l.length ≤ 140737488351232) (y : S81) : ∀ (r : List S81) (i : Nat), l.drop i = r → Ev (fun k => slices_IndexFunc_64.l0 k l (l.length : Int) (i : Int) y.f0 y.f1.f0 y.f1.f1 y.f1.f2 y.f2) (idxP (fun x => saR x y) r i)
  | [], i, h => by
    have := drop_end h
    exact Ev_shift 1 (f := fun _ => some (-1)) (fun k => by rw [slices_IndexFunc_64.l0, if_neg (by omega)]) (Ev_const rfl)
  | x :: r, i, h => by
    obtain ⟨hi, hx, hr⟩ := rdRes l i x r h
    have ih := ixR_from l hl y r (i + 1) hr
    refine Ev_shift 1 (fun k => by rw [slices_IndexFunc_64.l0, if_pos (by omega), if_pos (by omega), if_pos (by omega), hx, sa_v, Option.bind_some, next i l.length hi (by omega)]) ?_
    unfold idxP
    split
    · exact Ev_const rfl
    · exact ih
theorem cfR_v (l : List S81) (hl : l.length ≤ 140737488351232) (y : S81) : Ev (fun k => slices_ContainsFunc_64.f k l y.f0 y.f1.f0 y.f1.f1 y.f1.f2 y.f2) (l.any (fun x => saR x y)) := by
  unfold slices_ContainsFunc_64.f slices_IndexFunc_64.f
  rw [← idxP_any (fun x => saR x y) l 0]
  exact Ev.bind (ixR_from l hl y l 0 rfl) (Ev_const rfl)
def hoB (s : ByteArray) : Bool := decide (s.toList = ([] : List UInt8)) || nameB s.data.toList
def reV (p : S45) : List S81 → List S81 → Int
  | _, [] => 0
  | pre, y :: r => if clB y.f0 = true then (if leB p y.f1 = true then (if pre.any (fun x => saR x y) = true then 12 else (if hoB y.f2 = true then reV p (pre ++ [y]) r else 2)) else 3) else 9
theorem res_from (s : S49) (hl : s.f3.length ≤ 140737488351232) (ok : ∀ y ∈ s.f3, y.f2.size ≤ 140737488351232) : ∀ (r : List S81) (i : Nat), s.f3.drop i = r → Ev (fun k => pool_reserved.l0 k s.f3 (s.f3.length : Int) (i : Int) s.f0.f0.f0 s.f0.f0.f1 s.f0.f0.f2 s.f0.f1 s.f1 s.f2 s.f3 s.f4 s.f5) (reV s.f0 (s.f3.take i) r)
  | [], i, h => by
    have := drop_end h
    exact Ev_shift 1 (f := fun _ => some 0) (fun k => by rw [pool_reserved.l0, if_neg (by omega)]) (Ev_const rfl)
  | y :: r, i, h => by
    obtain ⟨hi, hy, hr⟩ := rdRes s.f3 i y r h
    have ih := res_from s hl ok r (i + 1) hr
    rw [take_snoc h] at ih
    have hym : y ∈ s.f3 := by
      obtain ⟨h1, h2, _⟩ := drop_at h
      exact h2 ▸ List.getElem_mem h1
    have hj : ∀ b : Bool, b = !hoB y.f2 → Ev (fun k => pool_reserved.j1 k s.f3 (s.f3.length : Int) (i : Int) b s.f0.f0.f0 s.f0.f0.f1 s.f0.f0.f2 s.f0.f1 s.f1 s.f2 s.f3 s.f4 s.f5) (if hoB y.f2 = true then reV s.f0 (s.f3.take i ++ [y]) r else 2) := by
      intro b hb
      cases hg : hoB y.f2 with
      | false =>
        rw [hg] at hb
        subst hb
        exact Ev_shift 1 (f := fun _ => some 2) (fun k => by rw [pool_reserved.j1, if_pos (by decide)]) (Ev_const rfl)
      | true =>
        rw [hg] at hb
        subst hb
        refine Ev_shift 1 (fun k => ?_) ih
        rw [pool_reserved.j1, if_neg (by decide), next i s.f3.length hi (by omega)]
    rw [reV]
    refine Ev_shift 1 (fun k => by rw [pool_reserved.l0, if_pos (by omega), if_pos (by omega), if_pos (by omega), hy]) ?_
    refine Ev.bind (client_v y.f0) ?_
    cases h1 : clB y.f0 with
    | false => exact Ev_const rfl
    | true =>
      simp only [if_true]
      refine Ev.bind (leased_v s.f0 y.f1) ?_
      cases h2 : leB s.f0 y.f1 with
      | false => exact Ev_const rfl
      | true =>
        simp only [if_true, if_pos (show (i : Int) ≤ (s.f3.length : Int) by omega), Int.toNat_natCast]
        refine Ev.bind (cfR_v (s.f3.take i) (by rw [List.length_take]; omega) y) ?_
        cases (s.f3.take i).any (fun x => saR x y) with
        | true => exact Ev_const rfl
        | false =>
          simp only [Bool.false_eq_true, if_false]
          by_cases h3 : y.f2.toList = ([] : List UInt8)
          · simp only [if_pos h3]
            exact hj false (by simp [hoB, h3])
          · simp only [if_neg h3]
            refine Ev.bind (name_ev y.f2 (ok y hym)) ?_
            exact hj _ (by simp [hoB, h3])
theorem res_v (s : S49) (hl : s.f3.length ≤ 140737488351232) (ok : ∀ y ∈ s.f3, y.f2.size ≤ 140737488351232) : Ev (fun k => pool_reserved.f k s.f0.f0.f0 s.f0.f0.f1 s.f0.f0.f2 s.f0.f1 s.f1 s.f2 s.f3 s.f4 s.f5) (reV s.f0 [] s.f3) := by
  unfold pool_reserved.f
  exact res_from s hl ok s.f3 0 rfl
def okRes (y : S81) : Prop := y.f0.size ≤ 140737488351232 ∧ uA y.f1 ∧ y.f2.size ≤ 140737488351232
theorem rres_in (s : S49) (hl : s.f3.length ≤ 140737488351232) (y : S81) (oky : y.f2.size ≤ 140737488351232) (i : Nat) (hi : i ≤ s.f3.length) (R : Int) (hR : Ev (fun k => ddiref37_checkReserved.l0 k (wrap64 ((i : Int) + 1)) s.f0.f0.f0 s.f0.f0.f1 s.f0.f0.f2 s.f0.f1 s.f1 s.f2 s.f3 s.f4 s.f5) R) : ∀ (d j : Nat), j + d = i → Ev (fun k => ddiref37_checkReserved.l1 k (i : Int) (j : Int) s.f0.f0.f0 s.f0.f0.f1 s.f0.f0.f2 s.f0.f1 s.f1 s.f2 s.f3 s.f4 s.f5 y.f0 y.f1.f0 y.f1.f1 y.f1.f2 y.f2) (if ((s.f3.take i).drop j).any (fun x => saR x y) = true then 12 else (if hoB y.f2 = true then R else 2))
  | 0, j, h => by
    have : j = i := by omega
    subst this
    rw [List.drop_eq_nil_of_le (by rw [List.length_take]; omega)]
    have hj : ∀ b : Bool, b = !hoB y.f2 → Ev (fun k => ddiref37_checkReserved.j3 k (j : Int) b s.f0.f0.f0 s.f0.f0.f1 s.f0.f0.f2 s.f0.f1 s.f1 s.f2 s.f3 s.f4 s.f5) (if hoB y.f2 = true then R else 2) := by
      intro b hb
      cases hg : hoB y.f2 with
      | false =>
        rw [hg] at hb
        subst hb
        exact Ev_shift 1 (f := fun _ => some 2) (fun k => by rw [ddiref37_checkReserved.j3, if_pos (by decide)]) (Ev_const rfl)
      | true =>
        rw [hg] at hb
        subst hb
        refine Ev_shift 1 (fun k => ?_) hR
        rw [ddiref37_checkReserved.j3, if_neg (by decide)]
    refine Ev_shift 1 (fun k => by rw [ddiref37_checkReserved.l1, if_neg (by omega)]) ?_
    show Ev _ (if hoB y.f2 = true then R else 2)
    by_cases h3 : y.f2.toList = ([] : List UInt8)
    · simp only [if_pos h3]
      exact hj false (by simp [hoB, h3])
    · simp only [if_neg h3]
      refine Ev.bind (rname_ev y.f2 oky) ?_
      exact hj _ (by simp [hoB, h3])
  | d + 1, j, h => by
    have ih := rres_in s hl y oky i hi R hR d (j + 1) (by omega)
    have hj : j < s.f3.length := by omega
    obtain ⟨_, hx, _⟩ := rdRes s.f3 j s.f3[j] _ (List.drop_eq_getElem_cons hj)
    have hjt : j < (s.f3.take i).length := by rw [List.length_take]; omega
    rw [List.drop_eq_getElem_cons hjt, List.any_cons, List.getElem_take]
    generalize s.f3[j] = x at hx
    have hjj : ∀ b : Bool, b = saR x y → Ev (fun k => ddiref37_checkReserved.j2 k (i : Int) (j : Int) b s.f0.f0.f0 s.f0.f0.f1 s.f0.f0.f2 s.f0.f1 s.f1 s.f2 s.f3 s.f4 s.f5 y.f0 y.f1.f0 y.f1.f1 y.f1.f2 y.f2) (if (saR x y || ((s.f3.take i).drop (j + 1)).any (fun x => saR x y)) = true then 12 else (if hoB y.f2 = true then R else 2)) := by
      intro b hb
      subst hb
      cases hov : saR x y with
      | true => exact Ev_shift 1 (f := fun _ => some 12) (fun k => by rw [ddiref37_checkReserved.j2, if_pos (by decide)]) (Ev_const rfl)
      | false =>
        rw [Bool.false_or]
        refine Ev_shift 1 (fun k => ?_) ih
        rw [ddiref37_checkReserved.j2, if_neg (by decide), next j s.f3.length hj (by omega)]
    refine Ev_shift 1 (fun k => by rw [ddiref37_checkReserved.l1, if_pos (by omega), if_pos (by omega), if_pos (by omega), hx]) ?_
    by_cases h1 : x.f0.toList = y.f0.toList
    · simp only [if_pos h1]
      exact hjj true (by simp [saR, h1])
    · simp only [if_neg h1]
      exact hjj _ (by simp [saR, h1])
theorem rres_from (s : S49) (okp : uA s.f0.f0) (hl : s.f3.length ≤ 140737488351232) (ok : ∀ y ∈ s.f3, okRes y) : ∀ (r : List S81) (i : Nat), s.f3.drop i = r → Ev (fun k => ddiref37_checkReserved.l0 k (i : Int) s.f0.f0.f0 s.f0.f0.f1 s.f0.f0.f2 s.f0.f1 s.f1 s.f2 s.f3 s.f4 s.f5) (reV s.f0 (s.f3.take i) r)
  | [], i, h => by
    have := drop_end h
    exact Ev_shift 1 (f := fun _ => some 0) (fun k => by rw [ddiref37_checkReserved.l0, if_neg (by omega)]) (Ev_const rfl)
  | y :: r, i, h => by
    obtain ⟨hi, hy, hr⟩ := rdRes s.f3 i y r h
    have ih := rres_from s okp hl ok r (i + 1) hr
    rw [take_snoc h] at ih
    have hym : y ∈ s.f3 := by
      obtain ⟨h1, h2, _⟩ := drop_at h
      exact h2 ▸ List.getElem_mem h1
    obtain ⟨o0, o1, o2⟩ := ok y hym
    rw [reV]
    refine Ev_shift 1 (fun k => by rw [ddiref37_checkReserved.l0, if_pos (by omega), if_pos (by omega), hy]) ?_
    refine Ev.bind (rclient_v y.f0 o0) ?_
    cases h1 : clB y.f0 with
    | false => exact Ev_const rfl
    | true =>
      simp only [if_true]
      refine Ev.bind (usable_v s.f0 okp y.f1 o1) ?_
      cases h2 : leB s.f0 y.f1 with
      | false => exact Ev_const rfl
      | true =>
        simp only [if_true]
        have h3 := rres_in s hl y o2 i (by omega) _ (by rw [next i s.f3.length hi (by omega)]; exact ih) i 0 (by omega)
        rw [List.drop_zero] at h3
        exact h3
theorem rres_v (s : S49) (okp : uA s.f0.f0) (hl : s.f3.length ≤ 140737488351232) (ok : ∀ y ∈ s.f3, okRes y) : Ev (fun k => ddiref37_checkReserved.f k s.f0.f0.f0 s.f0.f0.f1 s.f0.f0.f2 s.f0.f1 s.f1 s.f2 s.f3 s.f4 s.f5) (reV s.f0 [] s.f3) := by
  unfold ddiref37_checkReserved.f
  exact rres_from s okp hl ok s.f3 0 rfl
/-! ### Check -/
def headB (s : S49) : Bool := pvB s.f0 && (!s.f0.f0.f0 && decide (s.f0.f1 ≤ 30))
def tailB (s : S49) : Bool := validO s.f4 && (decide (1 ≤ s.f5) && (decide (s.f5 ≤ 1073741824) && decide (s.f1.size ≤ 255)))
def ckV (s : S49) : Int :=
  if headB s = true then (if (decide (s.f2.length ≤ 16) && decide (s.f3.length ≤ 16)) = true then (if poV s.f0 [] s.f2 = 0 then (if reV s.f0 [] s.f3 = 0 then (if tailB s = true then 0 else 1) else reV s.f0 [] s.f3) else poV s.f0 [] s.f2) else 9) else 3
structure okSub (s : S49) : Prop where
  p : uA s.f0.f0
  l2 : s.f2.length ≤ 140737488351232
  o2 : ∀ y ∈ s.f2, uR y
  l3 : s.f3.length ≤ 140737488351232
  o3 : ∀ y ∈ s.f3, okRes y
  l4 : s.f4.length ≤ 140737488351232
  o4 : ∀ y ∈ s.f4, y.f1.size ≤ 140737488351232
theorem ck_end (s : S49) (g : Nat → Bool → Option Int) (hg : ∀ k b, g (k + 1) b = if b = true then some 1 else some 0) (v : Nat → Option Bool) (hv : Ev v (validO s.f4)) :
    Ev (fun k => (v k).bind fun t => if t = true then (if s.f5 < 1 then g k true else (if s.f5 > 1073741824 then g k true else g k (decide ((s.f1.size : Int) > 255)))) else g k true) (if tailB s = true then 0 else 1) := by
  have h1 : ∀ b : Bool, Ev (fun k => g k b) (if b = true then 1 else 0) := by
    intro b
    refine Ev_shift 1 (fun k => hg k b) ?_
    cases b <;> exact Ev_const rfl
  refine Ev.bind hv ?_
  unfold tailB
  cases validO s.f4 with
  | false =>
    simp only [Bool.false_eq_true, if_false, Bool.false_and]
    exact h1 true
  | true =>
    simp only [if_true, Bool.true_and]
    by_cases h2 : s.f5 < 1
    · simp only [if_pos h2, decide_eq_false (show ¬ 1 ≤ s.f5 by omega), Bool.false_and, Bool.false_eq_true, if_false]
      exact h1 true
    · simp only [if_neg h2, decide_eq_true (show 1 ≤ s.f5 by omega), Bool.true_and]
      by_cases h3 : s.f5 > 1073741824
      · simp only [if_pos h3, decide_eq_false (show ¬ s.f5 ≤ 1073741824 by omega), Bool.false_and, Bool.false_eq_true, if_false]
        exact h1 true
      · simp only [if_neg h3, decide_eq_true (show s.f5 ≤ 1073741824 by omega), Bool.true_and]
        by_cases h4 : s.f1.size ≤ 255
        · rw [decide_eq_true h4, decide_eq_false (by omega)]
          exact h1 false
        · rw [decide_eq_false h4, decide_eq_true (by omega)]
          exact h1 true
theorem ck_j0 (s : S49) (ok : okSub s) (b : Bool) (hb : b = !headB s) : Ev (fun k => pool_Check.j0 k b s.f0.f0.f0 s.f0.f0.f1 s.f0.f0.f2 s.f0.f1 s.f1 s.f2 s.f3 s.f4 s.f5) (ckV s) := by
  unfold ckV
  cases hh : headB s with
  | false =>
    rw [hh] at hb
    subst hb
    exact Ev_shift 1 (f := fun _ => some 3) (fun k => by rw [pool_Check.j0, if_pos (by decide)]) (Ev_const rfl)
  | true =>
    rw [hh] at hb
    subst hb
    simp only [if_true]
    have hj : ∀ b : Bool, b = !(decide (s.f2.length ≤ 16) && decide (s.f3.length ≤ 16)) → Ev (fun k => pool_Check.j1 k b s.f0.f0.f0 s.f0.f0.f1 s.f0.f0.f2 s.f0.f1 s.f1 s.f2 s.f3 s.f4 s.f5) (if (decide (s.f2.length ≤ 16) && decide (s.f3.length ≤ 16)) = true then (if poV s.f0 [] s.f2 = 0 then (if reV s.f0 [] s.f3 = 0 then (if tailB s = true then 0 else 1) else reV s.f0 [] s.f3) else poV s.f0 [] s.f2) else 9) := by
      intro b hb
      cases hc : (decide (s.f2.length ≤ 16) && decide (s.f3.length ≤ 16)) with
      | false =>
        rw [hc] at hb
        subst hb
        exact Ev_shift 1 (f := fun _ => some 9) (fun k => by rw [pool_Check.j1, if_pos (by decide)]) (Ev_const rfl)
      | true =>
        rw [hc] at hb
        subst hb
        simp only [if_true]
        refine Ev_shift 1 (fun k => by rw [pool_Check.j1, if_neg (by decide)]) ?_
        refine Ev.bind (pools_v s ok.l2) ?_
        by_cases h0 : poV s.f0 [] s.f2 = 0
        · simp only [if_pos h0]
          refine Ev.bind (res_v s ok.l3 (fun y hy => (ok.o3 y hy).2.2)) ?_
          by_cases h1 : reV s.f0 [] s.f3 = 0
          · simp only [if_pos h1]
            exact ck_end s (fun k b => pool_Check.j2 k b) (fun k b => by rw [pool_Check.j2]) _ (valid_ev s.f4 ok.l4 ok.o4)
          · simp only [if_neg h1]
            exact Ev_const rfl
        · simp only [if_neg h0]
          exact Ev_const rfl
    refine Ev_shift 1 (fun k => by rw [pool_Check.j0, if_neg (by decide)]) ?_
    by_cases h2 : (s.f2.length : Int) > 16
    · simp only [if_pos h2]
      exact hj true (by rw [decide_eq_false (show ¬ s.f2.length ≤ 16 by omega)]; rfl)
    · simp only [if_neg h2]
      refine hj _ ?_
      rw [decide_eq_true (show s.f2.length ≤ 16 by omega), Bool.true_and]
      by_cases h3 : s.f3.length ≤ 16
      · rw [decide_eq_true h3, decide_eq_false (by omega)]; rfl
      · rw [decide_eq_false h3, decide_eq_true (by omega)]; rfl
theorem check_v (s : S49) (ok : okSub s) : Ev (fun k => pool_Check.f k s.f0.f0.f0 s.f0.f0.f1 s.f0.f0.f2 s.f0.f1 s.f1 s.f2 s.f3 s.f4 s.f5) (ckV s) := by
  unfold pool_Check.f
  refine Ev.bind (valid_pfx s.f0) ?_
  cases hv : pvB s.f0 with
  | false =>
    simp only [Bool.false_eq_true, if_false]
    exact ck_j0 s ok true (by simp [headB, hv])
  | true =>
    simp only [if_true]
    cases h6 : s.f0.f0.f0 with
    | true =>
      simp only [if_true]
      have := ck_j0 s ok true (by simp [headB, h6])
      rw [h6] at this
      exact this
    | false =>
      simp only [Bool.false_eq_true, if_false]
      have hb : decide (s.f0.f1 > 30) = !headB s := by
        unfold headB
        rw [hv, h6]
        by_cases h : s.f0.f1 ≤ 30
        · rw [decide_eq_true h, decide_eq_false (by omega)]; rfl
        · rw [decide_eq_false h, decide_eq_true (by omega)]; rfl
      have := ck_j0 s ok _ hb
      rw [h6] at this
      exact this
theorem rck_j0 (s : S49) (ok : okSub s) (b : Bool) (hb : b = !headB s) : Ev (fun k => ddiref37_Check.j0 k b s.f0.f0.f0 s.f0.f0.f1 s.f0.f0.f2 s.f0.f1 s.f1 s.f2 s.f3 s.f4 s.f5) (ckV s) := by
  unfold ckV
  cases hh : headB s with
  | false =>
    rw [hh] at hb
    subst hb
    exact Ev_shift 1 (f := fun _ => some 3) (fun k => by rw [ddiref37_Check.j0, if_pos (by decide)]) (Ev_const rfl)
  | true =>
    rw [hh] at hb
    subst hb
    simp only [if_true]
    have hj : ∀ b : Bool, b = !(decide (s.f2.length ≤ 16) && decide (s.f3.length ≤ 16)) → Ev (fun k => ddiref37_Check.j1 k b s.f0.f0.f0 s.f0.f0.f1 s.f0.f0.f2 s.f0.f1 s.f1 s.f2 s.f3 s.f4 s.f5) (if (decide (s.f2.length ≤ 16) && decide (s.f3.length ≤ 16)) = true then (if poV s.f0 [] s.f2 = 0 then (if reV s.f0 [] s.f3 = 0 then (if tailB s = true then 0 else 1) else reV s.f0 [] s.f3) else poV s.f0 [] s.f2) else 9) := by
      intro b hb
      cases hc : (decide (s.f2.length ≤ 16) && decide (s.f3.length ≤ 16)) with
      | false =>
        rw [hc] at hb
        subst hb
        exact Ev_shift 1 (f := fun _ => some 9) (fun k => by rw [ddiref37_Check.j1, if_pos (by decide)]) (Ev_const rfl)
      | true =>
        rw [hc] at hb
        subst hb
        simp only [if_true]
        refine Ev_shift 1 (fun k => by rw [ddiref37_Check.j1, if_neg (by decide)]) ?_
        refine Ev.bind (rpools_v s ok.p ok.l2 ok.o2) ?_
        by_cases h0 : poV s.f0 [] s.f2 = 0
        · simp only [if_pos h0]
          refine Ev.bind (rres_v s ok.p ok.l3 ok.o3) ?_
          by_cases h1 : reV s.f0 [] s.f3 = 0
          · simp only [if_pos h1]
            exact ck_end s (fun k b => ddiref37_Check.j2 k b) (fun k b => by rw [ddiref37_Check.j2]) _ (rvalid_ev s.f4 ok.l4 ok.o4)
          · simp only [if_neg h1]
            exact Ev_const rfl
        · simp only [if_neg h0]
          exact Ev_const rfl
    refine Ev_shift 1 (fun k => by rw [ddiref37_Check.j0, if_neg (by decide)]) ?_
    by_cases h2 : (s.f2.length : Int) > 16
    · simp only [if_pos h2]
      exact hj true (by rw [decide_eq_false (show ¬ s.f2.length ≤ 16 by omega)]; rfl)
    · simp only [if_neg h2]
      refine hj _ ?_
      rw [decide_eq_true (show s.f2.length ≤ 16 by omega), Bool.true_and]
      by_cases h3 : s.f3.length ≤ 16
      · rw [decide_eq_true h3, decide_eq_false (by omega)]; rfl
      · rw [decide_eq_false h3, decide_eq_true (by omega)]; rfl
theorem rcheck_v (s : S49) (ok : okSub s) : Ev (fun k => ddiref37_Check.f k s.f0.f0.f0 s.f0.f0.f1 s.f0.f0.f2 s.f0.f1 s.f1 s.f2 s.f3 s.f4 s.f5) (ckV s) := by
  unfold ddiref37_Check.f
  refine Ev.bind (rvalid_pfx s.f0) ?_
  cases hv : pvB s.f0 with
  | false =>
    simp only [Bool.false_eq_true, if_false]
    exact rck_j0 s ok true (by simp [headB, hv])
  | true =>
    simp only [if_true]
    cases h6 : s.f0.f0.f0 with
    | true =>
      simp only [if_true]
      have := rck_j0 s ok true (by simp [headB, h6])
      rw [h6] at this
      exact this
    | false =>
      simp only [Bool.false_eq_true, if_false]
      have hb : decide (s.f0.f1 > 30) = !headB s := by
        unfold headB
        rw [hv, h6]
        by_cases h : s.f0.f1 ≤ 30
        · rw [decide_eq_true h, decide_eq_false (by omega)]; rfl
        · rw [decide_eq_false h, decide_eq_true (by omega)]; rfl
      have := rck_j0 s ok _ hb
      rw [h6] at this
      exact this
end Go.Proofs.YtngfffoeaghhhaaDoor.Cm
namespace Go.Proofs.YtngfffoeaghhhaaDoor.Ma
open Go.RowKit Go.Proofs.YtngfffoeaghhhaaDoorW.PrintWords Go.Proofs.YtngfffoeaghhhaaDoorW.PrintLast Go.Proofs.YtngfffoeaghhhaaDoorW.PrintMore Go.Proofs.YtngfffoeaghhhaaDoor.XP Go.Proofs.YtngfffoeaghhhaaDoor.QA Go.Proofs.YtngfffoeaghhhaaDoor.Cm
set_option linter.unusedVariables false
set_option linter.unusedSimpArgs false
theorem rdSub (l : List S49) (i : Nat) (x : S49) (r : List S49) (h : l.drop i = x :: r) : i < l.length ∧ rd_T49 l (i : Int) = x ∧ l.drop (i + 1) = r := by
  obtain ⟨hi, hx, hr⟩ := drop_at h
  exact ⟨hi, by simp [rd_T49, List.getD_eq_getElem?_getD, List.getElem?_eq_getElem hi, hx], hr⟩
/-! ### few -/
def fewS (s : S49) : S49 := ⟨s.f0, s.f1.extract 0 (min s.f1.size 300), s.f2.take (min s.f2.length 20), s.f3.take (min s.f3.length 20), shortO s.f4, s.f5⟩
def fewL (l : List S49) : List S49 := (l.take 20).map fewS
theorem few_from (l : List S49) (hl : l.length ≤ 140737488351232) (ok : ∀ s ∈ l, s.f4.length ≤ 140737488351232) : ∀ (r : List S49) (i : Nat) (q : List S49), l.drop i = r → q.length ≤ 20 → q.length = i → Ev (fun k => ddilaw39_few.l0 k l q (i : Int)) (q ++ (r.take (20 - i)).map fewS)
  | [], i, q, h, _, hq => by
    have := drop_end h
    refine Ev_shift 2 (f := fun _ => some q) (fun k => ?_) (Ev_const (by simp))
    rw [ddilaw39_few.l0, if_neg (by omega), ddilaw39_few.j1]
    rfl
  | x :: r, i, q, h, h20, hq => by
    obtain ⟨hi, hx, hr⟩ := rdSub l i x r h
    by_cases hc : i < 20
    · have ih := few_from l hl ok r (i + 1) (q ++ [fewS x]) hr (by simp; omega) (by simp; omega)
      have hxm : x ∈ l := by
        obtain ⟨h1, h2, _⟩ := drop_at h
        exact h2 ▸ List.getElem_mem h1
      have a1 : 0 ≤ mn (x.f1.size : Int) 300 := (mnl x.f1.size 300).1
      have a2 : mn (x.f1.size : Int) 300 ≤ (x.f1.size : Int) := (mnl x.f1.size 300).2.1
      have a3 : (mn (x.f1.size : Int) 300).toNat = min x.f1.size 300 := (mnl x.f1.size 300).2.2
      have b1 : 0 ≤ mn (x.f2.length : Int) 20 := (mnl x.f2.length 20).1
      have b2 : mn (x.f2.length : Int) 20 ≤ (x.f2.length : Int) := (mnl x.f2.length 20).2.1
      have b3 : (mn (x.f2.length : Int) 20).toNat = min x.f2.length 20 := (mnl x.f2.length 20).2.2
      have c1 : 0 ≤ mn (x.f3.length : Int) 20 := (mnl x.f3.length 20).1
      have c2 : mn (x.f3.length : Int) 20 ≤ (x.f3.length : Int) := (mnl x.f3.length 20).2.1
      have c3 : (mn (x.f3.length : Int) 20).toNat = min x.f3.length 20 := (mnl x.f3.length 20).2.2
      have e : (List.take (20 - i) (x :: r)) = x :: r.take (20 - (i + 1)) := by
        rw [show 20 - i = (20 - (i + 1)) + 1 by omega, List.take_succ_cons]
      rw [e, List.map_cons]
      rw [List.append_assoc, List.singleton_append] at ih
      refine Ev_shift 2 (fun k => by rw [ddilaw39_few.l0, if_pos (by omega), decide_eq_true (show (i : Int) < 20 by omega), ddilaw39_few.j1, if_pos rfl, if_pos (by omega), if_pos (by omega), hx, if_pos a1, if_pos a2, if_pos b1, if_pos b2, if_pos c1, if_pos c2, a3, b3, c3, next i l.length hi (by omega)]) ?_
      refine Ev.bind (short_ev ⟨0, 0, 0, (⟨#[]⟩ : ByteArray), ⟨false, 0, 0⟩, ⟨false, 0, 0⟩, ⟨false, 0, 0⟩, false, x.f4⟩ (ok x hxm)) ?_
      simp only [if_pos (show q.length < 1099511627776 by omega)]
      exact ih
    · refine Ev_shift 2 (f := fun _ => some q) (fun k => ?_) (Ev_const (by rw [show 20 - i = 0 by omega]; simp))
      rw [ddilaw39_few.l0, if_pos (by omega), decide_eq_false (show ¬ (i : Int) < 20 by omega), ddilaw39_few.j1]
      rfl
theorem few_ev (l : List S49) (hl : l.length ≤ 140737488351232) (ok : ∀ s ∈ l, s.f4.length ≤ 140737488351232) : Ev (fun k => ddilaw39_few.f k l) (fewL l) := by
  unfold ddilaw39_few.f
  exact few_from l hl ok l 0 [] rfl (by simp) rfl
theorem few_sub {l : List S49} (ok : ∀ s ∈ l, okS49 s) : (fewL l).length ≤ 20 ∧ ∀ s ∈ fewL l, okSub s := by
  refine ⟨by rw [fewL, List.length_map, List.length_take]; omega, fun s hs => ?_⟩
  obtain ⟨x, hx, rfl⟩ := List.mem_map.1 hs
  obtain ⟨h0, h1, h2, h3, h4, h5⟩ := ok x (List.mem_of_mem_take hx)
  obtain ⟨s1, s2⟩ := shortO_ok x.f4
  refine ⟨uA_of h0.1, ?_, fun y hy => ?_, ?_, fun y hy => ?_, ?_, fun y hy => ?_⟩
  · show (x.f2.take _).length ≤ _
    rw [List.length_take]
    omega
  · obtain ⟨g1, g2⟩ := h2.2.2 y (List.mem_of_mem_take hy)
    exact ⟨uA_of g1, uA_of g2⟩
  · show (x.f3.take _).length ≤ _
    rw [List.length_take]
    omega
  · obtain ⟨g1, g2, g3⟩ := h3.2.2 y (List.mem_of_mem_take hy)
    exact ⟨g1, uA_of g2, g3⟩
  · show (shortO x.f4).length ≤ _
    omega
  · have := s2 y hy
    omega
/-! ### Select -/
/-! ### Check -/
def ck1 : List S49 → List S49 → Int
  | _, [] => 0
  | pre, s :: r => if pre.any (fun t => poB s.f0 t.f0) = true then 24 else ck1 (pre ++ [s]) r
def ck0 (R : Int) : List S49 → Int
  | [] => R
  | s :: r => if ckV s = 0 then ck0 R r else ckV s
def ckL (l : List S49) : Int := if l.length ≤ 16 then ck0 (ck1 [] l) l else 9
theorem po_comm (p q : S45) : poB p q = poB q p := Bool.or_comm _ _
theorem chk2_from (l : List S49) (s : S49) (i : Nat) (y : List S49) (hy : y.length ≤ 140737488351232) (R : Int) (hR : Ev (fun k => relay_Check.l1 k l l (l.length : Int) (wrap64 ((i : Int) + 1))) R) : ∀ (r : List S49) (j : Nat), y.drop j = r → Ev (fun k => relay_Check.l2 k l l (l.length : Int) (i : Int) y (y.length : Int) (j : Int) s.f0.f0.f0 s.f0.f0.f1 s.f0.f0.f2 s.f0.f1 s.f1 s.f2 s.f3 s.f4 s.f5) (if r.any (fun t => poB s.f0 t.f0) = true then 24 else R)
  | [], j, h => by
    have := drop_end h
    refine Ev_shift 1 (fun k => by rw [relay_Check.l2, if_neg (by omega)]) ?_
    exact hR
  | t :: r, j, h => by
    obtain ⟨hj, hx, hr⟩ := rdSub y j t r h
    have ih := chk2_from l s i y hy R hR r (j + 1) hr
    rw [List.any_cons]
    refine Ev_shift 1 (fun k => by rw [relay_Check.l2, if_pos (by omega), if_pos (by omega), if_pos (by omega), hx, next j y.length hj (by omega)]) ?_
    refine Ev.bind (overlap_pfx s.f0 t.f0) ?_
    cases poB s.f0 t.f0 with
    | true => exact Ev_const rfl
    | false => exact ih
theorem chk1_from (l : List S49) (hl : l.length ≤ 140737488351232) : ∀ (r : List S49) (i : Nat), l.drop i = r → Ev (fun k => relay_Check.l1 k l l (l.length : Int) (i : Int)) (ck1 (l.take i) r)
  | [], i, h => by
    have := drop_end h
    exact Ev_shift 1 (f := fun _ => some 0) (fun k => by rw [relay_Check.l1, if_neg (by omega)]) (Ev_const rfl)
  | s :: r, i, h => by
    obtain ⟨hi, hx, hr⟩ := rdSub l i s r h
    have ih := chk1_from l hl r (i + 1) hr
    rw [take_snoc h] at ih
    rw [ck1]
    refine Ev_shift 1 (fun k => by rw [relay_Check.l1, if_pos (by omega), if_pos (by omega), if_pos (by omega), if_pos (by omega), hx, Int.toNat_natCast, Option.bind_some]) ?_
    exact chk2_from l s i (l.take i) (by rw [List.length_take]; omega) _ (by rw [next i l.length hi (by omega)]; exact ih) (l.take i) 0 rfl
theorem chk0_from (l : List S49) (hl : l.length ≤ 140737488351232) (ok : ∀ s ∈ l, okSub s) : ∀ (r : List S49) (i : Nat), l.drop i = r → Ev (fun k => relay_Check.l0 k l l (l.length : Int) (i : Int)) (ck0 (ck1 [] l) r)
  | [], i, h => by
    have := drop_end h
    refine Ev_shift 1 (fun k => by rw [relay_Check.l0, if_neg (by omega)]) ?_
    exact chk1_from l hl l 0 rfl
  | s :: r, i, h => by
    obtain ⟨hi, hx, hr⟩ := rdSub l i s r h
    have ih := chk0_from l hl ok r (i + 1) hr
    have hm : s ∈ l := by
      obtain ⟨h1, h2, _⟩ := drop_at h
      exact h2 ▸ List.getElem_mem h1
    rw [ck0]
    refine Ev_shift 1 (fun k => by rw [relay_Check.l0, if_pos (by omega), if_pos (by omega), if_pos (by omega), hx, next i l.length hi (by omega)]) ?_
    refine Ev.bind (check_v s (ok s hm)) ?_
    by_cases h0 : ckV s = 0
    · simp only [if_pos h0]
      exact ih
    · simp only [if_neg h0]
      exact Ev_const rfl
theorem rcheckL_ev (l : List S49) (hl : l.length ≤ 140737488351232) (ok : ∀ s ∈ l, okSub s) : Ev (fun k => relay_Check.f k l) (ckL l) := by
  unfold relay_Check.f ckL
  by_cases h : l.length ≤ 16
  · simp only [if_pos h, if_neg (show ¬ (l.length : Int) > 16 by omega)]
    exact chk0_from l hl ok l 0 rfl
  · simp only [if_neg h, if_pos (show (l.length : Int) > 16 by omega)]
    exact Ev_const rfl
theorem rck2_from (l : List S49) (hl : l.length ≤ 140737488351232) (ok : ∀ s ∈ l, okSub s) (i : Nat) (hi : i < l.length) (R : Int) (hR : Ev (fun k => ddiref39_Check.l1 k l (wrap64 ((i : Int) + 1))) R) : ∀ (d j : Nat), j + d = i → Ev (fun k => ddiref39_Check.l2 k l (i : Int) (j : Int)) (if ((l.take i).drop j).any (fun t => poB (l[i]).f0 t.f0) = true then 24 else R)
  | 0, j, h => by
    have : j = i := by omega
    subst this
    rw [List.drop_eq_nil_of_le (by rw [List.length_take]; omega)]
    refine Ev_shift 1 (fun k => by rw [ddiref39_Check.l2, if_neg (by omega)]) ?_
    exact hR
  | d + 1, j, h => by
    have ih := rck2_from l hl ok i hi R hR d (j + 1) (by omega)
    have hj : j < l.length := by omega
    obtain ⟨_, hx, _⟩ := rdSub l j l[j] _ (List.drop_eq_getElem_cons hj)
    obtain ⟨_, hy, _⟩ := rdSub l i l[i] _ (List.drop_eq_getElem_cons hi)
    have hjt : j < (l.take i).length := by rw [List.length_take]; omega
    rw [List.drop_eq_getElem_cons hjt, List.any_cons, List.getElem_take]
    refine Ev_shift 1 (fun k => by rw [ddiref39_Check.l2, if_pos (by omega), if_pos (by omega), if_pos (by omega), if_pos (by omega), if_pos (by omega), hx, hy, next j l.length hj (by omega)]) ?_
    refine Ev.bind (roverlap_pfx (l[j]).f0 (l[i]).f0 (ok _ (List.getElem_mem hj)).p (ok _ (List.getElem_mem hi)).p) ?_
    rw [po_comm]
    cases poB (l[i]).f0 (l[j]).f0 with
    | true => exact Ev_const rfl
    | false => exact ih
theorem rck1_from (l : List S49) (hl : l.length ≤ 140737488351232) (ok : ∀ s ∈ l, okSub s) : ∀ (r : List S49) (i : Nat), l.drop i = r → Ev (fun k => ddiref39_Check.l1 k l (i : Int)) (ck1 (l.take i) r)
  | [], i, h => by
    have := drop_end h
    exact Ev_shift 1 (f := fun _ => some 0) (fun k => by rw [ddiref39_Check.l1, if_neg (by omega)]) (Ev_const rfl)
  | s :: r, i, h => by
    obtain ⟨hi, hx, hr⟩ := drop_at h
    have ih := rck1_from l hl ok r (i + 1) hr
    rw [take_snoc h] at ih
    rw [ck1, ← hx]
    rw [← hx] at ih
    refine Ev_shift 1 (fun k => by rw [ddiref39_Check.l1, if_pos (by omega)]) ?_
    have h2 := rck2_from l hl ok i hi _ (by rw [next i l.length hi (by omega)]; exact ih) i 0 (by omega)
    rw [List.drop_zero] at h2
    exact h2
theorem rck0_from (l : List S49) (hl : l.length ≤ 140737488351232) (ok : ∀ s ∈ l, okSub s) : ∀ (r : List S49) (i : Nat), l.drop i = r → Ev (fun k => ddiref39_Check.l0 k l (i : Int)) (ck0 (ck1 [] l) r)
  | [], i, h => by
    have := drop_end h
    refine Ev_shift 1 (fun k => by rw [ddiref39_Check.l0, if_neg (by omega)]) ?_
    exact rck1_from l hl ok l 0 rfl
  | s :: r, i, h => by
    obtain ⟨hi, hx, hr⟩ := rdSub l i s r h
    have ih := rck0_from l hl ok r (i + 1) hr
    have hm : s ∈ l := by
      obtain ⟨h1, h2, _⟩ := drop_at h
      exact h2 ▸ List.getElem_mem h1
    rw [ck0]
    refine Ev_shift 1 (fun k => by rw [ddiref39_Check.l0, if_pos (by omega), if_pos (by omega), hx, next i l.length hi (by omega)]) ?_
    refine Ev.bind (rcheck_v s (ok s hm)) ?_
    by_cases h0 : ckV s = 0
    · simp only [if_pos h0]
      exact ih
    · simp only [if_neg h0]
      exact Ev_const rfl
theorem rrcheckL_ev (l : List S49) (hl : l.length ≤ 140737488351232) (ok : ∀ s ∈ l, okSub s) : Ev (fun k => ddiref39_Check.f k l) (ckL l) := by
  unfold ddiref39_Check.f ckL
  by_cases h : l.length ≤ 16
  · simp only [if_pos h, if_neg (show ¬ (l.length : Int) > 16 by omega)]
    exact rck0_from l hl ok l 0 rfl
  · simp only [if_neg h, if_pos (show (l.length : Int) > 16 by omega)]
    exact Ev_const rfl
theorem subs_short {l : List S49} (ok : l.length * 128 ≤ 140737488351232 ∧ l.length ≤ maxLen ∧ ∀ s ∈ l, okS49 s) : l.length ≤ 140737488351232 ∧ ∀ s ∈ l, s.f4.length ≤ 140737488351232 := by
  refine ⟨by have := ok.1; omega, fun s hs => ?_⟩
  obtain ⟨_, _, _, _, h4, _⟩ := ok.2.2 s hs
  have := h4.1
  omega
theorem relayChecks : ddilaw39_RelayChecks.Pure := by
  intro l ok
  obtain ⟨h1, h2⟩ := subs_short ok
  obtain ⟨h3, h4⟩ := few_sub ok.2.2
  refine Ev.rounds ?_
  unfold ddilaw39_RelayChecks.f
  refine Ev.bind (few_ev l h1 h2) ?_
  refine Ev.bind (rcheckL_ev _ (by omega) h4) ?_
  refine Ev.bind (rrcheckL_ev _ (by omega) h4) ?_
  simp only [if_true]
  exact Ev.bind wake_ev (Ev_const rfl)
end Go.Proofs.YtngfffoeaghhhaaDoor.Ma
namespace Go.Proofs.YtngfffoeaghhhaaDoor.Pure
theorem RelayChecks : QA.ddilaw39_RelayChecks.Pure := Ma.relayChecks
end Go.Proofs.YtngfffoeaghhhaaDoor.Pure
