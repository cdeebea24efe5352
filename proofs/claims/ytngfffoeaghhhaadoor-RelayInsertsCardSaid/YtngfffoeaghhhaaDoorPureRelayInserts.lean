/- RelayInserts holds: what the program's relay functions do is what the document says: the pure statement of RelayInserts (no condition but the sizes that every argument has). -/
import Derived.Test.YtngfffoeaghhhaaDoorQAd1
import Derived.Test.YtngfffoeaghhhaaDoorXP
namespace Go.Proofs.YtngfffoeaghhhaaDoor.Cm
open Go.RowKit Go.Proofs.YtngfffoeaghhhaaDoorW.PrintWords Go.Proofs.YtngfffoeaghhhaaDoorW.PrintLast Go.Proofs.YtngfffoeaghhhaaDoorW.PrintMore Go.Proofs.YtngfffoeaghhhaaDoor.XP Go.Proofs.YtngfffoeaghhhaaDoor.QA
set_option linter.unusedVariables false
set_option linter.unusedSimpArgs false
theorem rdOpt (l : List S59) (i : Nat) (x : S59) (r : List S59) (h : l.drop i = x :: r) : i < l.length ∧ rd_T59 l (i : Int) = x ∧ l.drop (i + 1) = r := by
  obtain ⟨hi, hx, hr⟩ := drop_at h
  exact ⟨hi, by simp [rd_T59, List.getD_eq_getElem?_getD, List.getElem?_eq_getElem hi, hx], hr⟩
theorem take_snoc {α : Type} {l : List α} {i : Nat} {x : α} {r : List α} (h : l.drop i = x :: r) : l.take (i + 1) = l.take i ++ [x] := by
  obtain ⟨hi, hx, hr⟩ := drop_at h
  rw [List.take_succ_eq_append_getElem hi, hx]
theorem set_drop {α : Type} {l : List α} {i : Nat} {x : α} {r : List α} (h : l.drop i = x :: r) (y : α) : l.set i y = l.take i ++ y :: r := by
  obtain ⟨hi, hx, hr⟩ := drop_at h
  rw [List.set_eq_take_append_cons_drop, if_pos hi, hr]
def findV (c : Int) : List S59 → ByteArray × Bool
  | [] => ((⟨#[]⟩ : ByteArray), false)
  | x :: r => if x.f0 = c then (x.f1, true) else findV c r
theorem find_from (l : List S59) (hl : l.length ≤ 140737488351232) (c : Int) : ∀ (r : List S59) (i : Nat), l.drop i = r → Ev (fun k => option_Find.l0 k c l (l.length : Int) (i : Int)) (findV c r)
  | [], i, h => by
    have := drop_end h
    refine Ev_shift 1 (f := fun _ => some ((⟨#[]⟩ : ByteArray), false)) (fun k => ?_) (Ev_const rfl)
    rw [option_Find.l0, if_neg (by omega)]
  | x :: r, i, h => by
    obtain ⟨hi, hx, hr⟩ := rdOpt l i x r h
    have ih := find_from l hl c r (i + 1) hr
    by_cases hc : x.f0 = c
    · refine Ev_shift 1 (f := fun _ => some (x.f1, true)) (fun k => ?_) (Ev_const (by rw [findV, if_pos hc]))
      rw [option_Find.l0, if_pos (by omega), if_pos (by omega), if_pos (by omega), hx, if_pos hc]
    · rw [findV, if_neg hc]
      refine Ev_shift 1 (fun k => ?_) ih
      rw [option_Find.l0, if_pos (by omega), if_pos (by omega), if_pos (by omega), hx, if_neg hc, next i l.length hi (by omega)]
theorem find_ev (l : List S59) (hl : l.length ≤ 140737488351232) (c : Int) : Ev (fun k => option_Find.f k l c) (findV c l) := by
  unfold option_Find.f
  exact find_from l hl c l 0 rfl
def idxO (c : Int) : List S59 → Nat → Int
  | [], _ => -1
  | x :: r, i => if x.f0 = c then (i : Int) else idxO c r (i + 1)
theorem index_from (l : List S59) (hl : l.length ≤ 140737488351232) (c : Int) : ∀ (r : List S59) (i : Nat), l.drop i = r → Ev (fun k => ddiref35_index.l0 k l c (i : Int)) (idxO c r i)
  | [], i, h => by
    have := drop_end h
    refine Ev_shift 1 (f := fun _ => some (-1)) (fun k => ?_) (Ev_const rfl)
    rw [ddiref35_index.l0, if_neg (by omega)]
  | x :: r, i, h => by
    obtain ⟨hi, hx, hr⟩ := rdOpt l i x r h
    have ih := index_from l hl c r (i + 1) hr
    by_cases hc : x.f0 = c
    · refine Ev_shift 1 (f := fun _ => some (i : Int)) (fun k => ?_) (Ev_const (by rw [idxO, if_pos hc]))
      rw [ddiref35_index.l0, if_pos (by omega), if_pos (by omega), hx, if_pos hc]
    · rw [idxO, if_neg hc]
      refine Ev_shift 1 (fun k => ?_) ih
      rw [ddiref35_index.l0, if_pos (by omega), if_pos (by omega), hx, if_neg hc, next i l.length hi (by omega)]
theorem index_ev (l : List S59) (hl : l.length ≤ 140737488351232) (c : Int) : Ev (fun k => ddiref35_index.f k l c) (idxO c l 0) := by
  unfold ddiref35_index.f
  exact index_from l hl c l 0 rfl
theorem idx_cases (l : List S59) (c : Int) : ∀ (r : List S59) (i : Nat), l.drop i = r → (idxO c r i = -1 ∧ findV c r = ((⟨#[]⟩ : ByteArray), false)) ∨ ∃ j : Nat, idxO c r i = (j : Int) ∧ i ≤ j ∧ j < l.length ∧ (rd_T59 l (j : Int)).f0 = c ∧ findV c r = ((rd_T59 l (j : Int)).f1, true)
  | [], i, _ => .inl ⟨rfl, rfl⟩
  | x :: r, i, h => by
    obtain ⟨hi, hx, hr⟩ := rdOpt l i x r h
    by_cases hc : x.f0 = c
    · refine .inr ⟨i, ?_, Nat.le_refl _, hi, ?_, ?_⟩
      · rw [idxO, if_pos hc]
      · rw [hx, hc]
      · rw [findV, if_pos hc, hx]
    · rw [idxO, findV, if_neg hc, if_neg hc]
      rcases idx_cases l c r (i + 1) hr with h1 | ⟨j, h1, h2, h3⟩
      · exact .inl h1
      · exact .inr ⟨j, h1, by omega, h3⟩
theorem rfind_ev (l : List S59) (hl : l.length ≤ 140737488351232) (c : Int) : Ev (fun k => ddiref35_Find.f k l c) (findV c l) := by
  unfold ddiref35_Find.f
  refine Ev.bind (index_ev l hl c) ?_
  rcases idx_cases l c l 0 rfl with ⟨h1, h2⟩ | ⟨j, h1, h2, h3, h4, h5⟩
  · rw [h1, h2]
    exact Ev_const rfl
  · rw [h1, h5]
    simp only [if_neg (show ¬ (j : Int) < 0 by omega), if_pos (show (0 : Int) ≤ (j : Int) by omega), if_pos (show (j : Int) < (l.length : Int) by omega)]
    exact Ev_const rfl
def okO (x : S59) : Bool := (decide (1 ≤ x.f0) && decide (x.f0 ≤ 254)) && decide (x.f1.size ≤ 1024)
def vO : List S59 → List S59 → Bool
  | _, [] => true
  | pre, x :: r => !(findV x.f0 pre).2 && (okO x && vO (pre ++ [x]) r)
def sumO : List S59 → Nat
  | [] => 0
  | x :: r => x.f1.size + sumO r
def validO (l : List S59) : Bool := decide (l.length ≤ 32) && (decide (sumO l ≤ 4096) && vO [] l)
theorem sumO_le (b : Nat) : ∀ l : List S59, (∀ x ∈ l, x.f1.size ≤ b) → sumO l ≤ l.length * b
  | [], _ => by simp [sumO]
  | x :: r, h => by
    have h1 := sumO_le b r (fun y hy => h y (List.mem_cons_of_mem _ hy))
    have h2 := h x List.mem_cons_self
    rw [sumO, List.length_cons, Nat.succ_mul]
    omega
theorem size_from (l : List S59) (hl : l.length ≤ 140737488351232) : ∀ (r : List S59) (i s : Nat), l.drop i = r → s + sumO r ≤ 9000000000000000 → Ev (fun k => option_size.l0 k (s : Int) l (l.length : Int) (i : Int)) ((s + sumO r : Nat) : Int)
  | [], i, s, h, _ => by
    have := drop_end h
    refine Ev_shift 1 (f := fun _ => some (s : Int)) (fun k => ?_) (Ev_const rfl)
    rw [option_size.l0, if_neg (by omega)]
  | x :: r, i, s, h, hb => by
    obtain ⟨hi, hx, hr⟩ := rdOpt l i x r h
    rw [sumO] at hb
    have ih := size_from l hl r (i + 1) (s + x.f1.size) hr (by omega)
    rw [sumO, ← Nat.add_assoc]
    refine Ev_shift 1 (fun k => ?_) ih
    have hw : wrap64 ((s : Int) + (x.f1.size : Int)) = ((s + x.f1.size : Nat) : Int) := by rw [wrap_id (by omega) (by omega), Int.natCast_add]
    rw [option_size.l0, if_pos (by omega), if_pos (by omega), if_pos (by omega), hx, next i l.length hi (by omega), hw]
theorem isCode_v (n : Int) : option_isCode.f n = some (decide (1 ≤ n) && decide (n ≤ 254)) := by
  unfold option_isCode.f
  by_cases h : n ≥ 1
  · rw [if_pos h, decide_eq_true (show 1 ≤ n from h), Bool.true_and]
  · rw [if_neg h, decide_eq_false (show ¬ 1 ≤ n from h), Bool.false_and]
theorem valid_from (l : List S59) (hl : l.length ≤ 140737488351232) : ∀ (r : List S59) (i : Nat), l.drop i = r → Ev (fun k => option_Valid.l0 k l l (l.length : Int) (i : Int)) (vO (l.take i) r)
  | [], i, h => by
    have := drop_end h
    refine Ev_shift 1 (f := fun _ => some true) (fun k => ?_) (Ev_const rfl)
    rw [option_Valid.l0, if_neg (by omega)]
  | x :: r, i, h => by
    obtain ⟨hi, hx, hr⟩ := rdOpt l i x r h
    have ih := valid_from l hl r (i + 1) hr
    rw [take_snoc h] at ih
    have hj : ∀ b : Bool, b = !(!(findV x.f0 (l.take i)).2 && okO x) → Ev (fun k => option_Valid.j2 k l l (l.length : Int) (i : Int) b) (vO (l.take i) (x :: r)) := by
      intro b hb
      rw [vO, ← Bool.and_assoc]
      cases hk : (!(findV x.f0 (l.take i)).2 && okO x) with
      | false =>
        rw [hk] at hb
        subst hb
        refine Ev_shift 1 (f := fun _ => some false) (fun k => ?_) (Ev_const rfl)
        rw [option_Valid.j2]
        rfl
      | true =>
        rw [hk] at hb
        subst hb
        rw [Bool.true_and]
        refine Ev_shift 1 (fun k => ?_) ih
        rw [option_Valid.j2, next i l.length hi (by omega)]
        rfl
    refine Ev_shift 1 (fun k => by rw [option_Valid.l0, if_pos (by omega), if_pos (by omega), if_pos (by omega), if_pos (by omega), hx, Int.toNat_natCast]) ?_
    refine Ev.bind (find_ev (l.take i) (by rw [List.length_take]; omega) x.f0) ?_
    cases hf : (findV x.f0 (l.take i)).2 with
    | true =>
      simp only [if_true]
      exact hj true (by rw [hf]; rfl)
    | false =>
      simp only [Bool.false_eq_true, if_false]
      simp only [isCode_v, Option.bind_some]
      rw [hf] at hj
      cases hc : (decide (1 ≤ x.f0) && decide (x.f0 ≤ 254)) with
      | true =>
        simp only [if_true]
        refine hj _ ?_
        unfold okO
        rw [hc]
        by_cases hz : x.f1.size ≤ 1024
        · rw [decide_eq_true hz, decide_eq_false (by omega)]; rfl
        · rw [decide_eq_false hz, decide_eq_true (by omega)]; rfl
      | false =>
        simp only [Bool.false_eq_true, if_false]
        refine hj true ?_
        unfold okO
        rw [hc]
        rfl
theorem valid_ev (l : List S59) (hl : l.length ≤ 140737488351232) (ok : ∀ x ∈ l, x.f1.size ≤ 140737488351232) : Ev (fun k => option_Valid.f k l) (validO l) := by
  unfold option_Valid.f validO
  by_cases h : l.length ≤ 32
  · have h2 := sumO_le 140737488351232 l ok
    have h3 : l.length * 140737488351232 ≤ 32 * 140737488351232 := Nat.mul_le_mul_right _ h
    simp only [if_neg (show ¬ (l.length : Int) > 32 by omega), decide_eq_true h, Bool.true_and]
    have hs := size_from l hl l 0 0 rfl (by omega)
    rw [Nat.zero_add] at hs
    refine Ev.bind (a := (sumO l : Int)) hs ?_
    by_cases h4 : sumO l ≤ 4096
    · rw [decide_eq_true h4, Bool.true_and, decide_eq_false (show ¬ (sumO l : Int) > 4096 by omega)]
      refine Ev_shift 1 (fun k => ?_) (valid_from l hl l 0 rfl)
      rw [option_Valid.j0]
      rfl
    · rw [decide_eq_false h4, Bool.false_and, decide_eq_true (show (sumO l : Int) > 4096 by omega)]
      refine Ev_shift 1 (f := fun _ => some false) (fun k => ?_) (Ev_const rfl)
      rw [option_Valid.j0]
      rfl
  · simp only [if_pos (show (l.length : Int) > 32 by omega), decide_eq_false h, Bool.false_and]
    refine Ev_shift 1 (f := fun _ => some false) (fun k => ?_) (Ev_const rfl)
    rw [option_Valid.j0]
    rfl
theorem idx_app (c : Int) (x : S59) (r : List S59) (hx : x.f0 = c) : ∀ (pre : List S59) (j : Nat), (idxO c (pre ++ x :: r) j != ((j + pre.length : Nat) : Int)) = (findV c pre).2
  | [], j => by
    rw [List.nil_append, idxO, if_pos hx]
    simp [findV]
  | y :: pre, j => by
    rw [List.cons_append, idxO, findV]
    by_cases hy : y.f0 = c
    · rw [if_pos hy, if_pos hy, List.length_cons]
      simp
      omega
    · rw [if_neg hy, if_neg hy, ← idx_app c x r hx pre (j + 1), List.length_cons]
      congr 2
      omega
theorem rvalid_from (l : List S59) (hl : l.length ≤ 140737488351232) : ∀ (r : List S59) (i s : Nat), l.drop i = r → s + sumO r ≤ 9000000000000000 → Ev (fun k => ddiref35_Valid.l0 k l (s : Int) (i : Int)) (vO (l.take i) r && decide (s + sumO r ≤ 4096))
  | [], i, s, h, _ => by
    have := drop_end h
    refine Ev_shift 1 (f := fun _ => some (decide ((s : Int) ≤ 4096))) (fun k => ?_) (Ev_const ?_)
    · rw [ddiref35_Valid.l0, if_neg (by omega)]
    · rw [vO, sumO, Bool.true_and]
      congr 1
      by_cases h4 : s ≤ 4096
      · rw [decide_eq_true (show s + 0 ≤ 4096 from h4), decide_eq_true (by omega)]
      · rw [decide_eq_false (show ¬ s + 0 ≤ 4096 from h4), decide_eq_false (by omega)]
  | x :: r, i, s, h, hb => by
    obtain ⟨hi, hx, hr⟩ := rdOpt l i x r h
    rw [sumO] at hb
    have ih := rvalid_from l hl r (i + 1) (s + x.f1.size) hr (by omega)
    rw [take_snoc h] at ih
    have hw : wrap64 ((s : Int) + (x.f1.size : Int)) = ((s + x.f1.size : Nat) : Int) := by rw [wrap_id (by omega) (by omega), Int.natCast_add]
    have hj : ∀ b : Bool, b = !(!(findV x.f0 (l.take i)).2 && okO x) → Ev (fun k => ddiref35_Valid.j1 k l (((s + x.f1.size : Nat)) : Int) (i : Int) b) (vO (l.take i) (x :: r) && decide (s + sumO (x :: r) ≤ 4096)) := by
      intro b hb
      rw [vO, sumO, ← Bool.and_assoc, ← Nat.add_assoc]
      cases hk : (!(findV x.f0 (l.take i)).2 && okO x) with
      | false =>
        rw [hk] at hb
        subst hb
        refine Ev_shift 1 (f := fun _ => some false) (fun k => ?_) (Ev_const rfl)
        rw [ddiref35_Valid.j1]
        rfl
      | true =>
        rw [hk] at hb
        subst hb
        rw [Bool.true_and]
        refine Ev_shift 1 (fun k => ?_) ih
        rw [ddiref35_Valid.j1, next i l.length hi (by omega)]
        rfl
    refine Ev_shift 1 (fun k => by rw [ddiref35_Valid.l0, if_pos (by omega), if_pos (by omega), hx, hw]) ?_
    by_cases h1 : x.f0 < 1
    · simp only [if_pos h1]
      refine hj true ?_
      unfold okO
      rw [decide_eq_false (show ¬ 1 ≤ x.f0 by omega)]
      simp
    · simp only [if_neg h1]
      by_cases h2 : x.f0 > 254
      · simp only [if_pos h2]
        refine hj true ?_
        unfold okO
        rw [decide_eq_false (show ¬ x.f0 ≤ 254 by omega)]
        simp
      · simp only [if_neg h2]
        by_cases h3 : (x.f1.size : Int) > 1024
        · simp only [if_pos h3]
          refine hj true ?_
          unfold okO
          rw [decide_eq_false (show ¬ x.f1.size ≤ 1024 by omega)]
          simp
        · simp only [if_neg h3]
          refine Ev.bind (index_ev l hl x.f0) ?_
          refine hj _ ?_
          have e : l = l.take i ++ x :: r := by rw [← h, List.take_append_drop]
          have e2 := idx_app x.f0 x r rfl (l.take i) 0
          rw [← e, List.length_take, Nat.zero_add, Nat.min_eq_left (by omega)] at e2
          rw [e2]
          unfold okO
          rw [decide_eq_true (show 1 ≤ x.f0 by omega), decide_eq_true (show x.f0 ≤ 254 by omega), decide_eq_true (show x.f1.size ≤ 1024 by omega)]
          simp
theorem rvalid_ev (l : List S59) (hl : l.length ≤ 140737488351232) (ok : ∀ x ∈ l, x.f1.size ≤ 140737488351232) : Ev (fun k => ddiref35_Valid.f k l) (validO l) := by
  unfold ddiref35_Valid.f validO
  by_cases h : l.length ≤ 32
  · have h2 := sumO_le 140737488351232 l ok
    have h3 : l.length * 140737488351232 ≤ 32 * 140737488351232 := Nat.mul_le_mul_right _ h
    simp only [if_neg (show ¬ (l.length : Int) > 32 by omega), decide_eq_true h, Bool.true_and]
    have hs := rvalid_from l hl l 0 0 rfl (by omega)
    rw [Nat.zero_add] at hs
    rw [Bool.and_comm]
    exact hs
  · simp only [if_pos (show (l.length : Int) > 32 by omega), decide_eq_false h, Bool.false_and]
    exact Ev_const rfl
def repl (c : Int) (v : ByteArray) : List S59 → List S59
  | [] => [⟨c, v⟩]
  | x :: r => if x.f0 = c then ⟨x.f0, v⟩ :: r else x :: repl c v r
def putV (c : Int) (v : ByteArray) (l : List S59) : List S59 := if (decide (1 ≤ c) && decide (c ≤ 254)) = true then repl c v l else l
theorem put_from (l : List S59) (hl : l.length < 5864062014805) (c : Int) (v : ByteArray) : ∀ (r : List S59) (i : Nat), l.drop i = r → Ev (fun k => option_Put.l0 k c v l (l.length : Int) (i : Int)) (l.take i ++ repl c v r)
  | [], i, h => by
    have := drop_end h
    refine Ev_shift 1 (f := fun _ => some (l ++ [⟨c, v⟩])) (fun k => ?_) (Ev_const ?_)
    · rw [option_Put.l0, if_neg (by omega), if_pos hl]
    · rw [List.take_of_length_le this, repl]
  | x :: r, i, h => by
    obtain ⟨hi, hx, hr⟩ := rdOpt l i x r h
    have ih := put_from l hl c v r (i + 1) hr
    rw [take_snoc h] at ih
    by_cases hc : x.f0 = c
    · refine Ev_shift 1 (f := fun _ => some (l.take i ++ ⟨x.f0, v⟩ :: r)) (fun k => ?_) (Ev_const (by rw [repl, if_pos hc]))
      rw [option_Put.l0, if_pos (by omega), if_pos (by omega), if_pos (by omega), hx, if_pos hc, Int.toNat_natCast, set_drop h]
    · rw [repl, if_neg hc]
      rw [List.append_assoc, List.singleton_append] at ih
      refine Ev_shift 1 (fun k => ?_) ih
      rw [option_Put.l0, if_pos (by omega), if_pos (by omega), if_pos (by omega), hx, if_neg hc, next i l.length hi (by omega)]
theorem put_ev (l : List S59) (hl : l.length < 5864062014805) (c : Int) (v : ByteArray) : Ev (fun k => option_Put.f k l c v) (putV c v l) := by
  unfold option_Put.f putV
  simp only [List.nil_append, List.length_nil, Nat.zero_add, if_pos hl, Option.bind_some, isCode_v]
  cases hc : (decide (1 ≤ c) && decide (c ≤ 254)) with
  | false =>
    simp only [Bool.false_eq_true, if_false]
    exact Ev_const rfl
  | true =>
    simp only [if_true]
    exact put_from l hl c v l 0 rfl
theorem repl_idx (l : List S59) (c : Int) (v : ByteArray) : ∀ (r : List S59) (i : Nat), l.drop i = r → (idxO c r i = -1 ∧ repl c v r = r ++ [⟨c, v⟩]) ∨ ∃ j : Nat, idxO c r i = (j : Int) ∧ j < l.length ∧ l.take i ++ repl c v r = l.set j ⟨(rd_T59 l (j : Int)).f0, v⟩
  | [], i, _ => .inl ⟨rfl, rfl⟩
  | x :: r, i, h => by
    obtain ⟨hi, hx, hr⟩ := rdOpt l i x r h
    by_cases hc : x.f0 = c
    · refine .inr ⟨i, ?_, hi, ?_⟩
      · rw [idxO, if_pos hc]
      · rw [repl, if_pos hc, set_drop h, hx]
    · rw [idxO, repl, if_neg hc, if_neg hc]
      rcases repl_idx l c v r (i + 1) hr with ⟨h1, h2⟩ | ⟨j, h1, h2, h3⟩
      · exact .inl ⟨h1, by rw [h2, List.cons_append]⟩
      · refine .inr ⟨j, h1, h2, ?_⟩
        rw [← h3, take_snoc h, List.append_assoc, List.singleton_append]
theorem rput_end (l : List S59) (hl : l.length < 5864062014805) (c : Int) (v : ByteArray) (b : Bool) (hb : b = !(decide (1 ≤ c) && decide (c ≤ 254))) : Ev (fun k => ddiref35_Put.j1 k c v l b) (putV c v l) := by
  unfold putV
  cases hc : (decide (1 ≤ c) && decide (c ≤ 254)) with
  | false =>
    rw [hc] at hb
    subst hb
    refine Ev_shift 1 (f := fun _ => some l) (fun k => ?_) (Ev_const rfl)
    rw [ddiref35_Put.j1]
    rfl
  | true =>
    rw [hc] at hb
    subst hb
    refine Ev_shift 1 (fun k => by rw [ddiref35_Put.j1, if_neg (by decide)]) ?_
    refine Ev.bind (index_ev l (by omega) c) ?_
    rcases repl_idx l c v l 0 rfl with ⟨h1, h2⟩ | ⟨j, h1, h2, h3⟩
    · rw [h1, h2]
      simp only [if_neg (show ¬ (-1 : Int) ≥ 0 by omega), if_pos hl]
      exact Ev_const rfl
    · rw [h1]
      simp only [if_pos (show (j : Int) ≥ 0 by omega), if_pos (show (0 : Int) ≤ (j : Int) by omega), if_pos (show (j : Int) < (l.length : Int) by omega), Int.toNat_natCast]
      rw [if_pos trivial, ← List.nil_append (repl c v l), ← List.take_zero (l := l), h3]
      exact Ev_const rfl
theorem rput_from (l : List S59) (hl : l.length < 5864062014805) (c : Int) (v : ByteArray) : ∀ (r : List S59) (i : Nat), l.drop i = r → Ev (fun k => ddiref35_Put.l0 k l c v (l.take i) (i : Int)) (putV c v l)
  | [], i, h => by
    have := drop_end h
    rw [List.take_of_length_le this]
    refine Ev_shift 1 (f := fun k => if c < 1 then ddiref35_Put.j1 k c v l true else ddiref35_Put.j1 k c v l (decide (c > 254))) (fun k => by rw [ddiref35_Put.l0, if_neg (by omega)]) ?_
    by_cases h1 : c < 1
    · simp only [if_pos h1]
      exact rput_end l hl c v true (by rw [decide_eq_false (show ¬ 1 ≤ c by omega)]; rfl)
    · simp only [if_neg h1]
      refine rput_end l hl c v _ ?_
      rw [decide_eq_true (show 1 ≤ c by omega), Bool.true_and]
      by_cases h2 : c ≤ 254
      · rw [decide_eq_true h2, decide_eq_false (by omega)]; rfl
      · rw [decide_eq_false h2, decide_eq_true (by omega)]; rfl
  | x :: r, i, h => by
    obtain ⟨hi, hx, hr⟩ := rdOpt l i x r h
    have ih := rput_from l hl c v r (i + 1) hr
    rw [take_snoc h] at ih
    refine Ev_shift 1 (fun k => ?_) ih
    rw [ddiref35_Put.l0, if_pos (by omega), if_pos (by omega), if_pos (by rw [List.length_take]; omega), hx, next i l.length hi (by omega)]
theorem rput_ev (l : List S59) (hl : l.length < 5864062014805) (c : Int) (v : ByteArray) : Ev (fun k => ddiref35_Put.f k l c v) (putV c v l) := by
  unfold ddiref35_Put.f
  exact rput_from l hl c v l 0 rfl
theorem repl_len (c : Int) (v : ByteArray) : ∀ l : List S59, (repl c v l).length ≤ l.length + 1
  | [] => by simp [repl]
  | x :: r => by
    rw [repl]
    split
    · simp
    · have := repl_len c v r
      simp only [List.length_cons]
      omega
theorem putV_len (c : Int) (v : ByteArray) (l : List S59) : (putV c v l).length ≤ l.length + 1 := by
  unfold putV
  split
  · exact repl_len c v l
  · omega
theorem repl_mem (c : Int) (v : ByteArray) : ∀ (l : List S59) (x : S59), x ∈ repl c v l → x ∈ l ∨ (x.f0 = c ∧ x.f1 = v)
  | [], x, h => by
    rw [repl, List.mem_singleton] at h
    subst h
    exact .inr ⟨rfl, rfl⟩
  | y :: r, x, h => by
    rw [repl] at h
    split at h
    · rename_i hy
      rcases List.mem_cons.1 h with h1 | h1
      · subst h1
        exact .inr ⟨hy, rfl⟩
      · exact .inl (List.mem_cons_of_mem _ h1)
    · rcases List.mem_cons.1 h with h1 | h1
      · subst h1
        exact .inl List.mem_cons_self
      · rcases repl_mem c v r x h1 with h2 | h2
        · exact .inl (List.mem_cons_of_mem _ h2)
        · exact .inr h2
theorem putV_mem (c : Int) (v : ByteArray) (l : List S59) (x : S59) (h : x ∈ putV c v l) : x ∈ l ∨ (x.f0 = c ∧ x.f1 = v) := by
  unfold putV at h
  split at h
  · exact repl_mem c v l x h
  · exact .inl h
end Go.Proofs.YtngfffoeaghhhaaDoor.Cm
namespace Go.Proofs.YtngfffoeaghhhaaDoor.Ma
open Go.RowKit Go.Proofs.YtngfffoeaghhhaaDoorW.PrintWords Go.Proofs.YtngfffoeaghhhaaDoorW.PrintLast Go.Proofs.YtngfffoeaghhhaaDoorW.PrintMore Go.Proofs.YtngfffoeaghhhaaDoor.XP Go.Proofs.YtngfffoeaghhhaaDoor.QA Go.Proofs.YtngfffoeaghhhaaDoor.Cm
set_option linter.unusedVariables false
set_option linter.unusedSimpArgs false
def t27 (p : S27) : Int × Int × Int × ByteArray × Bool × Int × Int × Bool × Int × Int × Bool × Int × Int × Bool × List S59 :=
  (p.f0, p.f1, p.f2, p.f3, p.f4.f0, p.f4.f1, p.f4.f2, p.f5.f0, p.f5.f1, p.f5.f2, p.f6.f0, p.f6.f1, p.f6.f2, p.f7, p.f8)
def t27e (p : S27) (e : Int) : Int × Int × Int × ByteArray × Bool × Int × Int × Bool × Int × Int × Bool × Int × Int × Bool × List S59 × Int :=
  (p.f0, p.f1, p.f2, p.f3, p.f4.f0, p.f4.f1, p.f4.f2, p.f5.f0, p.f5.f1, p.f5.f2, p.f6.f0, p.f6.f1, p.f6.f2, p.f7, p.f8, e)
theorem mnl (n m : Nat) : 0 ≤ mn (n : Int) (m : Int) ∧ mn (n : Int) (m : Int) ≤ (n : Int) ∧ (mn (n : Int) (m : Int)).toNat = min n m := mn_len' n m
/-! ### Short -/
def cutO (n : Nat) (x : S59) : S59 := ⟨x.f0, x.f1.extract 0 (min x.f1.size n)⟩
def shortO (l : List S59) : List S59 := (l.take 40).map (cutO 1100)
def shortP (p : S27) : S27 := ⟨p.f0, p.f1, p.f2, p.f3.extract 0 (min p.f3.size 100), p.f4, p.f5, p.f6, p.f7, shortO p.f8⟩
theorem cut_size (n : Nat) (s : ByteArray) : (s.extract 0 (min s.size n)).size ≤ n := by
  rw [size_data, data_ext]
  simp
  omega
theorem short_from (l : List S59) (hl : l.length ≤ 140737488351232) : ∀ (r : List S59) (i : Nat) (q : List S59), l.drop i = r → q.length ≤ 40 → q.length = i → Ev (fun k => ddiref36_options.l0 k l q (i : Int)) (q ++ (r.take (40 - i)).map (cutO 1100))
  | [], i, q, h, _, hq => by
    have := drop_end h
    refine Ev_shift 2 (f := fun _ => some q) (fun k => ?_) (Ev_const (by simp))
    rw [ddiref36_options.l0, if_neg (by omega), ddiref36_options.j1]
    rfl
  | x :: r, i, q, h, h40, hq => by
    obtain ⟨hi, hx, hr⟩ := rdOpt l i x r h
    by_cases hc : i < 40
    · have ih := short_from l hl r (i + 1) (q ++ [cutO 1100 x]) hr (by simp; omega) (by simp; omega)
      have h1 : 0 ≤ mn (x.f1.size : Int) 1100 := (mnl x.f1.size 1100).1
      have h2 : mn (x.f1.size : Int) 1100 ≤ (x.f1.size : Int) := (mnl x.f1.size 1100).2.1
      have h3 : (mn (x.f1.size : Int) 1100).toNat = min x.f1.size 1100 := (mnl x.f1.size 1100).2.2
      have e : (List.take (40 - i) (x :: r)) = x :: r.take (40 - (i + 1)) := by
        rw [show 40 - i = (40 - (i + 1)) + 1 by omega, List.take_succ_cons]
      rw [e, List.map_cons]
      rw [List.append_assoc, List.singleton_append] at ih
      refine Ev_shift 2 (fun k => ?_) ih
      rw [ddiref36_options.l0, if_pos (by omega), decide_eq_true (show (i : Int) < 40 by omega), ddiref36_options.j1, if_pos rfl, if_pos (by omega), if_pos (by omega), hx, if_pos h1, if_pos h2, if_pos (by omega), next i l.length hi (by omega)]
      rw [h3]
      rfl
    · refine Ev_shift 2 (f := fun _ => some q) (fun k => ?_) (Ev_const (by rw [show 40 - i = 0 by omega]; simp))
      rw [ddiref36_options.l0, if_pos (by omega), decide_eq_false (show ¬ (i : Int) < 40 by omega), ddiref36_options.j1]
      rfl
theorem short_ev (p : S27) (hl : p.f8.length ≤ 140737488351232) : Ev (fun k => ddiref36_Short.f k p.f0 p.f1 p.f2 p.f3 p.f4.f0 p.f4.f1 p.f4.f2 p.f5.f0 p.f5.f1 p.f5.f2 p.f6.f0 p.f6.f1 p.f6.f2 p.f7 p.f8) (t27 (shortP p)) := by
  unfold ddiref36_Short.f
  obtain ⟨h1, h2, h3⟩ := mnl p.f3.size 100
  have h1' : 0 ≤ mn (p.f3.size : Int) 100 := h1
  have h2' : mn (p.f3.size : Int) 100 ≤ (p.f3.size : Int) := h2
  have h3' : (mn (p.f3.size : Int) 100).toNat = min p.f3.size 100 := h3
  simp only [if_pos h1', if_pos h2', h3']
  refine Ev.bind (a := shortO p.f8) ?_ (Ev_const rfl)
  unfold ddiref36_options.f
  exact short_from p.f8 hl p.f8 0 [] rfl (by simp) rfl
theorem shortO_ok (l : List S59) : (shortO l).length ≤ 40 ∧ ∀ x ∈ shortO l, x.f1.size ≤ 1100 := by
  refine ⟨by rw [shortO, List.length_map, List.length_take]; omega, fun x hx => ?_⟩
  obtain ⟨y, _, rfl⟩ := List.mem_map.1 hx
  exact cut_size 1100 y.f1
/-! ### Same -/
theorem same_from (p : S27) (hl : p.f8.length ≤ 140737488351232) : ∀ (r : List S59) (i : Nat), p.f8.drop i = r → Ev (fun k => ddiref36_Same.l0 k (i : Int) p.f0 p.f1 p.f2 p.f3 p.f4.f0 p.f4.f1 p.f4.f2 p.f5.f0 p.f5.f1 p.f5.f2 p.f6.f0 p.f6.f1 p.f6.f2 p.f7 p.f8 p.f0 p.f1 p.f2 p.f3 p.f4.f0 p.f4.f1 p.f4.f2 p.f5.f0 p.f5.f1 p.f5.f2 p.f6.f0 p.f6.f1 p.f6.f2 p.f7 p.f8) true
  | [], i, h => by
    have := drop_end h
    refine Ev_shift 1 (f := fun _ => some true) (fun k => ?_) (Ev_const rfl)
    rw [ddiref36_Same.l0, if_neg (by omega)]
  | x :: r, i, h => by
    obtain ⟨hi, hx, hr⟩ := rdOpt p.f8 i x r h
    have ih := same_from p hl r (i + 1) hr
    refine Ev_shift 1 (fun k => ?_) ih
    rw [ddiref36_Same.l0, if_pos (by omega), if_pos (by omega), if_pos (by omega), if_neg (by simp), next i p.f8.length hi (by omega)]
theorem same_ev (p : S27) (hl : p.f8.length ≤ 140737488351232) : Ev (fun k => ddiref36_Same.f k p.f0 p.f1 p.f2 p.f3 p.f4.f0 p.f4.f1 p.f4.f2 p.f5.f0 p.f5.f1 p.f5.f2 p.f6.f0 p.f6.f1 p.f6.f2 p.f7 p.f8 p.f0 p.f1 p.f2 p.f3 p.f4.f0 p.f4.f1 p.f4.f2 p.f5.f0 p.f5.f1 p.f5.f2 p.f6.f0 p.f6.f1 p.f6.f2 p.f7 p.f8) true := by
  refine Ev_shift 1 (fun k => ?_) (same_from p hl p.f8 0 rfl)
  simp only [ddiref36_Same.f, beq_self_eq_true, Bool.not_true, Bool.or_self, Bool.false_eq_true, if_true, if_false, bne_self_eq_false]
  rw [ddiref36_Same.j0]
  simp only [Bool.false_eq_true, if_false]
  rfl
/-! ### Strip -/
def isI (x : S59) : Bool := decide (x.f0 = 82)
def stripO (l : List S59) : List S59 := l.filter (fun x => !isI x)
def stripP (p : S27) : S27 := ⟨p.f0, p.f1, p.f2, p.f3, p.f4, p.f5, ⟨false, 0, 0⟩, false, stripO p.f8⟩
theorem strip_from (p : S27) (hl : p.f8.length < 5864062014805) : ∀ (r : List S59) (i : Nat) (q : List S59), p.f8.drop i = r → q.length ≤ i → Ev (fun k => relay_Strip.l0 k q p.f8 (p.f8.length : Int) (i : Int) p.f0 p.f1 p.f2 p.f3 p.f4.f0 p.f4.f1 p.f4.f2 p.f5.f0 p.f5.f1 p.f5.f2 p.f6.f0 p.f6.f1 p.f6.f2 p.f7 p.f8) (t27 ⟨p.f0, p.f1, p.f2, p.f3, p.f4, p.f5, ⟨false, 0, 0⟩, false, q ++ stripO r⟩)
  | [], i, q, h, hq => by
    have := drop_end h
    refine Ev_shift 1 (f := fun _ => some _) (fun k => ?_) (Ev_const rfl)
    rw [relay_Strip.l0, if_neg (by omega)]
    simp [t27, stripO]
  | x :: r, i, q, h, hq => by
    obtain ⟨hi, hx, hr⟩ := rdOpt p.f8 i x r h
    by_cases hc : x.f0 = 82
    · have ih := strip_from p hl r (i + 1) q hr (by omega)
      rw [stripO, List.filter_cons_of_neg (by simp [isI, hc]), ← stripO]
      refine Ev_shift 1 (fun k => ?_) ih
      rw [relay_Strip.l0, if_pos (by omega), if_pos (by omega), if_pos (by omega), hx, if_pos hc, next i p.f8.length hi (by omega)]
    · have ih := strip_from p hl r (i + 1) (q ++ [x]) hr (by simp; omega)
      rw [stripO, List.filter_cons_of_pos (by simp [isI, hc]), ← stripO]
      rw [List.append_assoc, List.singleton_append] at ih
      refine Ev_shift 1 (fun k => ?_) ih
      rw [relay_Strip.l0, if_pos (by omega), if_pos (by omega), if_pos (by omega), hx, if_neg hc, if_pos (by omega), next i p.f8.length hi (by omega)]
theorem strip_ev (p : S27) (hl : p.f8.length < 5864062014805) : Ev (fun k => relay_Strip.f k p.f0 p.f1 p.f2 p.f3 p.f4.f0 p.f4.f1 p.f4.f2 p.f5.f0 p.f5.f1 p.f5.f2 p.f6.f0 p.f6.f1 p.f6.f2 p.f7 p.f8) (t27 (stripP p)) := by
  unfold relay_Strip.f
  exact strip_from p hl p.f8 0 [] rfl (by simp)
theorem rstrip_from (p : S27) (hl : p.f8.length < 5864062014805) : ∀ (r : List S59) (i : Nat) (q : List S59), p.f8.drop i = r → q.length ≤ i → Ev (fun k => ddiref39_Strip.l0 k q (i : Int) p.f0 p.f1 p.f2 p.f3 p.f4.f0 p.f4.f1 p.f4.f2 p.f5.f0 p.f5.f1 p.f5.f2 p.f6.f0 p.f6.f1 p.f6.f2 p.f7 p.f8) (t27 ⟨p.f0, p.f1, p.f2, p.f3, p.f4, p.f5, ⟨false, 0, 0⟩, false, q ++ stripO r⟩)
  | [], i, q, h, hq => by
    have := drop_end h
    refine Ev_shift 1 (f := fun _ => some _) (fun k => ?_) (Ev_const rfl)
    rw [ddiref39_Strip.l0, if_neg (by omega)]
    simp [t27, stripO]
  | x :: r, i, q, h, hq => by
    obtain ⟨hi, hx, hr⟩ := rdOpt p.f8 i x r h
    by_cases hc : x.f0 = 82
    · have ih := rstrip_from p hl r (i + 1) q hr (by omega)
      rw [stripO, List.filter_cons_of_neg (by simp [isI, hc]), ← stripO]
      refine Ev_shift 1 (fun k => ?_) ih
      rw [ddiref39_Strip.l0, if_pos (by omega), if_pos (by omega), hx, if_pos hc, next i p.f8.length hi (by omega)]
    · have ih := rstrip_from p hl r (i + 1) (q ++ [x]) hr (by simp; omega)
      rw [stripO, List.filter_cons_of_pos (by simp [isI, hc]), ← stripO]
      rw [List.append_assoc, List.singleton_append] at ih
      refine Ev_shift 1 (fun k => ?_) ih
      rw [ddiref39_Strip.l0, if_pos (by omega), if_pos (by omega), hx, if_neg hc, if_pos (by omega), next i p.f8.length hi (by omega)]
theorem rstrip_ev (p : S27) (hl : p.f8.length < 5864062014805) : Ev (fun k => ddiref39_Strip.f k p.f0 p.f1 p.f2 p.f3 p.f4.f0 p.f4.f1 p.f4.f2 p.f5.f0 p.f5.f1 p.f5.f2 p.f6.f0 p.f6.f1 p.f6.f2 p.f7 p.f8) (t27 (stripP p)) := by
  unfold ddiref39_Strip.f
  exact rstrip_from p hl p.f8 0 [] rfl (by simp)
/-! ### Circuit -/
def noC : ByteArray × Bool := ((⟨#[]⟩ : ByteArray), false)
def circB (v : ByteArray × Bool) : Bool := v.2 && (decide (2 ≤ v.1.size) && (decide (bt v.1 0 = 1) && (wrap64 (bt v.1 1) == wrap64 ((v.1.size : Int) - 2))))
def circV (v : ByteArray × Bool) : ByteArray × Bool := if circB v = true then (v.1.extract 2 v.1.size, true) else noC
theorem circ_j (s : ByteArray) (x : Bool) (b : Bool) (hb : b = !circB (s, x)) : Ev (fun k => relay_Circuit.j0 k s b) (circV (s, x)) := by
  unfold circV
  cases hc : circB (s, x) with
  | false =>
    rw [hc] at hb
    subst hb
    refine Ev_shift 1 (f := fun _ => some noC) (fun k => ?_) (Ev_const rfl)
    rw [relay_Circuit.j0]
    rfl
  | true =>
    rw [hc] at hb
    subst hb
    have h2 : 2 ≤ s.size := by
      unfold circB at hc
      simp only [Bool.and_eq_true, decide_eq_true_eq] at hc
      exact hc.2.1
    refine Ev_shift 1 (f := fun _ => some (s.extract 2 s.size, true)) (fun k => ?_) (Ev_const rfl)
    rw [relay_Circuit.j0, if_neg (by decide), if_pos (by omega)]
theorem circ_of (v : ByteArray × Bool) : Ev (fun k => if v.2 = true then (if (v.1.size : Int) < 2 then relay_Circuit.j0 k v.1 true else (if 0 < (v.1.size : Int) then (if bt v.1 0 = 1 then (if 1 < (v.1.size : Int) then relay_Circuit.j0 k v.1 (wrap64 (bt v.1 1) != wrap64 ((v.1.size : Int) - 2)) else none) else relay_Circuit.j0 k v.1 true) else none)) else relay_Circuit.j0 k v.1 true) (circV v) := by
  obtain ⟨s, x⟩ := v
  cases x with
  | false =>
    simp only [Bool.false_eq_true, if_false]
    exact circ_j s false true rfl
  | true =>
    simp only [if_true]
    by_cases h2 : (s.size : Int) < 2
    · simp only [if_pos h2]
      exact circ_j s true true (by simp [circB]; omega)
    · simp only [if_neg h2, if_pos (show 0 < (s.size : Int) by omega), if_pos (show 1 < (s.size : Int) by omega)]
      by_cases h1 : bt s 0 = 1
      · simp only [if_pos h1]
        refine circ_j s true _ ?_
        unfold circB
        rw [decide_eq_true (show 2 ≤ s.size by omega), decide_eq_true h1]
        rfl
      · simp only [if_neg h1]
        exact circ_j s true true (by simp [circB, h1])
theorem circ_ev (p : S27) (hl : p.f8.length ≤ 140737488351232) : Ev (fun k => relay_Circuit.f k p.f0 p.f1 p.f2 p.f3 p.f4.f0 p.f4.f1 p.f4.f2 p.f5.f0 p.f5.f1 p.f5.f2 p.f6.f0 p.f6.f1 p.f6.f2 p.f7 p.f8) (circV (findV 82 p.f8)) := by
  unfold relay_Circuit.f
  exact Ev.bind (find_ev p.f8 hl 82) (circ_of _)
theorem circ_eq : @ddiref39_Circuit.j0 = @relay_Circuit.j0 := by
  funext k s b
  cases k <;> rfl
theorem rcirc_ev (p : S27) (hl : p.f8.length ≤ 140737488351232) : Ev (fun k => ddiref39_Circuit.f k p.f0 p.f1 p.f2 p.f3 p.f4.f0 p.f4.f1 p.f4.f2 p.f5.f0 p.f5.f1 p.f5.f2 p.f6.f0 p.f6.f1 p.f6.f2 p.f7 p.f8) (circV (findV 82 p.f8)) := by
  unfold ddiref39_Circuit.f
  rw [circ_eq]
  exact Ev.bind (rfind_ev p.f8 hl 82) (circ_of _)
/-! ### Insert -/
def goodA (a : S24) : Bool := !a.f0 && (decide (a.f1 = 0) && decide (a.f2 ≤ 4294967295))
def zeroP : S27 := ⟨0, 0, 0, (⟨#[]⟩ : ByteArray), ⟨false, 0, 0⟩, ⟨false, 0, 0⟩, ⟨false, 0, 0⟩, false, []⟩
def infoB (c : ByteArray) : ByteArray := strOfNums ([1, (c.size : Int) % 256] : List Int) ++ c
def insV (p : S27) (a : S24) (c : ByteArray) : S27 × Int :=
  if goodA a = true then (if p.f7 = true then (zeroP, 21) else (if (c.size : Int) > 255 then (zeroP, 9) else (if validO (putV 82 (infoB c) p.f8) = true then (⟨p.f0, p.f1, p.f2, p.f3, p.f4, p.f5, a, true, putV 82 (infoB c) p.f8⟩, 0) else (zeroP, 9)))) else (zeroP, 3)
theorem info_size (c : ByteArray) : (infoB c).size = 2 + c.size := by
  rw [infoB, ByteArray.size_append, strOfNums_size]
  rfl
theorem putV_sizes (c : ByteArray) (hc : c.size ≤ 400) (l : List S59) (ok : ∀ x ∈ l, x.f1.size ≤ 1100) : ∀ x ∈ putV 82 (infoB c) l, x.f1.size ≤ 1100 := by
  intro x hx
  rcases putV_mem 82 (infoB c) l x hx with h | ⟨_, h⟩
  · exact ok x h
  · rw [h, info_size]
    omega
theorem ins_j (p : S27) (a : S24) (c : ByteArray) (hc : c.size ≤ 400) (hl : p.f8.length ≤ 41) (ok : ∀ x ∈ p.f8, x.f1.size ≤ 1100) (b : Bool) (hb : b = !goodA a) : Ev (fun k => relay_Insert.j0 k c b p.f0 p.f1 p.f2 p.f3 p.f4.f0 p.f4.f1 p.f4.f2 p.f5.f0 p.f5.f1 p.f5.f2 p.f6.f0 p.f6.f1 p.f6.f2 p.f7 p.f8 a.f0 a.f1 a.f2) (t27e (insV p a c).1 (insV p a c).2) := by
  unfold insV
  cases hg : goodA a with
  | false =>
    rw [hg] at hb
    subst hb
    refine Ev_shift 1 (f := fun _ => some (t27e zeroP 3)) (fun k => ?_) (Ev_const rfl)
    rw [relay_Insert.j0]
    rfl
  | true =>
    rw [hg] at hb
    subst hb
    simp only [if_true]
    refine Ev_shift 1 (fun k => by rw [relay_Insert.j0, if_neg (by decide)]) ?_
    cases h7 : p.f7 with
    | true =>
      simp only [if_true]
      exact Ev_const rfl
    | false =>
      simp only [Bool.false_eq_true, if_false]
      by_cases h255 : (c.size : Int) > 255
      · simp only [if_pos h255]
        exact Ev_const rfl
      · simp only [if_neg h255]
        have hs : (strOfNums ([1, (c.size : Int) % 256] : List Int)).size + c.size ≤ 9223372036854775807 := by
          rw [strOfNums_size, List.length_cons, List.length_cons, List.length_nil]
          omega
        simp only [Option.bind_some, if_pos hs]
        refine Ev.bind (put_ev p.f8 (by omega) 82 (infoB c)) ?_
        have hlen := putV_len 82 (infoB c) p.f8
        have hsz := putV_sizes c hc p.f8 ok
        refine Ev.bind (valid_ev (putV 82 (infoB c) p.f8) (by omega) (fun x hx => by have := hsz x hx; omega)) ?_
        cases hv : validO (putV 82 (infoB c) p.f8) with
        | true =>
          simp only [if_true]
          exact Ev_const rfl
        | false =>
          simp only [Bool.false_eq_true, if_false]
          exact Ev_const rfl
theorem ins_ev (p : S27) (a : S24) (c : ByteArray) (hc : c.size ≤ 400) (hl : p.f8.length ≤ 41) (ok : ∀ x ∈ p.f8, x.f1.size ≤ 1100) : Ev (fun k => relay_Insert.f k p.f0 p.f1 p.f2 p.f3 p.f4.f0 p.f4.f1 p.f4.f2 p.f5.f0 p.f5.f1 p.f5.f2 p.f6.f0 p.f6.f1 p.f6.f2 p.f7 p.f8 a.f0 a.f1 a.f2 c) (t27e (insV p a c).1 (insV p a c).2) := by
  unfold relay_Insert.f addr_Valid.f
  cases h0 : a.f0 with
  | true =>
    simp only [if_true]
    have := ins_j p a c hc hl ok true (by simp [goodA, h0])
    rw [h0] at this
    exact this
  | false =>
    simp only [Bool.false_eq_true, if_false]
    by_cases h1 : a.f1 = 0
    · simp only [if_pos h1, Option.bind_some]
      have := ins_j p a c hc hl ok (!decide (a.f2 ≤ 4294967295)) (by simp [goodA, h0, h1])
      rw [h0] at this
      exact this
    · simp only [if_neg h1, Option.bind_some]
      have := ins_j p a c hc hl ok (!false) (by simp [goodA, h0, h1])
      rw [h0] at this
      exact this
theorem rins_j (p : S27) (a : S24) (c : ByteArray) (hc : c.size ≤ 400) (hl : p.f8.length ≤ 41) (ok : ∀ x ∈ p.f8, x.f1.size ≤ 1100) (b : Bool) (hb : b = !goodA a) : Ev (fun k => ddiref39_Insert.j0 k c b p.f0 p.f1 p.f2 p.f3 p.f4.f0 p.f4.f1 p.f4.f2 p.f5.f0 p.f5.f1 p.f5.f2 p.f6.f0 p.f6.f1 p.f6.f2 p.f7 p.f8 a.f0 a.f1 a.f2) (t27e (insV p a c).1 (insV p a c).2) := by
  unfold insV
  cases hg : goodA a with
  | false =>
    rw [hg] at hb
    subst hb
    refine Ev_shift 1 (f := fun _ => some (t27e zeroP 3)) (fun k => ?_) (Ev_const rfl)
    rw [ddiref39_Insert.j0]
    rfl
  | true =>
    rw [hg] at hb
    subst hb
    simp only [if_true]
    refine Ev_shift 1 (fun k => by rw [ddiref39_Insert.j0, if_neg (by decide)]) ?_
    cases h7 : p.f7 with
    | true =>
      simp only [if_true]
      exact Ev_const rfl
    | false =>
      simp only [Bool.false_eq_true, if_false]
      by_cases h255 : (c.size : Int) > 255
      · simp only [if_pos h255]
        exact Ev_const rfl
      · simp only [if_neg h255]
        have hs : (strOfNums ([1, (c.size : Int) % 256] : List Int)).size + c.size ≤ 9223372036854775807 := by
          rw [strOfNums_size, List.length_cons, List.length_cons, List.length_nil]
          omega
        simp only [Option.bind_some, if_pos hs]
        refine Ev.bind (rput_ev p.f8 (by omega) 82 (infoB c)) ?_
        have hlen := putV_len 82 (infoB c) p.f8
        have hsz := putV_sizes c hc p.f8 ok
        refine Ev.bind (rvalid_ev (putV 82 (infoB c) p.f8) (by omega) (fun x hx => by have := hsz x hx; omega)) ?_
        cases hv : validO (putV 82 (infoB c) p.f8) with
        | true =>
          simp only [if_true]
          exact Ev_const rfl
        | false =>
          simp only [Bool.false_eq_true, if_false]
          exact Ev_const rfl
theorem rins_ev (p : S27) (a : S24) (c : ByteArray) (hc : c.size ≤ 400) (hl : p.f8.length ≤ 41) (ok : ∀ x ∈ p.f8, x.f1.size ≤ 1100) : Ev (fun k => ddiref39_Insert.f k p.f0 p.f1 p.f2 p.f3 p.f4.f0 p.f4.f1 p.f4.f2 p.f5.f0 p.f5.f1 p.f5.f2 p.f6.f0 p.f6.f1 p.f6.f2 p.f7 p.f8 a.f0 a.f1 a.f2 c) (t27e (insV p a c).1 (insV p a c).2) := by
  unfold ddiref39_Insert.f ddiref02_Valid.f
  cases h0 : a.f0 with
  | true =>
    simp only [if_true, Option.bind_some]
    have := rins_j p a c hc hl ok true (by simp [goodA, h0])
    rw [h0] at this
    exact this
  | false =>
    simp only [Bool.false_eq_true, if_false]
    by_cases h1 : a.f1 = 0
    · simp only [if_pos h1, Option.bind_some]
      by_cases h2 : a.f2 < 4294967296
      · rw [decide_eq_true h2]
        simp only [if_true]
        have := rins_j p a c hc hl ok false (by simp [goodA, h0, h1]; omega)
        rw [h0] at this
        exact this
      · rw [decide_eq_false h2]
        simp only [Bool.false_eq_true, if_false]
        have := rins_j p a c hc hl ok true (by simp [goodA, h0, h1]; omega)
        rw [h0] at this
        exact this
    · simp only [if_neg h1, Option.bind_some, Bool.false_eq_true, if_false]
      have := rins_j p a c hc hl ok true (by simp [goodA, h0, h1])
      rw [h0] at this
      exact this
theorem insV_len (p : S27) (a : S24) (c : ByteArray) : (insV p a c).1.f8.length ≤ p.f8.length + 1 := by
  have h := putV_len 82 (infoB c) p.f8
  unfold insV
  split
  · split
    · simp [zeroP]
    · split
      · simp [zeroP]
      · split
        · exact h
        · simp [zeroP]
  · simp [zeroP]
theorem strip_len (p : S27) : (stripP p).f8.length ≤ p.f8.length := List.length_filter_le _ _
theorem wake_ev : Ev (fun k => ddilaw39_awake.f k) true := ⟨60, fun k hk => at_rounds ddilaw39_awake.mono hk (by decide +kernel)⟩
theorem relayInserts : ddilaw39_RelayInserts.Pure := by
  intro a0_0 a0_1 a0_2 a0_3 a0_4 a0_5 a0_6 a0_7 a0_8 a0_9 a0_10 a0_11 a0_12 a0_13 l0_14 a1_0 a1_1 a1_2 a2 hp ha hs
  obtain ⟨P, hP⟩ : ∃ P : S27, P = ⟨a0_0, a0_1, a0_2, a0_3, ⟨a0_4, a0_5, a0_6⟩, ⟨a0_7, a0_8, a0_9⟩, ⟨a0_10, a0_11, a0_12⟩, a0_13, l0_14⟩ := ⟨_, rfl⟩
  have hl : P.f8.length ≤ 140737488351232 := by
    have := hp.2.2.2.2.2.2.2.2.1
    rw [hP]
    simp only at this ⊢
    omega
  obtain ⟨h1, h2, h3⟩ := mnl a2.size 400
  have h1' : 0 ≤ mn (a2.size : Int) 400 := h1
  have h2' : mn (a2.size : Int) 400 ≤ (a2.size : Int) := h2
  have h3' : (mn (a2.size : Int) 400).toNat = min a2.size 400 := h3
  have hcs := cut_size 400 a2
  obtain ⟨c, hc⟩ : ∃ c, c = a2.extract 0 (min a2.size 400) := ⟨_, rfl⟩
  rw [← hc] at hcs
  obtain ⟨hlen, hsz⟩ := shortO_ok P.f8
  refine Ev.rounds ?_
  have e1 := short_ev P hl
  obtain ⟨Q, hQ⟩ : ∃ Q, Q = shortP P := ⟨_, rfl⟩
  have hQ8 : Q.f8 = shortO P.f8 := by rw [hQ]; rfl
  rw [← hQ8] at hlen hsz
  rw [← hQ] at e1
  unfold ddilaw39_RelayInserts.f
  simp only [if_pos h1', if_pos h2', h3', ← hc]
  rw [hP] at e1
  refine Ev.bind e1 ?_
  refine Ev.bind (ins_ev Q ⟨a1_0, a1_1, a1_2⟩ c hcs (by omega) hsz) ?_
  refine Ev.bind (rins_ev Q ⟨a1_0, a1_1, a1_2⟩ c hcs (by omega) hsz) ?_
  refine Ev.bind (circ_ev Q (by omega)) ?_
  refine Ev.bind (rcirc_ev Q (by omega)) ?_
  have hil := insV_len Q ⟨a1_0, a1_1, a1_2⟩ c
  refine Ev.bind (same_ev (insV Q ⟨a1_0, a1_1, a1_2⟩ c).1 (by omega)) ?_
  simp only [if_true, beq_self_eq_true]
  refine Ev.bind (strip_ev Q (by omega)) ?_
  refine Ev.bind (rstrip_ev Q (by omega)) ?_
  have hsl := strip_len Q
  refine Ev.bind (same_ev (stripP Q) (by omega)) ?_
  simp only [if_true]
  exact Ev.bind wake_ev (Ev_const rfl)
end Go.Proofs.YtngfffoeaghhhaaDoor.Ma
namespace Go.Proofs.YtngfffoeaghhhaaDoor.Pure
theorem RelayInserts : QA.ddilaw39_RelayInserts.Pure := Ma.relayInserts
end Go.Proofs.YtngfffoeaghhhaaDoor.Pure
