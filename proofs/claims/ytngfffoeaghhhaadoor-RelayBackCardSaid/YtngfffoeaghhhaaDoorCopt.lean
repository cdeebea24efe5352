/- DHCP options: the program's and the reference's Find, Valid and Put are one (no condition but the sizes). -/
import Derived.Test.YtngfffoeaghhhaaDoorQAd1
import Derived.Test.YtngfffoeaghhhaaDoorXP
namespace Go.Proofs.YtngfffoeaghhhaaDoor.Cm
open Go.RowKit Go.Proofs.YtngfffoeaghhhaaDoorW.PrintWords Go.Proofs.YtngfffoeaghhhaaDoorW.PrintLast Go.Proofs.YtngfffoeaghhhaaDoorW.PrintMore Go.Proofs.YtngfffoeaghhhaaDoor.XP Go.Proofs.YtngfffoeaghhhaaDoor.QA
set_option linter.unusedVariables false
set_option linter.unusedSimpArgs false
theorem rdOpt (l : List S59) (i : Nat) (x : S59) (r : List S59) (h : l.drop i = x :: r) : i < l.length ∧ rd_T59 l (i : Int) = x ∧ l.drop (i + 1) = r := by
  obtain ⟨hi, hx, hr⟩ := drop_at h
  exact ⟨hi, by simp [rd_T59, List.getD_eq_getElem?_getD, List.getElem?_eq_getElem hi, hx], hr⟩
theorem take_snoc {α : Type} {l : List α} {i : Nat} {x : α} {r : List α} (h : l.drop i = x :: r) : l.take (i + 1) = l.take i ++ [x] := by
  obtain ⟨hi, hx, hr⟩ := drop_at h
  rw [List.take_succ_eq_append_getElem hi, hx]
theorem set_drop {α : Type} {l : List α} {i : Nat} {x : α} {r : List α} (h : l.drop i = x :: r) (y : α) : l.set i y = l.take i ++ y :: r := by
  obtain ⟨hi, hx, hr⟩ := drop_at h
  rw [List.set_eq_take_append_cons_drop, if_pos hi, hr]
def findV (c : Int) : List S59 → ByteArray × Bool
  | [] => ((⟨#[]⟩ : ByteArray), false)
  | x :: r => if x.f0 = c then (x.f1, true) else findV c r
theorem find_from (l : List S59) (hl : l.length ≤ 140737488351232) (c : Int) : ∀ (r : List S59) (i : Nat), l.drop i = r → Ev (fun k => option_Find.l0 k c l (l.length : Int) (i : Int)) (findV c r)
  | [], i, h => by
    have := drop_end h
    refine Ev_shift 1 (f := fun _ => some ((⟨#[]⟩ : ByteArray), false)) (fun k => ?_) (Ev_const rfl)
    rw [option_Find.l0, if_neg (by omega)]
  | x :: r, i, h => by
    obtain ⟨hi, hx, hr⟩ := rdOpt l i x r h
    have ih := find_from l hl c r (i + 1) hr
    by_cases hc : x.f0 = c
    · refine Ev_shift 1 (f := fun _ => some (x.f1, true)) (fun k => ?_) (Ev_const (by rw [findV, if_pos hc]))
      rw [option_Find.l0, if_pos (by omega), if_pos (by omega), if_pos (by omega), hx, if_pos hc]
    · rw [findV, if_neg hc]
      refine Ev_shift 1 (fun k => ?_) ih
      rw [option_Find.l0, if_pos (by omega), if_pos (by omega), if_pos (by omega), hx, if_neg hc, next i l.length hi (by omega)]
theorem find_ev (l : List S59) (hl : l.length ≤ 140737488351232) (c : Int) : Ev (fun k => option_Find.f k l c) (findV c l) := by
  unfold option_Find.f
  exact find_from l hl c l 0 rfl
def okO (x : S59) : Bool := (decide (1 ≤ x.f0) && decide (x.f0 ≤ 254)) && decide (x.f1.size ≤ 1024)
def vO : List S59 → List S59 → Bool
  | _, [] => true
  | pre, x :: r => !(findV x.f0 pre).2 && (okO x && vO (pre ++ [x]) r)
def sumO : List S59 → Nat
  | [] => 0
  | x :: r => x.f1.size + sumO r
def validO (l : List S59) : Bool := decide (l.length ≤ 32) && (decide (sumO l ≤ 4096) && vO [] l)
theorem sumO_le (b : Nat) : ∀ l : List S59, (∀ x ∈ l, x.f1.size ≤ b) → sumO l ≤ l.length * b
  | [], _ => by simp [sumO]
  | x :: r, h => by
    have h1 := sumO_le b r (fun y hy => h y (List.mem_cons_of_mem _ hy))
    have h2 := h x List.mem_cons_self
    rw [sumO, List.length_cons, Nat.succ_mul]
    omega
theorem size_from (l : List S59) (hl : l.length ≤ 140737488351232) : ∀ (r : List S59) (i s : Nat), l.drop i = r → s + sumO r ≤ 9000000000000000 → Ev (fun k => option_size.l0 k (s : Int) l (l.length : Int) (i : Int)) ((s + sumO r : Nat) : Int)
  | [], i, s, h, _ => by
    have := drop_end h
    refine Ev_shift 1 (f := fun _ => some (s : Int)) (fun k => ?_) (Ev_const rfl)
    rw [option_size.l0, if_neg (by omega)]
  | x :: r, i, s, h, hb => by
    obtain ⟨hi, hx, hr⟩ := rdOpt l i x r h
    rw [sumO] at hb
    have ih := size_from l hl r (i + 1) (s + x.f1.size) hr (by omega)
    rw [sumO, ← Nat.add_assoc]
    refine Ev_shift 1 (fun k => ?_) ih
    have hw : wrap64 ((s : Int) + (x.f1.size : Int)) = ((s + x.f1.size : Nat) : Int) := by rw [wrap_id (by omega) (by omega), Int.natCast_add]
    rw [option_size.l0, if_pos (by omega), if_pos (by omega), if_pos (by omega), hx, next i l.length hi (by omega), hw]
theorem isCode_v (n : Int) : option_isCode.f n = some (decide (1 ≤ n) && decide (n ≤ 254)) := by
  unfold option_isCode.f
  by_cases h : n ≥ 1
  · rw [if_pos h, decide_eq_true (show 1 ≤ n from h), Bool.true_and]
  · rw [if_neg h, decide_eq_false (show ¬ 1 ≤ n from h), Bool.false_and]
theorem valid_from (l : List S59) (hl : l.length ≤ 140737488351232) : ∀ (r : List S59) (i : Nat), l.drop i = r → Ev (fun k => option_Valid.l0 k l l (l.length : Int) (i : Int)) (vO (l.take i) r)
  | [], i, h => by
    have := drop_end h
    refine Ev_shift 1 (f := fun _ => some true) (fun k => ?_) (Ev_const rfl)
    rw [option_Valid.l0, if_neg (by omega)]
  | x :: r, i, h => by
    obtain ⟨hi, hx, hr⟩ := rdOpt l i x r h
    have ih := valid_from l hl r (i + 1) hr
    rw [take_snoc h] at ih
    have hj : ∀ b : Bool, b = !(!(findV x.f0 (l.take i)).2 && okO x) → Ev (fun k => option_Valid.j2 k l l (l.length : Int) (i : Int) b) (vO (l.take i) (x :: r)) := by
      intro b hb
      rw [vO, ← Bool.and_assoc]
      cases hk : (!(findV x.f0 (l.take i)).2 && okO x) with
      | false =>
        rw [hk] at hb
        subst hb
        refine Ev_shift 1 (f := fun _ => some false) (fun k => ?_) (Ev_const rfl)
        rw [option_Valid.j2]
        rfl
      | true =>
        rw [hk] at hb
        subst hb
        rw [Bool.true_and]
        refine Ev_shift 1 (fun k => ?_) ih
        rw [option_Valid.j2, next i l.length hi (by omega)]
        rfl
    refine Ev_shift 1 (fun k => by rw [option_Valid.l0, if_pos (by omega), if_pos (by omega), if_pos (by omega), if_pos (by omega), hx, Int.toNat_natCast]) ?_
    refine Ev.bind (find_ev (l.take i) (by rw [List.length_take]; omega) x.f0) ?_
    cases hf : (findV x.f0 (l.take i)).2 with
    | true =>
      simp only [if_true]
      exact hj true (by rw [hf]; rfl)
    | false =>
      simp only [Bool.false_eq_true, if_false]
      simp only [isCode_v, Option.bind_some]
      rw [hf] at hj
      cases hc : (decide (1 ≤ x.f0) && decide (x.f0 ≤ 254)) with
      | true =>
        simp only [if_true]
        refine hj _ ?_
        unfold okO
        rw [hc]
        by_cases hz : x.f1.size ≤ 1024
        · rw [decide_eq_true hz, decide_eq_false (by omega)]; rfl
        · rw [decide_eq_false hz, decide_eq_true (by omega)]; rfl
      | false =>
        simp only [Bool.false_eq_true, if_false]
        refine hj true ?_
        unfold okO
        rw [hc]
        rfl
theorem valid_ev (l : List S59) (hl : l.length ≤ 140737488351232) (ok : ∀ x ∈ l, x.f1.size ≤ 140737488351232) : Ev (fun k => option_Valid.f k l) (validO l) := by
  unfold option_Valid.f validO
  by_cases h : l.length ≤ 32
  · have h2 := sumO_le 140737488351232 l ok
    have h3 : l.length * 140737488351232 ≤ 32 * 140737488351232 := Nat.mul_le_mul_right _ h
    simp only [if_neg (show ¬ (l.length : Int) > 32 by omega), decide_eq_true h, Bool.true_and]
    have hs := size_from l hl l 0 0 rfl (by omega)
    rw [Nat.zero_add] at hs
    refine Ev.bind (a := (sumO l : Int)) hs ?_
    by_cases h4 : sumO l ≤ 4096
    · rw [decide_eq_true h4, Bool.true_and, decide_eq_false (show ¬ (sumO l : Int) > 4096 by omega)]
      refine Ev_shift 1 (fun k => ?_) (valid_from l hl l 0 rfl)
      rw [option_Valid.j0]
      rfl
    · rw [decide_eq_false h4, Bool.false_and, decide_eq_true (show (sumO l : Int) > 4096 by omega)]
      refine Ev_shift 1 (f := fun _ => some false) (fun k => ?_) (Ev_const rfl)
      rw [option_Valid.j0]
      rfl
  · simp only [if_pos (show (l.length : Int) > 32 by omega), decide_eq_false h, Bool.false_and]
    refine Ev_shift 1 (f := fun _ => some false) (fun k => ?_) (Ev_const rfl)
    rw [option_Valid.j0]
    rfl
def repl (c : Int) (v : ByteArray) : List S59 → List S59
  | [] => [⟨c, v⟩]
  | x :: r => if x.f0 = c then ⟨x.f0, v⟩ :: r else x :: repl c v r
def putV (c : Int) (v : ByteArray) (l : List S59) : List S59 := if (decide (1 ≤ c) && decide (c ≤ 254)) = true then repl c v l else l
theorem put_from (l : List S59) (hl : l.length < 5864062014805) (c : Int) (v : ByteArray) : ∀ (r : List S59) (i : Nat), l.drop i = r → Ev (fun k => option_Put.l0 k c v l (l.length : Int) (i : Int)) (l.take i ++ repl c v r)
  | [], i, h => by
    have := drop_end h
    refine Ev_shift 1 (f := fun _ => some (l ++ [⟨c, v⟩])) (fun k => ?_) (Ev_const ?_)
    · rw [option_Put.l0, if_neg (by omega), if_pos hl]
    · rw [List.take_of_length_le this, repl]
  | x :: r, i, h => by
    obtain ⟨hi, hx, hr⟩ := rdOpt l i x r h
    have ih := put_from l hl c v r (i + 1) hr
    rw [take_snoc h] at ih
    by_cases hc : x.f0 = c
    · refine Ev_shift 1 (f := fun _ => some (l.take i ++ ⟨x.f0, v⟩ :: r)) (fun k => ?_) (Ev_const (by rw [repl, if_pos hc]))
      rw [option_Put.l0, if_pos (by omega), if_pos (by omega), if_pos (by omega), hx, if_pos hc, Int.toNat_natCast, set_drop h]
    · rw [repl, if_neg hc]
      rw [List.append_assoc, List.singleton_append] at ih
      refine Ev_shift 1 (fun k => ?_) ih
      rw [option_Put.l0, if_pos (by omega), if_pos (by omega), if_pos (by omega), hx, if_neg hc, next i l.length hi (by omega)]
theorem put_ev (l : List S59) (hl : l.length < 5864062014805) (c : Int) (v : ByteArray) : Ev (fun k => option_Put.f k l c v) (putV c v l) := by
  unfold option_Put.f putV
  simp only [List.nil_append, List.length_nil, Nat.zero_add, if_pos hl, Option.bind_some, isCode_v]
  cases hc : (decide (1 ≤ c) && decide (c ≤ 254)) with
  | false =>
    simp only [Bool.false_eq_true, if_false]
    exact Ev_const rfl
  | true =>
    simp only [if_true]
    exact put_from l hl c v l 0 rfl
theorem repl_len (c : Int) (v : ByteArray) : ∀ l : List S59, (repl c v l).length ≤ l.length + 1
  | [] => by simp [repl]
  | x :: r => by
    rw [repl]
    split
    · simp
    · have := repl_len c v r
      simp only [List.length_cons]
      omega
theorem putV_len (c : Int) (v : ByteArray) (l : List S59) : (putV c v l).length ≤ l.length + 1 := by
  unfold putV
  split
  · exact repl_len c v l
  · omega
theorem repl_mem (c : Int) (v : ByteArray) : ∀ (l : List S59) (x : S59), x ∈ repl c v l → x ∈ l ∨ (x.f0 = c ∧ x.f1 = v)
  | [], x, h => by
    rw [repl, List.mem_singleton] at h
    subst h
    exact .inr ⟨rfl, rfl⟩
  | y :: r, x, h => by
    rw [repl] at h
    split at h
    · rename_i hy
      rcases List.mem_cons.1 h with h1 | h1
      · subst h1
        exact .inr ⟨hy, rfl⟩
      · exact .inl (List.mem_cons_of_mem _ h1)
    · rcases List.mem_cons.1 h with h1 | h1
      · subst h1
        exact .inl List.mem_cons_self
      · rcases repl_mem c v r x h1 with h2 | h2
        · exact .inl (List.mem_cons_of_mem _ h2)
        · exact .inr h2
theorem putV_mem (c : Int) (v : ByteArray) (l : List S59) (x : S59) (h : x ∈ putV c v l) : x ∈ l ∨ (x.f0 = c ∧ x.f1 = v) := by
  unfold putV at h
  split at h
  · exact repl_mem c v l x h
  · exact .inl h
end Go.Proofs.YtngfffoeaghhhaaDoor.Cm
