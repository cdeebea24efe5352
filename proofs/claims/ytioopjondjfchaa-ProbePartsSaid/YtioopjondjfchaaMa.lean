/- Tables of probes: a table's check, the program's and the reference's (no condition but the sizes). -/
import Derived.Test.YtioopjondjfchaaQAd1
import Derived.Test.YtioopjondjfchaaCadr
namespace Go.Proofs.Ytioopjondjfchaa.Ma
open Go.RowKit Go.Proofs.YtioopjondjfchaaW.PrintWords Go.Proofs.YtioopjondjfchaaW.PrintLast Go.Proofs.YtioopjondjfchaaW.PrintMore Go.Proofs.Ytioopjondjfchaa.XP Go.Proofs.Ytioopjondjfchaa.QA Go.Proofs.Ytioopjondjfchaa.Cm
set_option linter.unusedVariables false
set_option linter.unusedSimpArgs false
def adB (x : S28) : Bool := x.f0 || (decide (x.f1 = 0) && decide (x.f2 ≤ 4294967295))
theorem ad_v (x : S28) : addr_Valid.f x.f0 x.f1 x.f2 = some (adB x) := by
  unfold addr_Valid.f adB
  by_cases h : x.f0 = true
  · rw [if_pos h, h]; rfl
  · have : x.f0 = false := by simpa using h
    rw [if_neg h, this, Bool.false_or]
    by_cases h1 : x.f1 = 0
    · rw [if_pos h1, decide_eq_true h1, Bool.true_and]
    · rw [if_neg h1, decide_eq_false h1]; rfl
theorem rad_v (x : S28) : ddiref02_Valid.f x.f0 x.f1 x.f2 = some (adB x) := by
  rw [← ad_v]
  unfold ddiref02_Valid.f addr_Valid.f
  split
  · rfl
  · split
    · congr 1
      rw [Bool.eq_iff_iff]
      simp
      omega
    · rfl
/-- The same probe, as the reference has it. -/
def cv (x : S33) : S54 := ⟨x.f0, x.f1, x.f2, x.f3⟩
theorem rd33 (l : List S33) (i : Nat) (x : S33) (r : List S33) (h : l.drop i = x :: r) : i < l.length ∧ rd_T33 l (i : Int) = x ∧ l.drop (i + 1) = r := by
  obtain ⟨hi, hx, hr⟩ := drop_at h
  refine ⟨hi, ?_, hr⟩
  simp [rd_T33, List.getD_eq_getElem?_getD, List.getElem?_eq_getElem hi, hx]
theorem rd54 (l : List S33) (i : Nat) (x : S33) (r : List S33) (h : l.drop i = x :: r) : i < (l.map cv).length ∧ rd_T54 (l.map cv) (i : Int) = cv x ∧ l.drop (i + 1) = r := by
  obtain ⟨hi, hx, hr⟩ := drop_at h
  refine ⟨by rw [List.length_map]; exact hi, ?_, hr⟩
  simp [rd_T54, List.getD_eq_getElem?_getD, List.getElem?_eq_getElem hi, hx]
theorem rdAt (l : List S33) (q : Nat) (h : q < l.length) : rd_T33 l (q : Int) = l[q] := by
  simp [rd_T33, List.getD_eq_getElem?_getD, List.getElem?_eq_getElem h]
theorem rdAt54 (l : List S33) (q : Nat) (h : q < l.length) : rd_T54 (l.map cv) (q : Int) = cv l[q] := by
  simp [rd_T54, List.getD_eq_getElem?_getD, List.getElem?_eq_getElem h]
theorem model_from (l : List S33) (hl : l.length ≤ 600) : ∀ (r : List S33) (i : Nat), l.drop i = r → Ev (fun k => ddilaw40_model.l0 k l ((l.take i).map cv) (i : Int)) (l.map cv)
  | [], i, h => by
    have := drop_end h
    refine Ev_shift 1 (f := fun _ => some (l.map cv)) (fun k => ?_) (Ev_const rfl)
    rw [ddilaw40_model.l0, if_neg (by omega), List.take_of_length_le (by omega)]
  | x :: r, i, h => by
    obtain ⟨hi, hx, hr⟩ := rd33 l i x r h
    have ih := model_from l hl r (i + 1) hr
    have hlen : ((l.take i).map cv).length < 733007751850 := by rw [List.length_map, List.length_take]; omega
    refine Ev_shift 1 (fun k => ?_) ih
    rw [ddilaw40_model.l0, if_pos (by omega), if_pos (by omega), if_pos hlen, next i l.length hi (by omega), hx]
    have hx2 : l[i] = x := by rw [← rdAt l i hi]; exact hx
    rw [List.take_succ_eq_append_getElem hi, List.map_append, hx2]
    rfl
theorem model_ev (l : List S33) (hl : l.length ≤ 600) : Ev (fun k => ddilaw40_model.f k l) (l.map cv) := by
  unfold ddilaw40_model.f
  exact model_from l hl l 0 rfl
def upB : Option S28 → S28 → Bool
  | none, _ => true
  | some p, a => decide (cmp p a < 0)
def chk (p : Option S28) : List S33 → Int
  | [] => 0
  | x :: r => if adB x.f0 = true then (if upB p x.f0 = true then chk (some x.f0) r else 7) else 3
theorem check_from (l : List S33) (hl : l.length ≤ 140737488351232) : ∀ (r : List S33) (i : Nat) (p : Option S28), l.drop i = r → (i = 0 → p = none) → (∀ j : Nat, i = j + 1 → p = some (rd_T33 l (j : Int)).f0) → Ev (fun k => probe_Check.l0 k l l (l.length : Int) (i : Int)) (chk p r)
  | [], i, p, h, _, _ => by
    have := drop_end h
    exact Ev_shift 1 (f := fun _ => some 0) (fun k => by rw [probe_Check.l0, if_neg (by omega)]) (Ev_const rfl)
  | x :: r, i, p, h, hp0, hp1 => by
    obtain ⟨hi, hx, hr⟩ := rd33 l i x r h
    have ih := check_from l hl r (i + 1) (some x.f0) hr (fun e => by omega) (fun j e => by
      have : j = i := by omega
      rw [this, hx])
    rw [← next i l.length hi (by omega)] at ih
    unfold chk
    cases had : adB x.f0 with
    | false => exact Ev_shift 1 (f := fun _ => some 3) (fun k => by rw [probe_Check.l0, if_pos (by omega), if_pos (by omega), if_pos (by omega), hx, ad_v, had]; rfl) (Ev_const rfl)
    | true =>
      rw [if_pos rfl]
      have h1 : ∀ b : Bool, b = !upB p x.f0 → Ev (fun k => probe_Check.j1 k l l (l.length : Int) (i : Int) b) (if upB p x.f0 = true then chk (some x.f0) r else 7) := by
        rintro b rfl
        cases upB p x.f0 with
        | false => exact Ev_shift 1 (f := fun _ => some 7) (fun k => by rw [probe_Check.j1, Bool.not_false, if_pos rfl]) (Ev_const rfl)
        | true => exact Ev_shift 1 (fun k => by rw [probe_Check.j1, Bool.not_true, if_neg Bool.false_ne_true]) ih
      cases i with
      | zero =>
        refine Ev_shift 1 (fun k => by rw [probe_Check.l0, if_pos (by omega), if_pos (by omega), if_pos (by omega), hx, ad_v, had, Option.bind_some, if_pos rfl, if_neg (by omega)]) ?_
        exact h1 false (by rw [hp0 rfl]; rfl)
      | succ j =>
        have hpj := hp1 j rfl
        have hj : (wrap64 (((j + 1 : Nat) : Int) - 1)) = (j : Int) := by rw [wrap_id (by omega) (by omega)]; omega
        have e0 : (0 : Int) ≤ (j : Int) := by omega
        have e1 : (j : Int) < (l.length : Int) := by omega
        have e2 : ((j + 1 : Nat) : Int) > 0 := by omega
        refine Ev_shift 1 (fun k => by rw [probe_Check.l0, if_pos (by omega), if_pos (by omega), if_pos (by omega), hx, ad_v, had, Option.bind_some, if_pos rfl, if_pos e2, hj, if_pos e0, if_pos e1]) ?_
        refine Ev.bind (ucmp (rd_T33 l (j : Int)).f0 x.f0) ?_
        refine h1 _ ?_
        rw [hpj]
        unfold upB
        rw [Bool.eq_iff_iff]
        simp
theorem rcheck_from (l : List S33) (hl : l.length ≤ 140737488351232) : ∀ (r : List S33) (i : Nat) (p : Option S28), l.drop i = r → (i = 0 → p = none) → (∀ j : Nat, i = j + 1 → p = some (rd_T33 l (j : Int)).f0) → Ev (fun k => ddiref40_Check.l0 k (l.map cv) (i : Int)) (chk p r)
  | [], i, p, h, _, _ => by
    have := drop_end h
    exact Ev_shift 1 (f := fun _ => some 0) (fun k => by rw [ddiref40_Check.l0, if_neg (by rw [List.length_map]; omega)]) (Ev_const rfl)
  | x :: r, i, p, h, hp0, hp1 => by
    obtain ⟨hi, hx, hr⟩ := rd33 l i x r h
    obtain ⟨_, hx5, _⟩ := rd54 l i x r h
    have ih := rcheck_from l hl r (i + 1) (some x.f0) hr (fun e => by omega) (fun j e => by
      have : j = i := by omega
      rw [this, hx])
    rw [← next i l.length hi (by omega)] at ih
    have hlm : ((l.map cv).length : Int) = (l.length : Int) := by rw [List.length_map]
    unfold chk
    cases had : adB x.f0 with
    | false => exact Ev_shift 1 (f := fun _ => some 3) (fun k => by rw [ddiref40_Check.l0, hlm, if_pos (by omega), if_pos (by omega), hx5, show (cv x).f0 = x.f0 from rfl, rad_v, had]; rfl) (Ev_const rfl)
    | true =>
      rw [if_pos rfl]
      have h1 : ∀ b : Bool, b = !upB p x.f0 → Ev (fun k => ddiref40_Check.j1 k (l.map cv) (i : Int) b) (if upB p x.f0 = true then chk (some x.f0) r else 7) := by
        rintro b rfl
        cases upB p x.f0 with
        | false => exact Ev_shift 1 (f := fun _ => some 7) (fun k => by rw [ddiref40_Check.j1, Bool.not_false, if_pos rfl]) (Ev_const rfl)
        | true => exact Ev_shift 1 (fun k => by rw [ddiref40_Check.j1, Bool.not_true, if_neg Bool.false_ne_true]) ih
      cases i with
      | zero =>
        refine Ev_shift 1 (fun k => by rw [ddiref40_Check.l0, hlm, if_pos (by omega), if_pos (by omega), hx5, show (cv x).f0 = x.f0 from rfl, rad_v, had, Option.bind_some, if_pos rfl, if_neg (by omega)]) ?_
        exact h1 false (by rw [hp0 rfl]; rfl)
      | succ j =>
        have hpj := hp1 j rfl
        have hj : (wrap64 (((j + 1 : Nat) : Int) - 1)) = (j : Int) := by rw [wrap_id (by omega) (by omega)]; omega
        have e0 : (0 : Int) ≤ (j : Int) := by omega
        have e1 : (j : Int) < (l.length : Int) := by omega
        have e2 : ((j + 1 : Nat) : Int) > 0 := by omega
        have hjl : j < l.length := by omega
        refine Ev_shift 1 (fun k => by rw [ddiref40_Check.l0, hlm, if_pos (by omega), if_pos (by omega), hx5, show (cv x).f0 = x.f0 from rfl, rad_v, had, Option.bind_some, if_pos rfl, if_pos e2, hj, if_pos e0, if_pos e1, rdAt54 l j hjl, show (cv l[j]).f0 = l[j].f0 from rfl, rcmp, Option.bind_some]) ?_
        refine h1 _ ?_
        rw [hpj, rdAt l j hjl]
        unfold upB
        rw [Bool.eq_iff_iff]
        simp
/-- The check of a table. -/
def chkT (l : List S33) : Int := if l.length > 512 then 9 else chk none l
theorem check_ev (l : List S33) (hl : l.length ≤ 140737488351232) : Ev (fun k => probe_Check.f k l) (chkT l) := by
  unfold probe_Check.f chkT
  by_cases h : l.length > 512
  · simp only [if_pos h, if_pos (show (l.length : Int) > 512 by omega)]
    exact Ev_const rfl
  · simp only [if_neg h, if_neg (show ¬ (l.length : Int) > 512 by omega)]
    exact check_from l hl l 0 none rfl (fun _ => rfl) (fun j e => by omega)
theorem rcheck_ev (l : List S33) (hl : l.length ≤ 140737488351232) : Ev (fun k => ddiref40_Check.f k (l.map cv)) (chkT l) := by
  unfold ddiref40_Check.f chkT
  by_cases h : l.length > 512
  · simp only [if_pos h, if_pos (show ((l.map cv).length : Int) > 512 by rw [List.length_map]; omega)]
    exact Ev_const rfl
  · simp only [if_neg h, if_neg (show ¬ ((l.map cv).length : Int) > 512 by rw [List.length_map]; omega)]
    exact rcheck_from l hl l 0 none rfl (fun _ => rfl) (fun j e => by omega)
end Go.Proofs.Ytioopjondjfchaa.Ma
