/- The lease table's check: the program's and the reference's are one test (no condition but the sizes). -/
import Derived.Test.YtpcjablkjaiapaaDoorQAd1
import Derived.Test.YtpcjablkjaiapaaDoorMa
namespace Go.Proofs.YtpcjablkjaiapaaDoor.Ma
open Go.RowKit Go.Proofs.YtpcjablkjaiapaaDoorW.PrintWords Go.Proofs.YtpcjablkjaiapaaDoorW.PrintLast Go.Proofs.YtpcjablkjaiapaaDoorW.PrintMore Go.Proofs.YtpcjablkjaiapaaDoor.XP Go.Proofs.YtpcjablkjaiapaaDoor.QA Go.Proofs.YtpcjablkjaiapaaDoor.Cm
set_option linter.unusedVariables false
set_option linter.unusedSimpArgs false
theorem rd27 (l : List S27) (i : Nat) (x : S27) (r : List S27) (h : l.drop i = x :: r) : i < l.length ∧ rd_T27 l (i : Int) = x ∧ l.drop (i + 1) = r := by
  obtain ⟨hi, hx, hr⟩ := drop_at h
  refine ⟨hi, ?_, hr⟩
  simp [rd_T27, List.getD_eq_getElem?_getD, List.getElem?_eq_getElem hi, hx]
theorem one_true (x : S27) (h1 : adB x.f0 = true) : one x = if argB x = true then (if hostB x.f5 = true then 0 else 2) else 1 := by
  unfold one
  rw [if_pos h1]
theorem j3_ev (l : List S27) (n i : Int) (x : S27) (hx : okS27 x) (R : Int) (hR : Ev (fun k => lease_Check.l0 k l l n (wrap64 (i + 1))) R) (b : Bool) : Ev (fun k => lease_Check.j3 k l l n i b x.f0.f0 x.f0.f1 x.f0.f2 x.f1 x.f2 x.f3 x.f4 x.f5 x.f6) (if b = true then 1 else (if hostB x.f5 = true then R else 2)) := by
  cases b with
  | true => exact Ev_shift 1 (f := fun _ => some 1) (fun k => by rw [lease_Check.j3, if_pos rfl]) (Ev_const rfl)
  | false =>
    refine Ev_shift 1 (fun k => by rw [lease_Check.j3, if_neg Bool.false_ne_true]) ?_
    refine Ev.bind (host_ev x.f5 hx.2.2.2.2.2.1) ?_
    cases hostB x.f5 with
    | false => exact Ev_const rfl
    | true => exact hR
theorem j2_ev (l : List S27) (n i : Int) (x : S27) (hx : okS27 x) (R : Int) (hR : Ev (fun k => lease_Check.l0 k l l n (wrap64 (i + 1))) R) (b : Bool) : Ev (fun k => lease_Check.j2 k l l n i b x.f0.f0 x.f0.f1 x.f0.f2 x.f1 x.f2 x.f3 x.f4 x.f5 x.f6) (if b = true then 1 else (if (timeB x.f3 && (timeB x.f4 && decide (x.f3 ≤ x.f4))) = true then (if hostB x.f5 = true then R else 2) else 1)) := by
  cases b with
  | true => exact Ev_shift 1 (f := fun _ => some 1) (fun k => by rw [lease_Check.j2, if_pos rfl]) (Ev_const rfl)
  | false =>
    refine Ev_shift 1 (fun k => by rw [lease_Check.j2, if_neg Bool.false_ne_true, time_v, time_v]) ?_
    have h3 := j3_ev l n i x hx R hR
    cases timeB x.f3 with
    | false => exact h3 true
    | true =>
      cases timeB x.f4 with
      | false => exact h3 true
      | true =>
        by_cases h : x.f3 ≤ x.f4
        · rw [decide_eq_true h]
          have := h3 (decide (x.f3 > x.f4))
          rw [decide_eq_false (show ¬ x.f3 > x.f4 by omega)] at this
          simp only [Option.bind_some, if_true, decide_eq_false (show ¬ x.f3 > x.f4 by omega)]
          exact this
        · rw [decide_eq_false h]
          have := h3 (decide (x.f3 > x.f4))
          rw [decide_eq_true (show x.f3 > x.f4 by omega)] at this
          simp only [Option.bind_some, if_true, decide_eq_true (show x.f3 > x.f4 by omega)]
          exact this
theorem j1_ev (l : List S27) (n i : Int) (x : S27) (hx : okS27 x) (had : adB x.f0 = true) (R : Int) (hR : Ev (fun k => lease_Check.l0 k l l n (wrap64 (i + 1))) R) (u b : Bool) (hb : b = !u) : Ev (fun k => lease_Check.j1 k l l n i b x.f0.f0 x.f0.f1 x.f0.f2 x.f1 x.f2 x.f3 x.f4 x.f5 x.f6) (if u = true then (if one x = 0 then R else one x) else 7) := by
  subst hb
  cases u with
  | false => exact Ev_shift 1 (f := fun _ => some 7) (fun k => by rw [lease_Check.j1, Bool.not_false, if_pos rfl]) (Ev_const rfl)
  | true =>
    have h2 := j2_ev l n i x hx R hR
    have hg : (if one x = 0 then R else one x) = if (!(decide (1 ≤ x.f2) && (decide (x.f2 ≤ 5) && (cliB x.f1 && timeB x.f6)))) = true then 1 else (if (timeB x.f3 && (timeB x.f4 && decide (x.f3 ≤ x.f4))) = true then (if hostB x.f5 = true then R else 2) else 1) := by
      rw [one_true x had]
      unfold argB
      cases decide (1 ≤ x.f2) <;> cases decide (x.f2 ≤ 5) <;> cases cliB x.f1 <;> cases timeB x.f6 <;> cases timeB x.f3 <;> cases timeB x.f4 <;> cases decide (x.f3 ≤ x.f4) <;> cases hostB x.f5 <;> rfl
    rw [if_pos rfl, hg]
    refine Ev_shift 1 (fun k => by rw [lease_Check.j1, Bool.not_true, if_neg Bool.false_ne_true]) ?_
    by_cases h1 : x.f2 < 1
    · simp only [if_pos h1, decide_eq_false (show ¬ 1 ≤ x.f2 by omega), Bool.false_and, Bool.not_false]
      exact h2 true
    · simp only [if_neg h1, decide_eq_true (show 1 ≤ x.f2 by omega), Bool.true_and]
      by_cases h5 : x.f2 > 5
      · simp only [if_pos h5, decide_eq_false (show ¬ x.f2 ≤ 5 by omega), Bool.false_and, Bool.not_false]
        exact h2 true
      · simp only [if_neg h5, decide_eq_true (show x.f2 ≤ 5 by omega), Bool.true_and]
        refine Ev.bind (cli_ev x.f1 hx.2.1) ?_
        cases cliB x.f1 with
        | false => exact h2 true
        | true =>
          simp only [if_true, xid_v, Option.bind_some, Bool.true_and]
          exact h2 _
theorem check_from (l : List S27) (hl : l.length ≤ 140737488351232) (ok : ∀ y ∈ l, okS27 y) : ∀ (r : List S27) (i : Nat) (p : Option S25), l.drop i = r → (i = 0 → p = none) → (∀ j : Nat, i = j + 1 → p = some (rd_T27 l (j : Int)).f0) → Ev (fun k => lease_Check.l0 k l l (l.length : Int) (i : Int)) (chk p r)
  | [], i, p, h, _, _ => by
    have := drop_end h
    exact Ev_shift 1 (f := fun _ => some 0) (fun k => by rw [lease_Check.l0, if_neg (by omega)]) (Ev_const rfl)
  | x :: r, i, p, h, hp0, hp1 => by
    obtain ⟨hi, hx, hr⟩ := rd27 l i x r h
    have hxl : x ∈ l := List.mem_of_mem_drop (i := i) (by rw [h]; exact List.mem_cons_self ..)
    have ih := check_from l hl ok r (i + 1) (some x.f0) hr (fun e => by omega) (fun j e => by
      have : j = i := by omega
      rw [this, hx])
    rw [← next i l.length hi (by omega)] at ih
    unfold chk
    cases had : adB x.f0 with
    | false => exact Ev_shift 1 (f := fun _ => some 3) (fun k => by rw [lease_Check.l0, if_pos (by omega), if_pos (by omega), if_pos (by omega), hx, ad_v, had]; rfl) (Ev_const rfl)
    | true =>
      rw [if_pos rfl]
      have h1 := j1_ev l (l.length : Int) (i : Int) x (ok x hxl) had _ ih (upB p x.f0)
      cases i with
      | zero =>
        rw [hp0 rfl]
        refine Ev_shift 1 (fun k => by rw [lease_Check.l0, if_pos (by omega), if_pos (by omega), if_pos (by omega), hx, ad_v, had, Option.bind_some, if_pos rfl, if_neg (by omega)]) ?_
        rw [hp0 rfl] at h1
        exact h1 false rfl
      | succ j =>
        have hpj := hp1 j rfl
        have hj : (wrap64 (((j + 1 : Nat) : Int) - 1)) = (j : Int) := wsub1 (j + 1) (by omega) (by omega)
        have e0 : (0 : Int) ≤ (j : Int) := by omega
        have e1 : (j : Int) < (l.length : Int) := by omega
        have e2 : ((j + 1 : Nat) : Int) > 0 := by omega
        refine Ev_shift 1 (fun k => by rw [lease_Check.l0, if_pos (by omega), if_pos (by omega), if_pos (by omega), hx, ad_v, had, Option.bind_some, if_pos rfl, if_pos e2, hj, if_pos e0, if_pos e1]) ?_
        refine Ev.bind (ucmp (rd_T27 l (j : Int)).f0 x.f0) ?_
        refine h1 _ ?_
        rw [hpj]
        unfold upB
        rw [Bool.eq_iff_iff]
        simp
/-- The check of a table. -/
def chkT (l : List S27) : Int := if l.length > 512 then 9 else chk none l
theorem check_ev (l : List S27) (hl : l.length ≤ 140737488351232) (ok : ∀ y ∈ l, okS27 y) : Ev (fun k => lease_Check.f k l) (chkT l) := by
  unfold lease_Check.f chkT
  by_cases h : l.length > 512
  · simp only [if_pos h, if_pos (show (l.length : Int) > 512 by omega)]
    exact Ev_const rfl
  · simp only [if_neg h, if_neg (show ¬ (l.length : Int) > 512 by omega)]
    exact check_from l hl ok l 0 none rfl (fun _ => rfl) (fun j e => by omega)
end Go.Proofs.YtpcjablkjaiapaaDoor.Ma
