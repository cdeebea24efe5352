/- The lease table's check: the program's and the reference's are one test (no condition but the sizes). -/
import Derived.Test.YtpcjablkjaiapaaDoorQAd1
import Derived.Test.YtpcjablkjaiapaaDoorQAd2
import Derived.Test.YtpcjablkjaiapaaDoorMa
namespace Go.Proofs.YtpcjablkjaiapaaDoor.Ma
open Go.RowKit Go.Proofs.YtpcjablkjaiapaaDoorW.PrintWords Go.Proofs.YtpcjablkjaiapaaDoorW.PrintLast Go.Proofs.YtpcjablkjaiapaaDoorW.PrintMore Go.Proofs.YtpcjablkjaiapaaDoor.XP Go.Proofs.YtpcjablkjaiapaaDoor.QA Go.Proofs.YtpcjablkjaiapaaDoor.Cm
set_option linter.unusedVariables false
set_option linter.unusedSimpArgs false
theorem rd27 (l : List S27) (i : Nat) (x : S27) (r : List S27) (h : l.drop i = x :: r) : i < l.length ∧ rd_T27 l (i : Int) = x ∧ l.drop (i + 1) = r := by
  obtain ⟨hi, hx, hr⟩ := drop_at h
  refine ⟨hi, ?_, hr⟩
  simp [rd_T27, List.getD_eq_getElem?_getD, List.getElem?_eq_getElem hi, hx]
theorem one_true (x : S27) (h1 : adB x.f0 = true) : one x = if argB x = true then (if hostB x.f5 = true then 0 else 2) else 1 := by
  unfold one
  rw [if_pos h1]
theorem j3_ev (l : List S27) (n i : Int) (x : S27) (hx : okS27 x) (R : Int) (hR : Ev (fun k => lease_Check.l0 k l l n (wrap64 (i + 1))) R) (b : Bool) : Ev (fun k => lease_Check.j3 k l l n i b x.f0.f0 x.f0.f1 x.f0.f2 x.f1 x.f2 x.f3 x.f4 x.f5 x.f6) (if b = true then 1 else (if hostB x.f5 = true then R else 2)) := by
  cases b with
  | true => exact Ev_shift 1 (f := fun _ => some 1) (fun k => by rw [lease_Check.j3, if_pos rfl]) (Ev_const rfl)
  | false =>
    refine Ev_shift 1 (fun k => by rw [lease_Check.j3, if_neg Bool.false_ne_true]) ?_
    refine Ev.bind (host_ev x.f5 hx.2.2.2.2.2.1) ?_
    cases hostB x.f5 with
    | false => exact Ev_const rfl
    | true => exact hR
theorem j2_ev (l : List S27) (n i : Int) (x : S27) (hx : okS27 x) (R : Int) (hR : Ev (fun k => lease_Check.l0 k l l n (wrap64 (i + 1))) R) (b : Bool) : Ev (fun k => lease_Check.j2 k l l n i b x.f0.f0 x.f0.f1 x.f0.f2 x.f1 x.f2 x.f3 x.f4 x.f5 x.f6) (if b = true then 1 else (if (timeB x.f3 && (timeB x.f4 && decide (x.f3 ≤ x.f4))) = true then (if hostB x.f5 = true then R else 2) else 1)) := by
  cases b with
  | true => exact Ev_shift 1 (f := fun _ => some 1) (fun k => by rw [lease_Check.j2, if_pos rfl]) (Ev_const rfl)
  | false =>
    refine Ev_shift 1 (fun k => by rw [lease_Check.j2, if_neg Bool.false_ne_true, time_v, time_v]) ?_
    have h3 := j3_ev l n i x hx R hR
    cases timeB x.f3 with
    | false => exact h3 true
    | true =>
      cases timeB x.f4 with
      | false => exact h3 true
      | true =>
        by_cases h : x.f3 ≤ x.f4
        · rw [decide_eq_true h]
          have := h3 (decide (x.f3 > x.f4))
          rw [decide_eq_false (show ¬ x.f3 > x.f4 by omega)] at this
          simp only [Option.bind_some, if_true, decide_eq_false (show ¬ x.f3 > x.f4 by omega)]
          exact this
        · rw [decide_eq_false h]
          have := h3 (decide (x.f3 > x.f4))
          rw [decide_eq_true (show x.f3 > x.f4 by omega)] at this
          simp only [Option.bind_some, if_true, decide_eq_true (show x.f3 > x.f4 by omega)]
          exact this
theorem j1_ev (l : List S27) (n i : Int) (x : S27) (hx : okS27 x) (had : adB x.f0 = true) (R : Int) (hR : Ev (fun k => lease_Check.l0 k l l n (wrap64 (i + 1))) R) (u b : Bool) (hb : b = !u) : Ev (fun k => lease_Check.j1 k l l n i b x.f0.f0 x.f0.f1 x.f0.f2 x.f1 x.f2 x.f3 x.f4 x.f5 x.f6) (if u = true then (if one x = 0 then R else one x) else 7) := by
  subst hb
  cases u with
  | false => exact Ev_shift 1 (f := fun _ => some 7) (fun k => by rw [lease_Check.j1, Bool.not_false, if_pos rfl]) (Ev_const rfl)
  | true =>
    have h2 := j2_ev l n i x hx R hR
    have hg : (if one x = 0 then R else one x) = if (!(decide (1 ≤ x.f2) && (decide (x.f2 ≤ 5) && (cliB x.f1 && timeB x.f6)))) = true then 1 else (if (timeB x.f3 && (timeB x.f4 && decide (x.f3 ≤ x.f4))) = true then (if hostB x.f5 = true then R else 2) else 1) := by
      rw [one_true x had]
      unfold argB
      cases decide (1 ≤ x.f2) <;> cases decide (x.f2 ≤ 5) <;> cases cliB x.f1 <;> cases timeB x.f6 <;> cases timeB x.f3 <;> cases timeB x.f4 <;> cases decide (x.f3 ≤ x.f4) <;> cases hostB x.f5 <;> rfl
    rw [if_pos rfl, hg]
    refine Ev_shift 1 (fun k => by rw [lease_Check.j1, Bool.not_true, if_neg Bool.false_ne_true]) ?_
    by_cases h1 : x.f2 < 1
    · simp only [if_pos h1, decide_eq_false (show ¬ 1 ≤ x.f2 by omega), Bool.false_and, Bool.not_false]
      exact h2 true
    · simp only [if_neg h1, decide_eq_true (show 1 ≤ x.f2 by omega), Bool.true_and]
      by_cases h5 : x.f2 > 5
      · simp only [if_pos h5, decide_eq_false (show ¬ x.f2 ≤ 5 by omega), Bool.false_and, Bool.not_false]
        exact h2 true
      · simp only [if_neg h5, decide_eq_true (show x.f2 ≤ 5 by omega), Bool.true_and]
        refine Ev.bind (cli_ev x.f1 hx.2.1) ?_
        cases cliB x.f1 with
        | false => exact h2 true
        | true =>
          simp only [if_true, xid_v, Option.bind_some, Bool.true_and]
          exact h2 _
theorem check_from (l : List S27) (hl : l.length ≤ 140737488351232) (ok : ∀ y ∈ l, okS27 y) : ∀ (r : List S27) (i : Nat) (p : Option S25), l.drop i = r → (i = 0 → p = none) → (∀ j : Nat, i = j + 1 → p = some (rd_T27 l (j : Int)).f0) → Ev (fun k => lease_Check.l0 k l l (l.length : Int) (i : Int)) (chk p r)
  | [], i, p, h, _, _ => by
    have := drop_end h
    exact Ev_shift 1 (f := fun _ => some 0) (fun k => by rw [lease_Check.l0, if_neg (by omega)]) (Ev_const rfl)
  | x :: r, i, p, h, hp0, hp1 => by
    obtain ⟨hi, hx, hr⟩ := rd27 l i x r h
    have hxl : x ∈ l := List.mem_of_mem_drop (i := i) (by rw [h]; exact List.mem_cons_self ..)
    have ih := check_from l hl ok r (i + 1) (some x.f0) hr (fun e => by omega) (fun j e => by
      have : j = i := by omega
      rw [this, hx])
    rw [← next i l.length hi (by omega)] at ih
    unfold chk
    cases had : adB x.f0 with
    | false => exact Ev_shift 1 (f := fun _ => some 3) (fun k => by rw [lease_Check.l0, if_pos (by omega), if_pos (by omega), if_pos (by omega), hx, ad_v, had]; rfl) (Ev_const rfl)
    | true =>
      rw [if_pos rfl]
      have h1 := j1_ev l (l.length : Int) (i : Int) x (ok x hxl) had _ ih (upB p x.f0)
      cases i with
      | zero =>
        rw [hp0 rfl]
        refine Ev_shift 1 (fun k => by rw [lease_Check.l0, if_pos (by omega), if_pos (by omega), if_pos (by omega), hx, ad_v, had, Option.bind_some, if_pos rfl, if_neg (by omega)]) ?_
        rw [hp0 rfl] at h1
        exact h1 false rfl
      | succ j =>
        have hpj := hp1 j rfl
        have hj : (wrap64 (((j + 1 : Nat) : Int) - 1)) = (j : Int) := wsub1 (j + 1) (by omega) (by omega)
        have e0 : (0 : Int) ≤ (j : Int) := by omega
        have e1 : (j : Int) < (l.length : Int) := by omega
        have e2 : ((j + 1 : Nat) : Int) > 0 := by omega
        refine Ev_shift 1 (fun k => by rw [lease_Check.l0, if_pos (by omega), if_pos (by omega), if_pos (by omega), hx, ad_v, had, Option.bind_some, if_pos rfl, if_pos e2, hj, if_pos e0, if_pos e1]) ?_
        refine Ev.bind (ucmp (rd_T27 l (j : Int)).f0 x.f0) ?_
        refine h1 _ ?_
        rw [hpj]
        unfold upB
        rw [Bool.eq_iff_iff]
        simp
theorem rone_ev (x : S27) (hx : okS27 x) : Ev (fun k => ddiref38_One.f k x.f0.f0 x.f0.f1 x.f0.f2 x.f1 x.f2 x.f3 x.f4 x.f5 x.f6) (one x) := by
  unfold ddiref38_One.f
  simp only [rad_v, Option.bind_some]
  cases had : adB x.f0 with
  | false => exact Ev_const (by unfold one; rw [had]; rfl)
  | true =>
    rw [one_true x had]
    have hj1 : ∀ b : Bool, Ev (fun k => ddiref38_One.j1 k b) (if b = true then 2 else 0) := by
      intro b
      refine Ev_shift 1 (f := fun _ => some (if b = true then 2 else 0)) (fun k => ?_) (Ev_const rfl)
      rw [ddiref38_One.j1]
      cases b <;> rfl
    have hj0 : ∀ b : Bool, b = !argB x → Ev (fun k => ddiref38_One.j0 k b x.f0.f0 x.f0.f1 x.f0.f2 x.f1 x.f2 x.f3 x.f4 x.f5 x.f6) (if argB x = true then (if hostB x.f5 = true then 0 else 2) else 1) := by
      rintro b rfl
      cases argB x with
      | false => exact Ev_shift 1 (f := fun _ => some 1) (fun k => by rw [ddiref38_One.j0, Bool.not_false, if_pos rfl]) (Ev_const rfl)
      | true =>
        refine Ev_shift 1 (fun k => by rw [ddiref38_One.j0, Bool.not_true, if_neg Bool.false_ne_true, toL]) ?_
        unfold hostB
        by_cases h : x.f5.data.toList = []
        · simp only [h, decide_true, Bool.true_or, if_true]
          exact hj1 false
        · simp only [h, decide_false, Bool.false_or, if_false]
          refine Ev.bind (rname_ev x.f5 hx.2.2.2.2.2.1) ?_
          have := hj1 (!nameB x.f5.data.toList)
          cases hn : nameB x.f5.data.toList <;> rw [hn] at this <;> exact this
    simp only [if_true, rtime_v, Option.bind_some]
    by_cases h1 : x.f2 < 1
    · simp only [if_pos h1]
      exact hj0 true (by unfold argB; rw [decide_eq_false (show ¬ 1 ≤ x.f2 by omega)]; rfl)
    · simp only [if_neg h1]
      have a1 : decide (1 ≤ x.f2) = true := decide_eq_true (by omega)
      by_cases h5 : x.f2 > 5
      · simp only [if_pos h5]
        exact hj0 true (by unfold argB; rw [a1, decide_eq_false (show ¬ x.f2 ≤ 5 by omega)]; rfl)
      · simp only [if_neg h5]
        have a5 : decide (x.f2 ≤ 5) = true := decide_eq_true (by omega)
        refine Ev.bind (rcli_ev x.f1 hx.2.1) ?_
        have hab : argB x = (cliB x.f1 && (timeB x.f6 && (timeB x.f3 && (timeB x.f4 && decide (x.f3 ≤ x.f4))))) := by
          unfold argB
          rw [a1, a5, Bool.true_and, Bool.true_and]
        cases hc : cliB x.f1 with
        | false =>
          simp only [Bool.false_eq_true, if_false]
          exact hj0 true (by rw [hab, hc]; rfl)
        | true =>
          cases h3 : timeB x.f3 with
          | false =>
            simp only [Bool.false_eq_true, if_false, if_true]
            exact hj0 true (by rw [hab, h3]; cases cliB x.f1 <;> cases timeB x.f6 <;> rfl)
          | true =>
            cases h4 : timeB x.f4 with
            | false =>
              simp only [Bool.false_eq_true, if_false, if_true]
              exact hj0 true (by rw [hab, h4]; cases cliB x.f1 <;> cases timeB x.f6 <;> cases timeB x.f3 <;> rfl)
            | true =>
              by_cases h : x.f3 > x.f4
              · simp only [if_true, if_pos h]
                exact hj0 true (by rw [hab, decide_eq_false (show ¬ x.f3 ≤ x.f4 by omega)]; cases cliB x.f1 <;> cases timeB x.f6 <;> cases timeB x.f3 <;> cases timeB x.f4 <;> rfl)
              · simp only [if_true, if_neg h]
                exact hj0 _ (by rw [hab, hc, h3, h4, decide_eq_true (show x.f3 ≤ x.f4 by omega)]; cases timeB x.f6 <;> rfl)
theorem rcheck_from (l : List S27) (hl : l.length ≤ 140737488351232) (ok : ∀ y ∈ l, okS27 y) : ∀ (r : List S27) (i : Nat) (p : Option S25), l.drop i = r → (i = 0 → p = none) → (∀ j : Nat, i = j + 1 → p = some (rd_T27 l (j : Int)).f0) → Ev (fun k => ddiref38_Check.l0 k l (i : Int)) (chk p r)
  | [], i, p, h, _, _ => by
    have := drop_end h
    exact Ev_shift 1 (f := fun _ => some 0) (fun k => by rw [ddiref38_Check.l0, if_neg (by omega)]) (Ev_const rfl)
  | x :: r, i, p, h, hp0, hp1 => by
    obtain ⟨hi, hx, hr⟩ := rd27 l i x r h
    have hxl : x ∈ l := List.mem_of_mem_drop (i := i) (by rw [h]; exact List.mem_cons_self ..)
    have ih := rcheck_from l hl ok r (i + 1) (some x.f0) hr (fun e => by omega) (fun j e => by
      have : j = i := by omega
      rw [this, hx])
    rw [← next i l.length hi (by omega)] at ih
    unfold chk
    cases had : adB x.f0 with
    | false => exact Ev_shift 1 (f := fun _ => some 3) (fun k => by rw [ddiref38_Check.l0, if_pos (by omega), if_pos (by omega), hx, rad_v, had]; rfl) (Ev_const rfl)
    | true =>
      rw [if_pos rfl]
      have h1 : ∀ b : Bool, b = !upB p x.f0 → Ev (fun k => ddiref38_Check.j1 k l (i : Int) b) (if upB p x.f0 = true then (if one x = 0 then chk (some x.f0) r else one x) else 7) := by
        rintro b rfl
        cases upB p x.f0 with
        | false => exact Ev_shift 1 (f := fun _ => some 7) (fun k => by rw [ddiref38_Check.j1, Bool.not_false, if_pos rfl]) (Ev_const rfl)
        | true =>
          refine Ev_shift 1 (fun k => by rw [ddiref38_Check.j1, Bool.not_true, if_neg Bool.false_ne_true, if_pos (by omega), if_pos (by omega), hx]) ?_
          refine Ev.bind (rone_ev x (ok x hxl)) ?_
          by_cases h0 : one x = 0
          · simp only [if_pos h0, if_true]
            exact ih
          · simp only [if_neg h0, if_true]
            exact Ev_const rfl
      cases i with
      | zero =>
        refine Ev_shift 1 (fun k => by rw [ddiref38_Check.l0, if_pos (by omega), if_pos (by omega), hx, rad_v, had, Option.bind_some, if_pos rfl, if_neg (by omega)]) ?_
        exact h1 false (by rw [hp0 rfl]; rfl)
      | succ j =>
        have hpj := hp1 j rfl
        have hj : (wrap64 (((j + 1 : Nat) : Int) - 1)) = (j : Int) := wsub1 (j + 1) (by omega) (by omega)
        have e0 : (0 : Int) ≤ (j : Int) := by omega
        have e1 : (j : Int) < (l.length : Int) := by omega
        have e2 : ((j + 1 : Nat) : Int) > 0 := by omega
        refine Ev_shift 1 (fun k => by rw [ddiref38_Check.l0, if_pos (by omega), if_pos (by omega), hx, rad_v, had, Option.bind_some, if_pos rfl, if_pos e2, hj, if_pos e0, if_pos e1, rcmp, Option.bind_some]) ?_
        refine h1 _ ?_
        rw [hpj]
        unfold upB
        rw [Bool.eq_iff_iff]
        simp
/-- The check of a table. -/
def chkT (l : List S27) : Int := if l.length > 512 then 9 else chk none l
theorem check_ev (l : List S27) (hl : l.length ≤ 140737488351232) (ok : ∀ y ∈ l, okS27 y) : Ev (fun k => lease_Check.f k l) (chkT l) := by
  unfold lease_Check.f chkT
  by_cases h : l.length > 512
  · simp only [if_pos h, if_pos (show (l.length : Int) > 512 by omega)]
    exact Ev_const rfl
  · simp only [if_neg h, if_neg (show ¬ (l.length : Int) > 512 by omega)]
    exact check_from l hl ok l 0 none rfl (fun _ => rfl) (fun j e => by omega)
theorem rcheck_ev (l : List S27) (hl : l.length ≤ 140737488351232) (ok : ∀ y ∈ l, okS27 y) : Ev (fun k => ddiref38_Check.f k l) (chkT l) := by
  unfold ddiref38_Check.f chkT
  by_cases h : l.length > 512
  · simp only [if_pos h, if_pos (show (l.length : Int) > 512 by omega)]
    exact Ev_const rfl
  · simp only [if_neg h, if_neg (show ¬ (l.length : Int) > 512 by omega)]
    exact rcheck_from l hl ok l 0 none rfl (fun _ => rfl) (fun j e => by omega)
end Go.Proofs.YtpcjablkjaiapaaDoor.Ma
