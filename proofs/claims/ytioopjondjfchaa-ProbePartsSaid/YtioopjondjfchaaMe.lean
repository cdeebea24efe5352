/- ProbeParts: each probe is in one of the results of Finish, in order, by its time. -/
import Derived.Test.YtioopjondjfchaaQAd2
import Derived.Test.YtioopjondjfchaaMd
namespace Go.Proofs.Ytioopjondjfchaa.Ma
open Go.RowKit Go.Proofs.YtioopjondjfchaaW.PrintWords Go.Proofs.YtioopjondjfchaaW.PrintLast Go.Proofs.YtioopjondjfchaaW.PrintMore Go.Proofs.Ytioopjondjfchaa.XP Go.Proofs.Ytioopjondjfchaa.QA Go.Proofs.Ytioopjondjfchaa.Cm
set_option linter.unusedVariables false
set_option linter.unusedSimpArgs false
theorem fit_of {x : S33} (h : okS33 x) : fit x := by
  have := h.2.2.1.2.2.2.2.2.2.2.2.1
  unfold fit
  omega
theorem part_at (q : S33 → Bool) (l : List S33) (k : Nat) (x : S33) (r : List S33) (h : l.drop k = x :: r) (hq : q x = true) : ((l.take k).filter q).length < (l.filter q).length ∧ rd_T33 (l.filter q) (((l.take k).filter q).length : Int) = x ∧ ((l.take (k + 1)).filter q).length = ((l.take k).filter q).length + 1 := by
  obtain ⟨hk, hx, hr⟩ := drop_at h
  have e1 : l.filter q = (l.take k).filter q ++ x :: r.filter q := by
    conv => lhs; rw [← List.take_append_drop k l, h, List.filter_append, List.filter_cons, if_pos hq]
  have e2 : (l.take (k + 1)).filter q = (l.take k).filter q ++ [x] := by
    rw [List.take_succ_eq_append_getElem hk, hx, List.filter_append, List.filter_cons, if_pos hq, List.filter_nil]
  refine ⟨by rw [e1, List.length_append, List.length_cons]; omega, ?_, by rw [e2, List.length_append]; rfl⟩
  rw [e1]
  simp [rd_T33, List.getD_eq_getElem?_getD]
theorem part_off (q : S33 → Bool) (l : List S33) (k : Nat) (x : S33) (r : List S33) (h : l.drop k = x :: r) (hq : q x = false) : (l.take (k + 1)).filter q = (l.take k).filter q := by
  obtain ⟨hk, hx, hr⟩ := drop_at h
  rw [List.take_succ_eq_append_getElem hk, hx, List.filter_append, List.filter_cons, if_neg (by rw [hq]; decide), List.filter_nil, List.append_nil]
theorem parts_from (l : List S33) (hl : l.length ≤ 512) (hs : Srt l) (ha : ∀ x ∈ l, adB x.f0 = true) (ok : ∀ x ∈ l, fit x) (t : Int) : ∀ (r : List S33) (k : Nat), l.drop k = r → Ev (fun q => ddilaw40_ProbeParts.l0 q l t (l.filter (onB t)) (l.filter fun x => !onB t x) (((l.take k).filter (onB t)).length : Int) (((l.take k).filter fun x => !onB t x).length : Int) (k : Int)) true
  | [], k, h => by
    have := drop_end h
    have hle := List.length_filter_le (onB t) l
    have hc := chkT_of (l.filter (onB t)) (by omega) (hs.sublist List.filter_sublist) (fun x hx => ha x (List.mem_filter.1 hx).1)
    rw [List.take_of_length_le this]
    refine Ev_shift 1 (fun q => by rw [ddilaw40_ProbeParts.l0, if_neg (by omega), if_pos rfl, if_pos rfl]) ?_
    refine Ev.bind (check_ev (l.filter (onB t)) (by omega)) (Ev_const ?_)
    rw [hc]
    rfl
  | x :: r, k, h => by
    obtain ⟨hi, hx, hr⟩ := rd33 l k x r h
    have hxl : x ∈ l := List.mem_of_mem_drop (i := k) (by rw [h]; exact List.mem_cons_self ..)
    have ih := parts_from l hl hs ha ok t r (k + 1) hr
    cases hb : onB t x with
    | true =>
      obtain ⟨p1, p2, p3⟩ := part_at (onB t) l k x r h hb
      have p4 := part_off (fun x => !onB t x) l k x r h (by simp [hb])
      have hc : x.f3 > t := of_decide_eq_true hb
      have hle := List.length_filter_le (onB t) l
      rw [p3, p4] at ih
      refine Ev_shift 1 (fun q => by rw [ddilaw40_ProbeParts.l0, if_pos (by omega), if_pos (by omega), hx, if_pos hc, if_neg (by omega), if_pos (by omega), if_pos (by omega), p2]) ?_
      refine Ev.bind (a := true) (same_ev x (ok x hxl)) ?_
      refine Ev_shift 1 (fun q => by rw [ddilaw40_ProbeParts.j2, if_neg (by decide), next ((l.take k).filter (onB t)).length (l.filter (onB t)).length p1 (by omega), next k l.length hi (by omega)]) ih
    | false =>
      obtain ⟨p1, p2, p3⟩ := part_at (fun x => !onB t x) l k x r h (by simp [hb])
      have p4 := part_off (onB t) l k x r h hb
      have hc : ¬ x.f3 > t := of_decide_eq_false hb
      have hle := List.length_filter_le (fun x => !onB t x) l
      rw [p3, p4] at ih
      refine Ev_shift 1 (fun q => by rw [ddilaw40_ProbeParts.l0, if_pos (by omega), if_pos (by omega), hx, if_neg hc, if_neg (by omega), if_pos (by omega), if_pos (by omega), p2]) ?_
      refine Ev.bind (a := true) (same_ev x (ok x hxl)) ?_
      refine Ev_shift 1 (fun q => by rw [ddilaw40_ProbeParts.j3, if_neg (by decide), next ((l.take k).filter fun x => !onB t x).length (l.filter fun x => !onB t x).length p1 (by omega), next k l.length hi (by omega)]) ih
theorem probeParts : ddilaw40_ProbeParts.Pure := by
  intro l t ⟨hl, _, ok⟩ _
  refine Ev.rounds (?_ : Ev (fun k => ddilaw40_ProbeParts.f k l t) true)
  unfold ddilaw40_ProbeParts.f
  refine Ev.bind awake_ev ?_
  simp only [if_true]
  have hskip : Ev (fun k => ddilaw40_ProbeParts.j0 k l t true) true := Ev_shift 1 (f := fun _ => some true) (fun k => by rw [ddilaw40_ProbeParts.j0, if_pos rfl]) (Ev_const rfl)
  by_cases h : (l.length : Int) > 600
  · simp only [if_pos h]
    exact hskip
  · simp only [if_neg h]
    refine Ev.bind (check_ev l (by omega)) ?_
    by_cases hc : chkT l = 0
    · obtain ⟨h1, h2, h3⟩ := chkT_zero l hc
      rw [hc]
      refine Ev_shift 1 (fun k => by rw [ddilaw40_ProbeParts.j0, if_neg (by decide)]) ?_
      refine Ev.bind (fin_ev l (by omega) t) ?_
      exact parts_from l h1 h2 h3 (fun x hx => fit_of (ok x hx)) t l 0 rfl
    · rw [show (chkT l != 0) = true from bne_iff_ne.2 hc]
      exact hskip
end Go.Proofs.Ytioopjondjfchaa.Ma
