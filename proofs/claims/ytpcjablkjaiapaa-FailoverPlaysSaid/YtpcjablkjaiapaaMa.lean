/- FailoverPlays: each call from any peer on returns the peer that the document specifies. -/
import Derived.Test.YtpcjablkjaiapaaQAd
import Derived.Test.YtpcjablkjaiapaaQAd1
import Derived.Test.YtpcjablkjaiapaaXP
namespace Go.Proofs.Ytpcjablkjaiapaa.Ma
open Go.RowKit Go.Proofs.YtpcjablkjaiapaaW.PrintWords Go.Proofs.YtpcjablkjaiapaaW.PrintLast Go.Proofs.YtpcjablkjaiapaaW.PrintMore Go.Proofs.Ytpcjablkjaiapaa.XP Go.Proofs.Ytpcjablkjaiapaa.QA
set_option linter.unusedVariables false
set_option linter.unusedSimpArgs false
theorem awake_ev : Ev (fun k => ddilaw44_awake.f k) true := ⟨60, fun k hk => at_rounds ddilaw44_awake.mono hk (by decide +kernel)⟩
def stB (s : Int) : Int := if s < 0 ∨ s > 4 then 0 else s
theorem state_ev (p : S23) : Ev (fun k => failover_state.f k p.f0 p.f1 p.f2 p.f3) (stB p.f1) := by
  unfold failover_state.f stB
  by_cases h : p.f1 < 0
  · simp only [h, true_or, if_true]
    exact Ev_shift 1 (f := fun _ => some 0) (fun k => by rw [failover_state.j0, if_pos rfl]) (Ev_const rfl)
  · simp only [h, false_or, if_false]
    by_cases h2 : p.f1 > 4
    · simp only [h2, decide_true, if_true]
      exact Ev_shift 1 (f := fun _ => some 0) (fun k => by rw [failover_state.j0, if_pos rfl]) (Ev_const rfl)
    · simp only [h2, decide_false, if_false]
      exact Ev_shift 1 (f := fun _ => some p.f1) (fun k => by rw [failover_state.j0, if_neg Bool.false_ne_true]) (Ev_const rfl)
theorem rstate_ev (p : S23) : Ev (fun k => ddiref44_state.f k p.f0 p.f1 p.f2 p.f3) (stB p.f1) := by
  unfold ddiref44_state.f stB
  by_cases h : p.f1 < 0
  · simp only [h, true_or, if_true]
    exact Ev_shift 1 (f := fun _ => some 0) (fun k => by rw [ddiref44_state.j0, if_pos rfl]) (Ev_const rfl)
  · simp only [h, false_or, if_false]
    by_cases h2 : p.f1 > 4
    · simp only [h2, decide_true, if_true]
      exact Ev_shift 1 (f := fun _ => some 0) (fun k => by rw [ddiref44_state.j0, if_pos rfl]) (Ev_const rfl)
    · simp only [h2, decide_false, if_false]
      exact Ev_shift 1 (f := fun _ => some p.f1) (fun k => by rw [ddiref44_state.j0, if_neg Bool.false_ne_true]) (Ev_const rfl)
theorem index_from (l : List Int) (hl : l.length ≤ 1000) (x : Int) : ∀ (r : List Int) (i : Nat), l.drop i = r → ∃ n : Int, Ev (fun k => slices_Index.l0 k l x (l.length : Int) (i : Int)) n ∧ decide (n ≥ 0) = decide (x ∈ r)
  | [], i, h => by
    have := drop_end h
    exact ⟨-1, Ev_shift 1 (f := fun _ => some (-1)) (fun k => by rw [slices_Index.l0, if_neg (by omega)]) (Ev_const rfl), by simp⟩
  | y :: r, i, h => by
    obtain ⟨hi, hx, hr⟩ := drop_at h
    have hrd : rd l (i : Int) = y := by simp [rd, List.getD_eq_getElem?_getD, List.getElem?_eq_getElem hi, hx]
    obtain ⟨n, h1, h2⟩ := index_from l hl x r (i + 1) hr
    by_cases hxy : x = y
    · refine ⟨(i : Int), Ev_shift 1 (f := fun _ => some (i : Int)) (fun k => by rw [slices_Index.l0, if_pos (by omega), if_pos (by omega), if_pos (by omega), hrd, if_pos hxy]) (Ev_const rfl), ?_⟩
      rw [hxy, decide_eq_true (show (i : Int) ≥ 0 by omega), decide_eq_true (List.mem_cons_self ..)]
    · refine ⟨n, Ev_shift 1 (fun k => by rw [slices_Index.l0, if_pos (by omega), if_pos (by omega), if_pos (by omega), hrd, if_neg hxy, next i l.length hi (by omega)]) h1, ?_⟩
      rw [h2, Bool.eq_iff_iff]
      simp [hxy]
theorem is_ev (p : S23) (l : List Int) (hl : l.length ≤ 1000) : Ev (fun k => failover_is.f k p.f0 p.f1 p.f2 p.f3 l) (decide (stB p.f1 ∈ l)) := by
  unfold failover_is.f slices_Contains.f slices_Index.f
  refine Ev.bind (state_ev p) ?_
  obtain ⟨n, h1, h2⟩ := index_from l hl (stB p.f1) l 0 rfl
  rw [← h2]
  exact Ev.bind (Ev.bind h1 (Ev_const rfl)) (Ev_const rfl)
def tmB (t : Int) : Bool := decide (0 ≤ t) && decide (t ≤ 4294967295)
theorem time_v (t : Int) : failover_time.f t = some (tmB t) := by
  unfold failover_time.f tmB
  by_cases h : t ≥ 0
  · rw [if_pos h, decide_eq_true h, Bool.true_and]
  · rw [if_neg h, decide_eq_false h, Bool.false_and]
theorem rtime_v (t : Int) : ddiref44_time.f t = some (tmB t) := time_v t
def lat (t n : Int) : Int := if n > wrap64 (4294967295 - t) then 4294967295 else wrap64 (t + n)
theorem later_v (t n : Int) : failover_later.f t n = some (lat t n) := by
  unfold failover_later.f lat
  split <;> rfl
theorem rafter_v (t n : Int) : ddiref44_after.f t n = some (lat t n) := later_v t n
def tu (p : S23) : Bool × Int × Int × Int := (p.f0, p.f1, p.f2, p.f3)
def nrm (p : S23) (t n : Int) : S23 := ⟨p.f0, 1, lat t n, p.f3⟩
theorem normal_v (p : S23) (t n : Int) : failover_normal.f p.f0 p.f1 p.f2 p.f3 t n = some (tu (nrm p t n)) := by
  unfold failover_normal.f
  rw [later_v]
  rfl
theorem rnormal_v (p : S23) (t n : Int) : ddiref44_normal.f p.f0 p.f1 p.f2 p.f3 t n = some (tu (nrm p t n)) := by
  unfold ddiref44_normal.f
  rw [rafter_v]
  rfl
def hear (p : S23) (t n : Int) : S23 := if (tmB t && (decide (0 ≤ n) && (decide (p.f1 = 1) || decide (p.f1 = 2)))) = true then nrm p t n else p
theorem st12 (s : Int) : decide (stB s ∈ ([1, 2] : List Int)) = (decide (s = 1) || decide (s = 2)) := by
  rw [Bool.eq_iff_iff]
  unfold stB
  split <;> simp <;> omega
theorem hear_ev (p : S23) (t n : Int) : Ev (fun k => failover_Hear.f k p.f0 p.f1 p.f2 p.f3 t n) (tu (hear p t n)) := by
  have hj : ∀ b : Bool, b = !(tmB t && (decide (0 ≤ n) && (decide (p.f1 = 1) || decide (p.f1 = 2)))) → Ev (fun k => failover_Hear.j0 k t n b p.f0 p.f1 p.f2 p.f3) (tu (hear p t n)) := by
    rintro b rfl
    unfold hear
    cases (tmB t && (decide (0 ≤ n) && (decide (p.f1 = 1) || decide (p.f1 = 2)))) with
    | true => exact Ev_shift 1 (f := fun _ => some (tu (nrm p t n))) (fun k => by rw [failover_Hear.j0, Bool.not_true, if_neg Bool.false_ne_true, normal_v]; rfl) (Ev_const rfl)
    | false => exact Ev_shift 1 (f := fun _ => some (tu p)) (fun k => by rw [failover_Hear.j0, Bool.not_false, if_pos rfl]; rfl) (Ev_const rfl)
  unfold failover_Hear.f
  simp only [time_v, Option.bind_some]
  cases ht : tmB t with
  | false =>
    simp only [Bool.false_eq_true, if_false]
    exact hj true (by rw [ht]; rfl)
  | true =>
    simp only [if_true]
    by_cases hn : n < 0
    · simp only [if_pos hn]
      exact hj true (by rw [decide_eq_false (show ¬ 0 ≤ n by omega), Bool.false_and, Bool.and_false]; rfl)
    · simp only [if_neg hn]
      refine Ev.bind (is_ev p [1, 2] (by decide)) ?_
      exact hj _ (by rw [st12, ht, decide_eq_true (show 0 ≤ n by omega)]; rfl)
theorem rhear_ev (p : S23) (t n : Int) : Ev (fun k => ddiref44_Hear.f k p.f0 p.f1 p.f2 p.f3 t n) (tu (hear p t n)) := by
  have hj : ∀ b : Bool, b = !(tmB t && (decide (0 ≤ n) && (decide (p.f1 = 1) || decide (p.f1 = 2)))) → Ev (fun k => ddiref44_Hear.j0 k t n b p.f0 p.f1 p.f2 p.f3) (tu (hear p t n)) := by
    rintro b rfl
    unfold hear
    cases (tmB t && (decide (0 ≤ n) && (decide (p.f1 = 1) || decide (p.f1 = 2)))) with
    | true => exact Ev_shift 1 (f := fun _ => some (tu (nrm p t n))) (fun k => by rw [ddiref44_Hear.j0, Bool.not_true, if_neg Bool.false_ne_true, rnormal_v]; rfl) (Ev_const rfl)
    | false => exact Ev_shift 1 (f := fun _ => some (tu p)) (fun k => by rw [ddiref44_Hear.j0, Bool.not_false, if_pos rfl]; rfl) (Ev_const rfl)
  unfold ddiref44_Hear.f
  simp only [rtime_v, Option.bind_some]
  cases ht : tmB t with
  | false =>
    simp only [Bool.false_eq_true, if_false]
    exact hj true (by rw [ht]; rfl)
  | true =>
    simp only [if_true]
    by_cases hn : n < 0
    · simp only [if_pos hn]
      exact hj true (by rw [decide_eq_false (show ¬ 0 ≤ n by omega), Bool.false_and, Bool.and_false]; rfl)
    · simp only [if_neg hn]
      by_cases h1 : p.f1 = 1
      · simp only [if_pos h1]
        exact hj false (by rw [ht, decide_eq_true (show 0 ≤ n by omega), decide_eq_true h1]; rfl)
      · simp only [if_neg h1]
        refine hj _ ?_
        rw [ht, decide_eq_true (show 0 ≤ n by omega), decide_eq_false h1, Bool.eq_iff_iff]
        simp
def tick (p : S23) (t : Int) : S23 := if (tmB t && decide (p.f2 ≤ t)) = true then (if p.f1 = 1 then ⟨p.f0, 2, p.f2, p.f3⟩ else (if p.f1 = 4 then ⟨p.f0, 3, p.f2, p.f3⟩ else p)) else p
theorem st1 (s : Int) : decide (stB s ∈ ([1] : List Int)) = decide (s = 1) := by
  rw [Bool.eq_iff_iff]
  unfold stB
  split <;> simp <;> omega
theorem st4 (s : Int) : decide (stB s ∈ ([4] : List Int)) = decide (s = 4) := by
  rw [Bool.eq_iff_iff]
  unfold stB
  split <;> simp <;> omega
theorem tick_ev (p : S23) (t : Int) : Ev (fun k => failover_Tick.f k p.f0 p.f1 p.f2 p.f3 t) (tu (tick p t)) := by
  have hj : ∀ b : Bool, b = !(tmB t && decide (p.f2 ≤ t)) → Ev (fun k => failover_Tick.j0 k b p.f0 p.f1 p.f2 p.f3) (tu (tick p t)) := by
    rintro b rfl
    unfold tick
    cases (tmB t && decide (p.f2 ≤ t)) with
    | true =>
      simp only [Bool.not_true, if_true]
      refine Ev_shift 1 (fun k => by rw [failover_Tick.j0, if_neg Bool.false_ne_true]) ?_
      refine Ev.bind (is_ev p [1] (by decide)) ?_
      rw [st1]
      by_cases h1 : p.f1 = 1
      · simp only [decide_eq_true h1, if_true, if_pos h1]
        exact Ev_const rfl
      · simp only [decide_eq_false h1, Bool.false_eq_true, if_false, if_neg h1]
        refine Ev.bind (is_ev p [4] (by decide)) ?_
        rw [st4]
        by_cases h4 : p.f1 = 4
        · simp only [decide_eq_true h4, if_true, if_pos h4]
          exact Ev_const rfl
        · simp only [decide_eq_false h4, Bool.false_eq_true, if_false, if_neg h4]
          exact Ev_const rfl
    | false => exact Ev_shift 1 (f := fun _ => some (tu p)) (fun k => by rw [failover_Tick.j0, Bool.not_false, if_pos rfl]; rfl) (Ev_const rfl)
  unfold failover_Tick.f
  simp only [time_v, Option.bind_some]
  cases ht : tmB t with
  | false =>
    simp only [Bool.false_eq_true, if_false]
    exact hj true (by rw [ht]; rfl)
  | true =>
    simp only [if_true]
    exact hj _ (by rw [ht, Bool.true_and, Bool.eq_iff_iff]; simp)
theorem rtick_ev (p : S23) (t : Int) : Ev (fun k => ddiref44_Tick.f k p.f0 p.f1 p.f2 p.f3 t) (tu (tick p t)) := by
  have hj : ∀ b : Bool, b = !(tmB t && decide (p.f2 ≤ t)) → Ev (fun k => ddiref44_Tick.j0 k b p.f0 p.f1 p.f2 p.f3) (tu (tick p t)) := by
    rintro b rfl
    unfold tick
    cases (tmB t && decide (p.f2 ≤ t)) with
    | true =>
      simp only [Bool.not_true, if_true]
      refine Ev_shift 1 (fun k => by rw [ddiref44_Tick.j0, if_neg Bool.false_ne_true]) ?_
      by_cases h1 : p.f1 = 1
      · simp only [if_pos h1]
        exact Ev_const rfl
      · simp only [if_neg h1]
        by_cases h4 : p.f1 = 4
        · simp only [if_pos h4]
          exact Ev_const rfl
        · simp only [if_neg h4]
          exact Ev_const rfl
    | false => exact Ev_shift 1 (f := fun _ => some (tu p)) (fun k => by rw [ddiref44_Tick.j0, Bool.not_false, if_pos rfl]; rfl) (Ev_const rfl)
  unfold ddiref44_Tick.f
  simp only [rtime_v, Option.bind_some]
  cases ht : tmB t with
  | false =>
    simp only [Bool.false_eq_true, if_false]
    exact hj true (by rw [ht]; rfl)
  | true =>
    simp only [if_true]
    exact hj _ (by rw [ht, Bool.true_and, Bool.eq_iff_iff]; simp)
def down (p : S23) (t : Int) : S23 := if tmB t = true then (if stB p.f1 = 2 then ⟨p.f0, 3, lat t p.f3, p.f3⟩ else (if stB p.f1 = 0 then ⟨p.f0, 4, lat t p.f3, p.f3⟩ else p)) else p
theorem down_ev (p : S23) (t : Int) : Ev (fun k => failover_Down.f k p.f0 p.f1 p.f2 p.f3 t) (tu (down p t)) := by
  unfold failover_Down.f down
  simp only [time_v, Option.bind_some]
  cases ht : tmB t with
  | false =>
    simp only [Bool.false_eq_true, if_false]
    exact Ev_shift 1 (f := fun _ => some (tu p)) (fun k => by rw [failover_Down.j0, if_pos rfl]; rfl) (Ev_const rfl)
  | true =>
    simp only [if_true]
    refine Ev.bind (is_ev p [2, 0] (by decide)) ?_
    by_cases h : stB p.f1 ∈ ([2, 0] : List Int)
    · rw [decide_eq_true h]
      refine Ev_shift 1 (fun k => by rw [failover_Down.j0, Bool.not_true, if_neg Bool.false_ne_true]) ?_
      refine Ev.bind (is_ev p [2] (by decide)) ?_
      by_cases h2 : stB p.f1 = 2
      · rw [decide_eq_true (show stB p.f1 ∈ ([2] : List Int) by simp [h2])]
        simp only [if_true, if_pos h2]
        exact Ev_shift 1 (f := fun _ => some (tu ⟨p.f0, 3, lat t p.f3, p.f3⟩)) (fun k => by rw [failover_Down.j1, later_v]; rfl) (Ev_const rfl)
      · rw [decide_eq_false (show ¬ stB p.f1 ∈ ([2] : List Int) by simp [h2])]
        have h0 : stB p.f1 = 0 := by simpa [h2] using h
        simp only [Bool.false_eq_true, if_false, if_neg h2, if_pos h0]
        exact Ev_shift 1 (f := fun _ => some (tu ⟨p.f0, 4, lat t p.f3, p.f3⟩)) (fun k => by rw [failover_Down.j1, later_v]; rfl) (Ev_const rfl)
    · rw [decide_eq_false h]
      have h2 : ¬ stB p.f1 = 2 := fun e => h (by simp [e])
      have h0 : ¬ stB p.f1 = 0 := fun e => h (by simp [e])
      rw [if_neg h2, if_neg h0]
      exact Ev_shift 1 (f := fun _ => some (tu p)) (fun k => by rw [failover_Down.j0, Bool.not_false, if_pos rfl]; rfl) (Ev_const rfl)
theorem rdown_ev (p : S23) (t : Int) : Ev (fun k => ddiref44_Down.f k p.f0 p.f1 p.f2 p.f3 t) (tu (down p t)) := by
  unfold ddiref44_Down.f down
  simp only [rtime_v, Option.bind_some]
  cases ht : tmB t with
  | false =>
    simp only [Bool.false_eq_true, if_false]
    exact Ev_const rfl
  | true =>
    simp only [if_true]
    refine Ev.bind (rstate_ev p) ?_
    simp only [rafter_v, Option.bind_some]
    by_cases h2 : stB p.f1 = 2
    · simp only [if_pos h2]
      exact Ev_const rfl
    · simp only [if_neg h2]
      by_cases h0 : stB p.f1 = 0
      · simp only [if_pos h0]
        exact Ev_const rfl
      · simp only [if_neg h0]
        exact Ev_const rfl
def exch (p : S23) (t n : Int) : S23 := if (tmB t && decide (0 ≤ n)) = true then nrm p t n else p
theorem exch_ev (p : S23) (t n : Int) : Ev (fun k => failover_Exchanged.f k p.f0 p.f1 p.f2 p.f3 t n) (tu (exch p t n)) := by
  have hj : ∀ b : Bool, b = !(tmB t && decide (0 ≤ n)) → Ev (fun k => failover_Exchanged.j0 k t n b p.f0 p.f1 p.f2 p.f3) (tu (exch p t n)) := by
    rintro b rfl
    unfold exch
    cases (tmB t && decide (0 ≤ n)) with
    | true => exact Ev_shift 1 (f := fun _ => some (tu (nrm p t n))) (fun k => by rw [failover_Exchanged.j0, Bool.not_true, if_neg Bool.false_ne_true, normal_v]; rfl) (Ev_const rfl)
    | false => exact Ev_shift 1 (f := fun _ => some (tu p)) (fun k => by rw [failover_Exchanged.j0, Bool.not_false, if_pos rfl]; rfl) (Ev_const rfl)
  unfold failover_Exchanged.f
  simp only [time_v, Option.bind_some]
  cases ht : tmB t with
  | false =>
    simp only [Bool.false_eq_true, if_false]
    exact hj true (by rw [ht]; rfl)
  | true =>
    simp only [if_true]
    exact hj _ (by rw [ht, Bool.true_and, Bool.eq_iff_iff]; simp)
theorem rexch_ev (p : S23) (t n : Int) : Ev (fun k => ddiref44_Exchanged.f k p.f0 p.f1 p.f2 p.f3 t n) (tu (exch p t n)) := by
  have hj : ∀ b : Bool, b = !(tmB t && decide (0 ≤ n)) → Ev (fun k => ddiref44_Exchanged.j0 k t n b p.f0 p.f1 p.f2 p.f3) (tu (exch p t n)) := by
    rintro b rfl
    unfold exch
    cases (tmB t && decide (0 ≤ n)) with
    | true => exact Ev_shift 1 (f := fun _ => some (tu (nrm p t n))) (fun k => by rw [ddiref44_Exchanged.j0, Bool.not_true, if_neg Bool.false_ne_true, rnormal_v]; rfl) (Ev_const rfl)
    | false => exact Ev_shift 1 (f := fun _ => some (tu p)) (fun k => by rw [ddiref44_Exchanged.j0, Bool.not_false, if_pos rfl]; rfl) (Ev_const rfl)
  unfold ddiref44_Exchanged.f
  simp only [rtime_v, Option.bind_some]
  cases ht : tmB t with
  | false =>
    simp only [Bool.false_eq_true, if_false]
    exact hj true (by rw [ht]; rfl)
  | true =>
    simp only [if_true]
    exact hj _ (by rw [ht, Bool.true_and, Bool.eq_iff_iff]; simp)
def yield_ (p : S23) (t n : Int) : S23 := if (tmB t && (decide (0 ≤ n) && !decide (stB p.f1 = 0))) = true then (if stB p.f1 = 4 then ⟨p.f0, 0, 0, p.f3⟩ else nrm p t n) else p
theorem yield_ev (p : S23) (t n : Int) : Ev (fun k => failover_Yield.f k p.f0 p.f1 p.f2 p.f3 t n) (tu (yield_ p t n)) := by
  have hj : ∀ b : Bool, b = !(tmB t && (decide (0 ≤ n) && !decide (stB p.f1 = 0))) → Ev (fun k => failover_Yield.j0 k t n b p.f0 p.f1 p.f2 p.f3) (tu (yield_ p t n)) := by
    rintro b rfl
    unfold yield_
    cases (tmB t && (decide (0 ≤ n) && !decide (stB p.f1 = 0))) with
    | true =>
      simp only [Bool.not_true, if_true]
      refine Ev_shift 1 (fun k => by rw [failover_Yield.j0, if_neg Bool.false_ne_true]) ?_
      refine Ev.bind (is_ev p [4] (by decide)) ?_
      by_cases h4 : stB p.f1 = 4
      · rw [decide_eq_true (show stB p.f1 ∈ ([4] : List Int) by simp [h4])]
        simp only [if_true, if_pos h4]
        exact Ev_const rfl
      · rw [decide_eq_false (show ¬ stB p.f1 ∈ ([4] : List Int) by simp [h4])]
        simp only [Bool.false_eq_true, if_false, if_neg h4, normal_v, Option.bind_some]
        exact Ev_const rfl
    | false => exact Ev_shift 1 (f := fun _ => some (tu p)) (fun k => by rw [failover_Yield.j0, Bool.not_false, if_pos rfl]; rfl) (Ev_const rfl)
  unfold failover_Yield.f
  simp only [time_v, Option.bind_some]
  cases ht : tmB t with
  | false =>
    simp only [Bool.false_eq_true, if_false]
    exact hj true (by rw [ht]; rfl)
  | true =>
    simp only [if_true]
    by_cases hn : n < 0
    · simp only [if_pos hn]
      exact hj true (by rw [decide_eq_false (show ¬ 0 ≤ n by omega), Bool.false_and, Bool.and_false]; rfl)
    · simp only [if_neg hn]
      refine Ev.bind (is_ev p [0] (by decide)) ?_
      exact hj _ (by rw [ht, decide_eq_true (show 0 ≤ n by omega), Bool.eq_iff_iff]; simp)
theorem ryield_ev (p : S23) (t n : Int) : Ev (fun k => ddiref44_Yield.f k p.f0 p.f1 p.f2 p.f3 t n) (tu (yield_ p t n)) := by
  have hj : ∀ b : Bool, b = !(tmB t && (decide (0 ≤ n) && !decide (stB p.f1 = 0))) → Ev (fun k => ddiref44_Yield.j0 k t n (stB p.f1) b p.f0 p.f1 p.f2 p.f3) (tu (yield_ p t n)) := by
    rintro b rfl
    unfold yield_
    cases (tmB t && (decide (0 ≤ n) && !decide (stB p.f1 = 0))) with
    | true =>
      simp only [Bool.not_true, if_true]
      refine Ev_shift 1 (fun k => by rw [ddiref44_Yield.j0, if_neg Bool.false_ne_true]) ?_
      by_cases h4 : stB p.f1 = 4
      · simp only [if_pos h4]
        exact Ev_const rfl
      · simp only [if_neg h4, rnormal_v, Option.bind_some]
        exact Ev_const rfl
    | false => exact Ev_shift 1 (f := fun _ => some (tu p)) (fun k => by rw [ddiref44_Yield.j0, Bool.not_false, if_pos rfl]; rfl) (Ev_const rfl)
  unfold ddiref44_Yield.f
  refine Ev.bind (rstate_ev p) ?_
  simp only [rtime_v, Option.bind_some]
  cases ht : tmB t with
  | false =>
    simp only [Bool.false_eq_true, if_false]
    exact hj true (by rw [ht]; rfl)
  | true =>
    simp only [if_true]
    by_cases hn : n < 0
    · simp only [if_pos hn]
      exact hj true (by rw [decide_eq_false (show ¬ 0 ≤ n by omega), Bool.false_and, Bool.and_false]; rfl)
    · simp only [if_neg hn]
      exact hj _ (by rw [ht, decide_eq_true (show 0 ≤ n by omega), Bool.eq_iff_iff]; simp)
theorem rd49 (q : List S49) (i : Nat) (y : S49) (r : List S49) (h : q.drop i = y :: r) : i < q.length ∧ rd_T49 q (i : Int) = y ∧ q.drop (i + 1) = r := by
  obtain ⟨hi, hx, hr⟩ := drop_at h
  refine ⟨hi, ?_, hr⟩
  simp [rd_T49, List.getD_eq_getElem?_getD, List.getElem?_eq_getElem hi, hx]
theorem play_from (q : List S49) (hq : q.length ≤ 40) : ∀ (r : List S49) (i : Nat) (p : S23), q.drop i = r → Ev (fun k => ddilaw44_FailoverPlays.l0 k q (i : Int) p.f0 p.f1 p.f2 p.f3 p.f0 p.f1 p.f2 p.f3) true
  | [], i, p, h => by
    have := drop_end h
    exact Ev_shift 1 (f := fun _ => some true) (fun k => by rw [ddilaw44_FailoverPlays.l0, if_neg (by omega)]) (Ev_const rfl)
  | s :: r, i, p, h => by
    obtain ⟨hi, hx, hr⟩ := rd49 q i s r h
    have ih := fun p => play_from q hq r (i + 1) p hr
    have hj : ∀ p : S23, Ev (fun k => ddilaw44_FailoverPlays.j2 k q (i : Int) p.f0 p.f1 p.f2 p.f3 p.f0 p.f1 p.f2 p.f3) true := by
      intro p
      have hb : (!(p.f0 == p.f0) || (!(p.f1 == p.f1) || (!(p.f2 == p.f2) || (!(p.f3 == p.f3))))) = false := by simp
      exact Ev_shift 1 (fun k => by rw [ddilaw44_FailoverPlays.j2, hb, if_neg Bool.false_ne_true, next i q.length hi (by omega)]) (ih p)
    refine Ev_shift 1 (fun k => by rw [ddilaw44_FailoverPlays.l0, if_pos (by omega), if_pos (by omega), hx]) ?_
    by_cases h0 : Int.tmod s.f0 5 = 0
    · simp only [if_pos h0]
      exact Ev.bind (hear_ev p s.f1 s.f2) (Ev.bind (rhear_ev p s.f1 s.f2) (hj _))
    simp only [if_neg h0]
    by_cases h1 : Int.tmod s.f0 5 = 1
    · simp only [if_pos h1]
      exact Ev.bind (tick_ev p s.f1) (Ev.bind (rtick_ev p s.f1) (hj _))
    simp only [if_neg h1]
    by_cases h2 : Int.tmod s.f0 5 = 2
    · simp only [if_pos h2]
      exact Ev.bind (down_ev p s.f1) (Ev.bind (rdown_ev p s.f1) (hj _))
    simp only [if_neg h2]
    by_cases h3 : Int.tmod s.f0 5 = 3
    · simp only [if_pos h3]
      exact Ev.bind (exch_ev p s.f1 s.f2) (Ev.bind (rexch_ev p s.f1 s.f2) (hj _))
    simp only [if_neg h3]
    by_cases h4 : Int.tmod s.f0 5 = 4
    · simp only [if_pos h4]
      exact Ev.bind (yield_ev p s.f1 s.f2) (Ev.bind (ryield_ev p s.f1 s.f2) (hj _))
    simp only [if_neg h4]
    exact hj p
def newT (b : Bool) (m : Int) : Bool × Int × Int × Int × Int := if m < 1 ∨ m > 1073741824 then (false, 0, 0, 0, 1) else (b, 0, 0, m, 0)
theorem new_ev (b : Bool) (m : Int) : Ev (fun k => failover_New.f k b m) (newT b m) := by
  unfold failover_New.f newT
  by_cases h : m < 1
  · simp only [h, true_or, if_true]
    exact Ev_shift 1 (f := fun _ => some (false, 0, 0, 0, 1)) (fun k => by rw [failover_New.j0, if_pos rfl]) (Ev_const rfl)
  · simp only [h, false_or, if_false]
    by_cases h2 : m > 1073741824
    · simp only [h2, decide_true, if_true]
      exact Ev_shift 1 (f := fun _ => some (false, 0, 0, 0, 1)) (fun k => by rw [failover_New.j0, if_pos rfl]) (Ev_const rfl)
    · simp only [h2, decide_false, if_false]
      exact Ev_shift 1 (f := fun _ => some (b, 0, 0, m, 0)) (fun k => by rw [failover_New.j0, if_neg Bool.false_ne_true]) (Ev_const rfl)
theorem rnew_ev (b : Bool) (m : Int) : Ev (fun k => ddiref44_New.f k b m) (newT b m) := by
  unfold ddiref44_New.f newT
  by_cases h : m < 1
  · simp only [h, true_or, if_true]
    exact Ev_shift 1 (f := fun _ => some (false, 0, 0, 0, 1)) (fun k => by rw [ddiref44_New.j0, if_pos rfl]) (Ev_const rfl)
  · simp only [h, false_or, if_false]
    by_cases h2 : m > 1073741824
    · simp only [h2, decide_true, if_true]
      exact Ev_shift 1 (f := fun _ => some (false, 0, 0, 0, 1)) (fun k => by rw [ddiref44_New.j0, if_pos rfl]) (Ev_const rfl)
    · simp only [h2, decide_false, if_false]
      exact Ev_shift 1 (f := fun _ => some (b, 0, 0, m, 0)) (fun k => by rw [ddiref44_New.j0, if_neg Bool.false_ne_true]) (Ev_const rfl)
theorem failoverPlays : ddilaw44_FailoverPlays.Pure := by
  intro b s u m q okp okq
  refine Ev.rounds (?_ : Ev (fun k => ddilaw44_FailoverPlays.f k b s u m q) true)
  unfold ddilaw44_FailoverPlays.f
  refine Ev.bind awake_ev ?_
  simp only [if_true]
  refine Ev.bind (new_ev b m) (Ev.bind (rnew_ev b m) ?_)
  have hb : ∀ n : Bool × Int × Int × Int × Int, (!(n.1 == n.1) || (!(n.2.1 == n.2.1) || (!(n.2.2.1 == n.2.2.1) || (!(n.2.2.2.1 == n.2.2.2.1))))) = false := fun n => by simp
  have hb2 : ∀ n : Int, (n != n) = false := fun n => by simp
  simp only [hb, hb2, Bool.false_eq_true, if_false]
  refine Ev_shift 1 (fun k => by rw [ddilaw44_FailoverPlays.j0, if_neg Bool.false_ne_true]) ?_
  by_cases hn : (q.length : Int) > 40
  · simp only [if_pos hn]
    exact Ev_const rfl
  · simp only [if_neg hn]
    exact play_from q (by omega) q 0 ⟨b, s, u, m⟩ rfl
end Go.Proofs.Ytpcjablkjaiapaa.Ma
