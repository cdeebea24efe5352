/- Over returns the prefixes of the reports with at least this Mille, in their order, for any reports: the pure statement of UsageOver (no condition but the sizes that every argument has). -/
import Derived.Test.YtjifdgicamlikaaQAd1
import Derived.Test.YtjifdgicamlikaaQAd2
import Derived.Test.YtjifdgicamlikaaXP
namespace Go.Proofs.Ytjifdgicamlikaa.Ma
open Go.RowKit Go.Proofs.YtjifdgicamlikaaW.PrintWords Go.Proofs.YtjifdgicamlikaaW.PrintLast Go.Proofs.YtjifdgicamlikaaW.PrintMore Go.Proofs.Ytjifdgicamlikaa.XP Go.Proofs.Ytjifdgicamlikaa.QA
set_option linter.unusedVariables false
set_option linter.unusedSimpArgs false
/-- The program's report, as the reference has it, and back. -/
def cu (x : S39) : S36 := ⟨x.f0, x.f1, x.f2, x.f3⟩
theorem rd36 (l : List S36) (i : Nat) (x : S36) (r : List S36) (h : l.drop i = x :: r) : i < l.length ∧ rd_T36 l (i : Int) = x ∧ l.drop (i + 1) = r := by
  obtain ⟨hi, hx, hr⟩ := drop_at h
  refine ⟨hi, ?_, hr⟩
  simp [rd_T36, List.getD_eq_getElem?_getD, List.getElem?_eq_getElem hi, hx]
theorem rd39 (l : List S39) (i : Nat) (x : S39) (r : List S39) (h : l.drop i = x :: r) : i < l.length ∧ rd_T39 l (i : Int) = x ∧ l.drop (i + 1) = r := by
  obtain ⟨hi, hx, hr⟩ := drop_at h
  refine ⟨hi, ?_, hr⟩
  simp [rd_T39, List.getD_eq_getElem?_getD, List.getElem?_eq_getElem hi, hx]
theorem rd31 (l : List S31) (i : Nat) (x : S31) (r : List S31) (h : l.drop i = x :: r) : i < l.length ∧ rd_T31 l (i : Int) = x ∧ l.drop (i + 1) = r := by
  obtain ⟨hi, hx, hr⟩ := drop_at h
  refine ⟨hi, ?_, hr⟩
  simp [rd_T31, List.getD_eq_getElem?_getD, List.getElem?_eq_getElem hi, hx]
def overV (m : Int) : List S36 → List S31
  | [] => []
  | x :: r => if x.f3 ≥ m then x.f0 :: overV m r else overV m r
theorem overV_len (m : Int) : ∀ l : List S36, (overV m l).length ≤ l.length
  | [] => Nat.le_refl _
  | x :: r => by
    have := overV_len m r
    unfold overV
    split <;> simp only [List.length_cons] <;> omega
theorem over_from (m : Int) (l : List S36) (hl : l.length ≤ 2513169434916) : ∀ (r : List S36) (i : Nat) (acc : List S31), l.drop i = r → acc.length ≤ i → Ev (fun k => usage_Over.l0 k m acc l (l.length : Int) (i : Int)) (acc ++ overV m r)
  | [], i, acc, h, _ => by
    have := drop_end h
    refine Ev_shift 1 (f := fun _ => some (acc ++ overV m [])) (fun k => ?_) (Ev_const rfl)
    rw [usage_Over.l0, if_neg (by omega)]
    simp [overV]
  | x :: r, i, acc, h, ha => by
    obtain ⟨hi, hx, hr⟩ := rd36 l i x r h
    by_cases c : x.f3 ≥ m
    · have ih := over_from m l hl r (i + 1) (acc ++ [x.f0]) hr (by rw [List.length_append, List.length_singleton]; omega)
      rw [overV, if_pos c]
      rw [List.append_assoc] at ih
      refine Ev_shift 1 (fun k => ?_) ih
      rw [usage_Over.l0, if_pos (by omega), if_pos (by omega), if_pos (by omega), hx, if_pos c, if_pos (by omega), next i l.length hi (by omega)]
    · have ih := over_from m l hl r (i + 1) acc hr (by omega)
      rw [overV, if_neg c]
      refine Ev_shift 1 (fun k => ?_) ih
      rw [usage_Over.l0, if_pos (by omega), if_pos (by omega), if_pos (by omega), hx, if_neg c, next i l.length hi (by omega)]
theorem over_ev (m : Int) (l : List S36) (hl : l.length ≤ 2513169434916) : Ev (fun k => usage_Over.f k l m) (overV m l) := by
  unfold usage_Over.f
  exact over_from m l hl l 0 [] rfl (Nat.le_refl _)
theorem rover_from (m : Int) (l : List S39) (hl : l.length ≤ 2513169434916) : ∀ (r : List S39) (i : Nat) (acc : List S31), l.drop i = r → acc.length ≤ i → Ev (fun k => ddiref48_Over.l0 k l m acc (i : Int)) (acc ++ overV m (r.map cu))
  | [], i, acc, h, _ => by
    have := drop_end h
    refine Ev_shift 1 (f := fun _ => some (acc ++ overV m ([].map cu))) (fun k => ?_) (Ev_const rfl)
    rw [ddiref48_Over.l0, if_neg (by omega)]
    simp [overV]
  | x :: r, i, acc, h, ha => by
    obtain ⟨hi, hx, hr⟩ := rd39 l i x r h
    rw [List.map_cons]
    by_cases c : x.f3 ≥ m
    · have ih := rover_from m l hl r (i + 1) (acc ++ [x.f0]) hr (by rw [List.length_append, List.length_singleton]; omega)
      rw [overV, if_pos (show (cu x).f3 ≥ m from c)]
      rw [List.append_assoc] at ih
      refine Ev_shift 1 (fun k => ?_) ih
      rw [ddiref48_Over.l0, if_pos (by omega), if_pos (by omega), hx, if_pos c, if_pos (by omega), next i l.length hi (by omega)]
    · have ih := rover_from m l hl r (i + 1) acc hr (by omega)
      rw [overV, if_neg (show ¬ (cu x).f3 ≥ m from c)]
      refine Ev_shift 1 (fun k => ?_) ih
      rw [ddiref48_Over.l0, if_pos (by omega), if_pos (by omega), hx, if_neg c, next i l.length hi (by omega)]
theorem rover_ev (m : Int) (l : List S39) (hl : l.length ≤ 2513169434916) : Ev (fun k => ddiref48_Over.f k l m) (overV m (l.map cu)) := by
  unfold ddiref48_Over.f
  exact rover_from m l hl l 0 [] rfl (Nat.le_refl _)
/-! ### equal lists of prefixes -/
theorem prefixes_from (l : List S31) (hl : l.length ≤ 2513169434916) : ∀ (r : List S31) (i : Nat), l.drop i = r → Ev (fun k => ddilaw48_prefixes.l0 k l l (i : Int)) true
  | [], i, h => by
    have := drop_end h
    exact Ev_shift 1 (f := fun _ => some true) (fun k => by rw [ddilaw48_prefixes.l0, if_neg (by omega)]) (Ev_const rfl)
  | x :: r, i, h => by
    obtain ⟨hi, hx, hr⟩ := rd31 l i x r h
    have ih := prefixes_from l hl r (i + 1) hr
    refine Ev_shift 1 (fun k => ?_) ih
    rw [ddilaw48_prefixes.l0, if_pos (by omega), if_pos (by omega), if_pos (by omega), if_neg (by simp), next i l.length hi (by omega)]
theorem prefixes_ev (l : List S31) (hl : l.length ≤ 2513169434916) : Ev (fun k => ddilaw48_prefixes.f k l l) true := by
  unfold ddilaw48_prefixes.f
  simp only [if_true]
  exact prefixes_from l hl l 0 rfl
/-! ### the examples -/
theorem awake_k : ddilaw48_awake.f 400 = some true := by decide +kernel
theorem awake_ev : Ev (fun k => ddilaw48_awake.f k) true := ⟨400, fun k hk => at_rounds (g := fun k => ddilaw48_awake.f k) ddilaw48_awake.mono hk awake_k⟩
end Go.Proofs.Ytjifdgicamlikaa.Ma
namespace Go.Proofs.Ytjifdgicamlikaa.Ma
open Go.RowKit Go.Proofs.YtjifdgicamlikaaW.PrintWords Go.Proofs.YtjifdgicamlikaaW.PrintLast Go.Proofs.YtjifdgicamlikaaW.PrintMore Go.Proofs.Ytjifdgicamlikaa.XP Go.Proofs.Ytjifdgicamlikaa.QA
set_option linter.unusedVariables false
set_option linter.unusedSimpArgs false
theorem law_from (m : Int) (l : List S39) (hl : l.length * 56 ≤ 140737488351232) : ∀ (r : List S39) (i : Nat), l.drop i = r → Ev (fun k => ddilaw48_UsageOver.l0 k l m ((l.take i).map cu) (i : Int)) true
  | [], i, h => by
    have := drop_end h
    refine Ev_shift 1 (f := fun k => (usage_Over.f k (l.map cu) m).bind fun t467 => ((ddiref48_Over.f k l m).bind fun t470 => ((ddilaw48_prefixes.f k t467 t470).bind fun t473 => (if t473 = true then ((ddilaw48_awake.f k).bind fun t474 => (some t474)) else (some false))))) (fun k => ?_) ?_
    · rw [ddilaw48_UsageOver.l0, if_neg (by omega), List.take_of_length_le (by omega)]
    · refine Ev_bind (over_ev m (l.map cu) (by rw [List.length_map]; omega)) ?_
      refine Ev_bind (rover_ev m l (by omega)) ?_
      refine Ev_bind (prefixes_ev _ (by have := overV_len m (l.map cu); rw [List.length_map] at this; omega)) ?_
      simp only [if_true]
      exact Ev_bind awake_ev (Ev_const rfl)
  | x :: r, i, h => by
    obtain ⟨hi, hx, hr⟩ := rd39 l i x r h
    have hxi : l[i] = x := (drop_at h).2.1
    have ih := law_from m l hl r (i + 1) hr
    rw [List.take_succ_eq_append_getElem hi, List.map_append, hxi] at ih
    have hlen : ((l.take i).map cu).length < 2513169434916 := by rw [List.length_map, List.length_take]; omega
    refine Ev_shift 1 (fun k => ?_) ih
    rw [ddilaw48_UsageOver.l0, if_pos (by omega), if_pos (by omega), if_pos hlen, hx, next i l.length hi (by omega)]
    rfl
theorem usageOver : ddilaw48_UsageOver.Pure := by
  intro l m hl _
  refine Ev.rounds (?_ : Ev (fun k => ddilaw48_UsageOver.f k l m) true)
  unfold ddilaw48_UsageOver.f
  exact law_from m l hl.1 l 0 rfl
end Go.Proofs.Ytjifdgicamlikaa.Ma
namespace Go.Proofs.Ytjifdgicamlikaa.Pure
theorem UsageOver : QA.ddilaw48_UsageOver.Pure := Ma.usageOver
end Go.Proofs.Ytjifdgicamlikaa.Pure
