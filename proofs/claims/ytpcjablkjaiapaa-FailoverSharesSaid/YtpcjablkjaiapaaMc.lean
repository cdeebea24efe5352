/- A subnet's check, the reference's: it ends for every subnet, and says what its pools are. -/
import Derived.Test.YtpcjablkjaiapaaQAd
import Derived.Test.YtpcjablkjaiapaaMb
namespace Go.Proofs.Ytpcjablkjaiapaa.Mz
open Go.RowKit Go.Proofs.YtpcjablkjaiapaaW.PrintWords Go.Proofs.YtpcjablkjaiapaaW.PrintLast Go.Proofs.YtpcjablkjaiapaaW.PrintMore Go.Proofs.Ytpcjablkjaiapaa.XP Go.Proofs.Ytpcjablkjaiapaa.QA Go.Proofs.Ytpcjablkjaiapaa.Cm
set_option linter.unusedVariables false
set_option linter.unusedSimpArgs false
theorem ones_from (n : Int) : ∀ (d i : Nat) (x y : Int), 128 - i ≤ d → i ≤ 128 → Tot (fun k => ddiref03_ones.l0 k n x y (i : Int))
  | d, i, x, y, hd, hi => by
    have hf : Tot (fun k => ddiref03_ones.j1 k n x y (i : Int) false) := tshift 1 (f := fun _ => some (x, y)) (fun k => by rw [ddiref03_ones.j1, if_neg Bool.false_ne_true]) (tconst rfl)
    refine tshift 1 (fun k => by rw [ddiref03_ones.l0]) ?_
    split
    · by_cases h : (i : Int) < 128
      · rw [decide_eq_true h]
        cases d with
        | zero => exact absurd hd (by omega)
        | succ d =>
          exact tshift 1 (fun k => by rw [ddiref03_ones.j1, if_pos rfl, next i 128 (by omega) (by omega)]) (ones_from n d (i + 1) _ _ (by omega) (by omega))
      · rw [decide_eq_false h]
        exact hf
    · exact hf
theorem ones_tot (n : Int) : Tot (fun k => ddiref03_ones.f k n) := by
  unfold ddiref03_ones.f
  exact ones_from n 128 0 0 0 (by omega) (by omega)
theorem long_v (b : Bool) : ∃ v, ddiref03_Long.f b = some v := by
  unfold ddiref03_Long.f
  split <;> exact ⟨_, rfl⟩
theorem rvalid_tot (a : S26) (n : Int) : Tot (fun k => ddiref03_Valid.f k a.f0 a.f1 a.f2 n) := by
  obtain ⟨v, hv⟩ := long_v a.f0
  have hj : ∀ b : Bool, Tot (fun k => ddiref03_Valid.j0 k b a.f0 a.f1 a.f2 n) := by
    intro b
    refine tshift 1 (fun k => by rw [ddiref03_Valid.j0]) ?_
    split
    · exact tconst rfl
    · simp only [hv, Option.bind_some]
      refine tbind (ones_tot _) (fun t => ?_)
      split
      · exact tconst rfl
      · exact tconst rfl
  unfold ddiref03_Valid.f
  simp only [rad_v, Option.bind_some]
  split
  · split
    · exact hj _
    · simp only [hv, Option.bind_some]
      exact hj _
  · exact hj _
theorem rbounds_tot (a : S26) (n : Int) : Tot (fun k => ddiref03_Bounds.f k a.f0 a.f1 a.f2 n) := by
  obtain ⟨v, hv⟩ := long_v a.f0
  unfold ddiref03_Bounds.f
  refine tbind (rvalid_tot a n) (fun t => ?_)
  split
  · simp only [hv, Option.bind_some]
    exact tbind (ones_tot _) (fun _ => tconst rfl)
  · exact tconst rfl
theorem rof_tot (a : S26) (n : Int) : Tot (fun k => ddiref03_Of.f k a.f0 a.f1 a.f2 n) := by
  obtain ⟨v, hv⟩ := long_v a.f0
  have hj : ∀ b : Bool, Tot (fun k => ddiref03_Of.j0 k n b a.f0 a.f1 a.f2) := by
    intro b
    refine tshift 1 (fun k => by rw [ddiref03_Of.j0]) ?_
    split
    · exact tconst rfl
    · simp only [hv, Option.bind_some]
      exact tbind (ones_tot _) (fun _ => tconst rfl)
  unfold ddiref03_Of.f
  simp only [rad_v, Option.bind_some]
  split
  · split
    · exact hj _
    · simp only [hv, Option.bind_some]
      exact hj _
  · exact hj _
theorem rcontains_ev (p a : S26) (n : Int) : ∃ b, Ev (fun k => ddiref03_Contains.f k p.f0 p.f1 p.f2 n a.f0 a.f1 a.f2) b ∧ (b = true → a.f0 = p.f0 ∧ adB a = true) := by
  have hf : Ev (fun k => ddiref03_Contains.j0 k true p.f0 p.f1 p.f2 n a.f0 a.f1 a.f2) false := Ev_shift 1 (f := fun _ => some false) (fun k => by rw [ddiref03_Contains.j0, if_pos rfl]) (Ev_const rfl)
  obtain ⟨t, ht⟩ := rvalid_tot p n
  unfold ddiref03_Contains.f
  simp only [rad_v, Option.bind_some]
  cases t with
  | false => exact ⟨false, Ev.bind ht (by simpa using hf), fun h => by cases h⟩
  | true =>
    cases hd : adB a with
    | false => exact ⟨false, Ev.bind ht (by simpa using hf), fun h => by cases h⟩
    | true =>
      cases hb : (p.f0 != a.f0) with
      | true => exact ⟨false, Ev.bind ht (by simpa using hf), fun h => by cases h⟩
      | false =>
        have hpa : a.f0 = p.f0 := by
          have : ¬ (p.f0 ≠ a.f0) := by simpa using hb
          exact (Decidable.not_not.1 this).symm
        obtain ⟨v, hv⟩ := rof_tot a n
        refine ⟨((v.1 == p.f0 && (v.2.1 == p.f1 && (v.2.2.1 == p.f2))) && (v.2.2.2.1 == n)), Ev.bind ht ?_, fun _ => ⟨hpa, rfl⟩⟩
        simp only [if_true]
        refine Ev_shift 1 (fun k => by rw [ddiref03_Contains.j0, if_neg Bool.false_ne_true]) ?_
        exact Ev.bind hv (Ev_const rfl)
theorem usable_ev (p a : S26) (n : Int) : ∃ b, Ev (fun k => ddiref37_usable.f k p.f0 p.f1 p.f2 n a.f0 a.f1 a.f2) b ∧ (b = true → a.f0 = p.f0 ∧ adB a = true) := by
  obtain ⟨v, hv⟩ := rbounds_tot p n
  obtain ⟨b, hb, hi⟩ := rcontains_ev p a n
  unfold ddiref37_usable.f
  cases h7 : v.2.2.2.2.2.2 with
  | false => exact ⟨false, Ev.bind hv (by rw [h7]; exact Ev_const rfl), fun h => by cases h⟩
  | true =>
    cases b with
    | false => exact ⟨false, Ev.bind hv (by rw [h7]; simp only [if_true]; exact Ev.bind hb (Ev_const rfl)), fun h => by cases h⟩
    | true =>
      have : Tot (fun k : Nat => if (!(a.f0 == v.1) || (!(a.f1 == v.2.1) || (!(a.f2 == v.2.2.1)))) = true then (some (!(a.f0 == v.2.2.2.1) || (!(a.f1 == v.2.2.2.2.1) || (!(a.f2 == v.2.2.2.2.2.1))))) else (some false)) := by
        split
        · exact tconst rfl
        · exact tconst rfl
      obtain ⟨r, hr⟩ := this
      exact ⟨r, Ev.bind hv (by rw [h7]; simp only [if_true]; exact Ev.bind hb hr), fun _ => hi rfl⟩
theorem rin_v (r : S64) (a : S26) : ddiref37_inside.f r.f0.f0 r.f0.f1 r.f0.f2 r.f1.f0 r.f1.f1 r.f1.f2 a.f0 a.f1 a.f2 = some (pin r a) := by
  unfold ddiref37_inside.f pin
  rw [rcmp, Option.bind_some]
  split
  · rename_i h
    rw [rcmp, Option.bind_some, decide_eq_true h, Bool.true_and]
  · rename_i h
    rw [decide_eq_false h, Bool.false_and]
theorem rov_from (p : S26) (n : Int) (c : ByteArray) (l : List S64) (hl : l.length ≤ 140737488351232) (q : List S55) (o : List S57) (t : Int) (y : S64) (m : Nat) (hm : m ≤ l.length) (R : Int) (hR : Ev (fun k => ddiref37_checkPools.l0 k (wrap64 ((m : Int) + 1)) p.f0 p.f1 p.f2 n c l q o t) R) :
    ∀ (r : List S64) (j : Nat), (l.take m).drop j = r → Ev (fun k => ddiref37_checkPools.l1 k (m : Int) (j : Int) p.f0 p.f1 p.f2 n c l q o t y.f0.f0 y.f0.f1 y.f0.f2 y.f1.f0 y.f1.f1 y.f1.f2) (if r.any (fun x => ovB x y) = true then 24 else R)
  | [], j, h => by
    have := drop_end h
    rw [List.length_take] at this
    exact Ev_shift 1 (fun k => by rw [ddiref37_checkPools.l1, if_neg (by omega)]) hR
  | x :: r, j, h => by
    obtain ⟨hj, hx, hr⟩ := drop_at h
    rw [List.length_take] at hj
    have ih := rov_from p n c l hl q o t y m hm R hR r (j + 1) hr
    have hxl : rd_T64 l (j : Int) = x := by
      rw [List.getElem_take] at hx
      simp [rd_T64, List.getD_eq_getElem?_getD, List.getElem?_eq_getElem (show j < l.length by omega), hx]
    have hj3 : ∀ b : Bool, Ev (fun k => ddiref37_checkPools.j3 k (m : Int) (j : Int) b p.f0 p.f1 p.f2 n c l q o t y.f0.f0 y.f0.f1 y.f0.f2 y.f1.f0 y.f1.f1 y.f1.f2) (if b = true then 24 else (if r.any (fun x => ovB x y) = true then 24 else R)) := by
      intro b
      cases b with
      | true => exact Ev_shift 1 (f := fun _ => some 24) (fun k => by rw [ddiref37_checkPools.j3, if_pos rfl]) (Ev_const rfl)
      | false => exact Ev_shift 1 (fun k => by rw [ddiref37_checkPools.j3, if_neg Bool.false_ne_true, next j l.length (by omega) (by omega)]) ih
    rw [List.any_cons]
    have e : (if (ovB x y || r.any (fun x => ovB x y)) = true then (24 : Int) else R) = (if ovB x y = true then 24 else (if r.any (fun x => ovB x y) = true then 24 else R)) := by
      cases ovB x y <;> rfl
    rw [e]
    refine Ev_shift 1 (fun k => by rw [ddiref37_checkPools.l1, if_pos (by omega), if_pos (by omega), if_pos (by omega), hxl, rin_v y x.f0, Option.bind_some, rin_v x y.f0, Option.bind_some]) ?_
    have ho : ovB x y = (pin x y.f0 || pin y x.f0) := rfl
    cases h1 : pin y x.f0 with
    | true =>
      rw [ho, h1, Bool.or_true]
      exact hj3 true
    | false =>
      rw [ho, h1, Bool.or_false]
      exact hj3 (pin x y.f0)
theorem rpools_from (p : S26) (n : Int) (c : ByteArray) (l : List S64) (hl : l.length ≤ 140737488351232) (q : List S55) (o : List S57) (t : Int) : ∀ (r : List S64) (i : Nat), l.drop i = r → ∃ v, Ev (fun k => ddiref37_checkPools.l0 k (i : Int) p.f0 p.f1 p.f2 n c l q o t) v ∧ (v = 0 → PO p (l.take i) r)
  | [], i, h => by
    have := drop_end h
    exact ⟨0, Ev_shift 1 (f := fun _ => some 0) (fun k => by rw [ddiref37_checkPools.l0, if_neg (by omega)]) (Ev_const rfl), fun _ => trivial⟩
  | y :: r, i, h => by
    obtain ⟨hi, hy, hr⟩ := rd57 l i y r h
    obtain ⟨v, hv, hp⟩ := rpools_from p n c l hl q o t r (i + 1) hr
    have htk : l.take (i + 1) = l.take i ++ [y] := by
      obtain ⟨h1, h2, _⟩ := drop_at h
      rw [List.take_succ_eq_append_getElem h1, h2]
    rw [htk] at hp
    obtain ⟨b1, hb1, hi1⟩ := usable_ev p y.f0 n
    obtain ⟨b2, hb2, hi2⟩ := usable_ev p y.f1 n
    have h3 : Ev (fun k => ddiref37_checkPools.j1 k (i : Int) true p.f0 p.f1 p.f2 n c l q o t y.f0.f0 y.f0.f1 y.f0.f2 y.f1.f0 y.f1.f1 y.f1.f2) 3 := Ev_shift 1 (f := fun _ => some 3) (fun k => by rw [ddiref37_checkPools.j1, if_pos rfl]) (Ev_const rfl)
    have hst : ∀ {w : Int}, Ev (fun k => (ddiref37_usable.f k p.f0 p.f1 p.f2 n y.f0.f0 y.f0.f1 y.f0.f2).bind fun t345 => (if t345 = true then ((ddiref37_usable.f k p.f0 p.f1 p.f2 n y.f1.f0 y.f1.f1 y.f1.f2).bind fun t346 => (if t346 = true then (ddiref37_checkPools.j1 k (i : Int) (decide (cmp y.f1 y.f0 < 0)) p.f0 p.f1 p.f2 n c l q o t y.f0.f0 y.f0.f1 y.f0.f2 y.f1.f0 y.f1.f1 y.f1.f2) else (ddiref37_checkPools.j1 k (i : Int) true p.f0 p.f1 p.f2 n c l q o t y.f0.f0 y.f0.f1 y.f0.f2 y.f1.f0 y.f1.f1 y.f1.f2))) else (ddiref37_checkPools.j1 k (i : Int) true p.f0 p.f1 p.f2 n c l q o t y.f0.f0 y.f0.f1 y.f0.f2 y.f1.f0 y.f1.f1 y.f1.f2))) w → Ev (fun k => ddiref37_checkPools.l0 k (i : Int) p.f0 p.f1 p.f2 n c l q o t) w := by
      intro w hw
      exact Ev_shift 1 (fun k => by rw [ddiref37_checkPools.l0, if_pos (by omega), if_pos (by omega), hy, rcmp]; rfl) hw
    cases b1 with
    | false => exact ⟨3, hst (Ev.bind hb1 (by simpa using h3)), fun h => by cases h⟩
    | true =>
      cases b2 with
      | false => exact ⟨3, hst (Ev.bind hb1 (by simp only [if_true]; exact Ev.bind hb2 (by simpa using h3))), fun h => by cases h⟩
      | true =>
        have hfl := cmp_flip y.f0 y.f1
        by_cases hc : cmp y.f1 y.f0 < 0
        · refine ⟨3, hst (Ev.bind hb1 ?_), fun h => by cases h⟩
          simp only [if_true]
          refine Ev.bind hb2 ?_
          simp only [if_true]
          rw [decide_eq_true hc]
          exact h3
        · have hgo : ∀ {w : Int}, Ev (fun k => ddiref37_checkPools.j1 k (i : Int) false p.f0 p.f1 p.f2 n c l q o t y.f0.f0 y.f0.f1 y.f0.f2 y.f1.f0 y.f1.f1 y.f1.f2) w → Ev (fun k => ddiref37_checkPools.l0 k (i : Int) p.f0 p.f1 p.f2 n c l q o t) w := by
            intro w hw
            refine hst (Ev.bind hb1 ?_)
            simp only [if_true]
            refine Ev.bind hb2 ?_
            simp only [if_true]
            rw [decide_eq_false hc]
            exact hw
          have hov := rov_from p n c l hl q o t y i (by omega) v (by rw [next i l.length hi (by omega)]; exact hv) (l.take i) 0 rfl
          refine ⟨_, hgo (Ev_shift 1 (fun k => by rw [ddiref37_checkPools.j1, if_neg Bool.false_ne_true]; rfl) hov), fun h => ?_⟩
          split at h
          · cases h
          · rename_i ho
            exact ⟨⟨hi1 rfl, hi2 rfl, by omega⟩, by simpa using ho, hp h⟩
end Go.Proofs.Ytpcjablkjaiapaa.Mz
