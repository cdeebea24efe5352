/- A subnet's check, the reference's (rest). -/
import Derived.Test.YtpcjablkjaiapaaQAd
import Derived.Test.YtpcjablkjaiapaaMc
namespace Go.Proofs.Ytpcjablkjaiapaa.Mz
open Go.RowKit Go.Proofs.YtpcjablkjaiapaaW.PrintWords Go.Proofs.YtpcjablkjaiapaaW.PrintLast Go.Proofs.YtpcjablkjaiapaaW.PrintMore Go.Proofs.Ytpcjablkjaiapaa.XP Go.Proofs.Ytpcjablkjaiapaa.QA Go.Proofs.Ytpcjablkjaiapaa.Cm
set_option linter.unusedVariables false
set_option linter.unusedSimpArgs false
theorem lab_from (s : ByteArray) (hs : s.size ≤ 140737488351232) : ∀ (d i : Nat), s.size - i ≤ d → i ≤ s.size → Tot (fun k => ddiref01_isLabel.l0 k s (i : Int))
  | d, i, hd, hi => by
    by_cases h : i < s.size
    · cases d with
      | zero => exact absurd hd (by omega)
      | succ d =>
        have ih := lab_from s hs d (i + 1) (by omega) (by omega)
        have hj : ∀ b : Bool, Tot (fun k => ddiref01_isLabel.j2 k s (i : Int) b) := by
          intro b
          refine tshift 1 (fun k => by rw [ddiref01_isLabel.j2, next i s.size h (by omega)]) ?_
          split
          · exact tconst rfl
          · exact ih
        refine tshift 1 (fun k => by rw [ddiref01_isLabel.l0, if_pos (by omega), if_pos (by omega)]) ?_
        repeat' split
        all_goals exact hj _
    · exact tshift 1 (f := fun _ => some true) (fun k => by rw [ddiref01_isLabel.l0, if_neg (by omega)]) (tconst rfl)
theorem lab_tot (s : ByteArray) (hs : s.size ≤ 140737488351232) : Tot (fun k => ddiref01_isLabel.f k s) := by
  have hj : ∀ b : Bool, Tot (fun k => ddiref01_isLabel.j0 k s b) := by
    intro b
    refine tshift 1 (fun k => by rw [ddiref01_isLabel.j0]) ?_
    split
    · exact tconst rfl
    · exact lab_from s hs s.size 0 (by omega) (by omega)
  unfold ddiref01_isLabel.f
  split
  · exact tconst rfl
  · split
    · exact hj _
    · exact hj _
theorem split_from (s : ByteArray) (hs : s.size ≤ 254) : ∀ (d i st : Nat) (q : List ByteArray), s.size - i ≤ d → i ≤ s.size → st ≤ i → q.length ≤ i → Tot (fun k => ddiref01_split.l0 k s q (st : Int) (i : Int))
  | d, i, st, q, hd, hi, hst, hq => by
    by_cases h : i < s.size
    · cases d with
      | zero => exact absurd hd (by omega)
      | succ d =>
        have ih := fun st q h1 h2 => split_from s hs d (i + 1) st q (by omega) (by omega) h1 h2
        have hj : ∀ (z : ByteArray) (b : Bool), Tot (fun k => ddiref01_split.j2 k s q (i : Int) z b) := by
          intro z b
          refine tshift 1 (fun k => by rw [ddiref01_split.j2, next i s.size h (by omega)]) ?_
          split
          · exact tconst rfl
          · simp only [if_pos (show q.length < 8796093022208 by omega)]
            exact ih (i + 1) (q ++ [z]) (by omega) (by simp; omega)
        refine tshift 1 (fun k => by rw [ddiref01_split.l0, if_pos (by omega), if_pos (by omega), next i s.size h (by omega)]) ?_
        split
        · simp only [if_pos (show (0 : Int) ≤ (st : Int) by omega), if_pos (show (st : Int) ≤ (i : Int) by omega), if_pos (show (i : Int) ≤ (s.size : Int) by omega)]
          refine tbind (lab_tot _ (by rw [size_data, data_ext, List.length_take, List.length_drop, ← size_data]; omega)) (fun t => ?_)
          split
          · split
            · exact hj _ _
            · exact hj _ _
          · exact hj _ _
        · exact ih st q (by omega) (by omega)
    · exact tshift 1 (f := fun _ => some (q, true)) (fun k => by rw [ddiref01_split.l0, if_neg (by omega)]) (tconst rfl)
theorem rname_tot (s : ByteArray) : Tot (fun k => ddiref01_Valid.f k s) := by
  unfold ddiref01_Valid.f
  refine tbind ?_ (fun _ => tconst rfl)
  unfold ddiref01_split.f
  split
  · exact tconst rfl
  · split
    · exact tshift 1 (f := fun _ => some ([], false)) (fun k => by rw [ddiref01_split.j0, if_pos rfl]) (tconst rfl)
    · split
      · exact tshift 1 (f := fun _ => some ([], false)) (fun k => by rw [ddiref01_split.j0, if_pos rfl]) (tconst rfl)
      · rename_i h1 h2
        have hw : wrap64 ((s.size : Int) - 1) = (s.size : Int) - 1 := wrap_id (by omega) (by omega)
        simp only [hw, if_pos (show 0 ≤ (s.size : Int) - 1 by omega), if_pos (show (s.size : Int) - 1 < (s.size : Int) by omega)]
        refine tshift 1 (fun k => by rw [ddiref01_split.j0]) ?_
        split
        · exact tconst rfl
        · exact split_from s (by omega) s.size 0 0 [] (by omega) (by omega) (by omega) (by simp)
theorem rcli_from (s : ByteArray) (hs : s.size ≤ 140737488351232) : ∀ (d i : Nat), s.size - i ≤ d → i ≤ s.size → Tot (fun k => ddiref37_client.l0 k s (i : Int))
  | d, i, hd, hi => by
    by_cases h : i < s.size
    · cases d with
      | zero => exact absurd hd (by omega)
      | succ d =>
        have ih := rcli_from s hs d (i + 1) (by omega) (by omega)
        have hj : ∀ b : Bool, Tot (fun k => ddiref37_client.j2 k s (i : Int) b) := by
          intro b
          refine tshift 1 (fun k => by rw [ddiref37_client.j2, next i s.size h (by omega)]) ?_
          split
          · exact tconst rfl
          · exact ih
        refine tshift 1 (fun k => by rw [ddiref37_client.l0, if_pos (by omega), if_pos (by omega)]) ?_
        split
        · exact hj _
        · exact hj _
    · exact tshift 1 (f := fun _ => some true) (fun k => by rw [ddiref37_client.l0, if_neg (by omega)]) (tconst rfl)
theorem rcli_tot (s : ByteArray) (hs : s.size ≤ 140737488351232) : Tot (fun k => ddiref37_client.f k s) := by
  have hj : ∀ b : Bool, Tot (fun k => ddiref37_client.j0 k s b) := by
    intro b
    refine tshift 1 (fun k => by rw [ddiref37_client.j0]) ?_
    split
    · exact tconst rfl
    · exact rcli_from s hs s.size 0 (by omega) (by omega)
  unfold ddiref37_client.f
  split
  · exact hj _
  · exact hj _
theorem rres_in (p : S26) (n : Int) (c : ByteArray) (l : List S64) (q : List S55) (hq : q.length ≤ 140737488351232) (o : List S57) (t : Int) (y : S55) (m : Nat) (hm : m ≤ q.length) (hR : Tot (fun k => ddiref37_checkReserved.l0 k (wrap64 ((m : Int) + 1)) p.f0 p.f1 p.f2 n c l q o t)) :
    ∀ (d j : Nat), m - j ≤ d → j ≤ m → Tot (fun k => ddiref37_checkReserved.l1 k (m : Int) (j : Int) p.f0 p.f1 p.f2 n c l q o t y.f0 y.f1.f0 y.f1.f1 y.f1.f2 y.f2)
  | d, j, hd, hj => by
    by_cases h : j < m
    · cases d with
      | zero => exact absurd hd (by omega)
      | succ d =>
        have ih := rres_in p n c l q hq o t y m hm hR d (j + 1) (by omega) (by omega)
        have h2 : ∀ b : Bool, Tot (fun k => ddiref37_checkReserved.j2 k (m : Int) (j : Int) b p.f0 p.f1 p.f2 n c l q o t y.f0 y.f1.f0 y.f1.f1 y.f1.f2 y.f2) := by
          intro b
          refine tshift 1 (fun k => by rw [ddiref37_checkReserved.j2, next j m h (by omega)]) ?_
          split
          · exact tconst rfl
          · exact ih
        refine tshift 1 (fun k => by rw [ddiref37_checkReserved.l1, if_pos (by omega), if_pos (by omega), if_pos (by omega)]) ?_
        split
        · exact h2 _
        · exact h2 _
    · have h3 : ∀ b : Bool, Tot (fun k => ddiref37_checkReserved.j3 k (m : Int) b p.f0 p.f1 p.f2 n c l q o t) := by
        intro b
        refine tshift 1 (fun k => by rw [ddiref37_checkReserved.j3]) ?_
        split
        · exact tconst rfl
        · exact hR
      refine tshift 1 (fun k => by rw [ddiref37_checkReserved.l1, if_neg (by omega)]) ?_
      split
      · exact h3 _
      · exact tbind (rname_tot _) (fun _ => h3 _)
theorem rres_from (p : S26) (n : Int) (c : ByteArray) (l : List S64) (q : List S55) (hq : q.length ≤ 140737488351232) (ok : ∀ y ∈ q, okS55 y) (o : List S57) (t : Int) : ∀ (r : List S55) (i : Nat), q.drop i = r → Tot (fun k => ddiref37_checkReserved.l0 k (i : Int) p.f0 p.f1 p.f2 n c l q o t)
  | [], i, h => by
    have := drop_end h
    exact tshift 1 (f := fun _ => some 0) (fun k => by rw [ddiref37_checkReserved.l0, if_neg (by omega)]) (tconst rfl)
  | y :: r, i, h => by
    obtain ⟨hi, hy, hr⟩ := rd53 q i y r h
    have ih := rres_from p n c l q hq ok o t r (i + 1) hr
    have hym : y ∈ q := by
      obtain ⟨h1, h2, _⟩ := drop_at h
      rw [← h2]
      exact List.getElem_mem h1
    refine tshift 1 (fun k => by rw [ddiref37_checkReserved.l0, if_pos (by omega), if_pos (by omega), hy]) ?_
    refine tbind (rcli_tot y.f0 (ok y hym).1) (fun b1 => ?_)
    split
    · obtain ⟨b2, h2, _⟩ := usable_ev p y.f1 n
      refine tbind ⟨b2, h2⟩ (fun b2 => ?_)
      split
      · exact rres_in p n c l q hq o t y i (by omega) (by rw [next i q.length hi (by omega)]; exact ih) i 0 (by omega) (by omega)
      · exact tconst rfl
    · exact tconst rfl
theorem rindex_from (o : List S57) (ho : o.length ≤ 140737488351232) (v : Int) : ∀ (r : List S57) (i : Nat), o.drop i = r → Tot (fun k => ddiref35_index.l0 k o v (i : Int))
  | [], i, h => by
    have := drop_end h
    exact tshift 1 (f := fun _ => some (-1)) (fun k => by rw [ddiref35_index.l0, if_neg (by omega)]) (tconst rfl)
  | y :: r, i, h => by
    obtain ⟨hi, hy, hr⟩ := rd83 o i y r h
    have ih := rindex_from o ho v r (i + 1) hr
    refine tshift 1 (fun k => by rw [ddiref35_index.l0, if_pos (by omega), if_pos (by omega), next i o.length hi (by omega)]) ?_
    split
    · exact tconst rfl
    · exact ih
theorem rval_from (o : List S57) (ho : o.length ≤ 140737488351232) : ∀ (r : List S57) (i : Nat) (x : Int), o.drop i = r → Tot (fun k => ddiref35_Valid.l0 k o x (i : Int))
  | [], i, x, h => by
    have := drop_end h
    exact tshift 1 (f := fun _ => some (decide (x ≤ 4096))) (fun k => by rw [ddiref35_Valid.l0, if_neg (by omega)]) (tconst rfl)
  | y :: r, i, x, h => by
    obtain ⟨hi, hy, hr⟩ := rd83 o i y r h
    have ih := fun x => rval_from o ho r (i + 1) x hr
    have hj : ∀ (x : Int) (b : Bool), Tot (fun k => ddiref35_Valid.j1 k o x (i : Int) b) := by
      intro x b
      refine tshift 1 (fun k => by rw [ddiref35_Valid.j1, next i o.length hi (by omega)]) ?_
      split
      · exact tconst rfl
      · exact ih x
    refine tshift 1 (fun k => by rw [ddiref35_Valid.l0, if_pos (by omega), if_pos (by omega)]) ?_
    split
    · exact hj _ _
    · split
      · exact hj _ _
      · split
        · exact hj _ _
        · refine tbind ?_ (fun _ => hj _ _)
          unfold ddiref35_index.f
          exact rindex_from o ho _ o 0 rfl
theorem rval_tot (o : List S57) (ho : o.length ≤ 140737488351232) : Tot (fun k => ddiref35_Valid.f k o) := by
  unfold ddiref35_Valid.f
  split
  · exact tconst rfl
  · exact rval_from o ho o 0 0 rfl
theorem rcheck_ev (p : S26) (n : Int) (c : ByteArray) (l : List S64) (hl : l.length ≤ 140737488351232) (q : List S55) (hq : q.length ≤ 140737488351232) (ok : ∀ y ∈ q, okS55 y) (o : List S57) (ho : o.length ≤ 140737488351232) (t : Int) : ∃ v, Ev (fun k => ddiref37_Check.f k p.f0 p.f1 p.f2 n c l q o t) v ∧ (v = 0 → p.f0 = false ∧ PO p [] l) := by
  have h2 : ∀ b : Bool, Tot (fun k => ddiref37_Check.j2 k b) := by
    intro b
    refine tshift 1 (fun k => by rw [ddiref37_Check.j2]) ?_
    split <;> exact tconst rfl
  have h1 : ∀ b : Bool, ∃ v, Ev (fun k => ddiref37_Check.j1 k b p.f0 p.f1 p.f2 n c l q o t) v ∧ (v = 0 → PO p [] l) := by
    intro b
    cases b with
    | true => exact ⟨9, Ev_shift 1 (f := fun _ => some 9) (fun k => by rw [ddiref37_Check.j1, if_pos rfl]) (Ev_const rfl), fun h => by cases h⟩
    | false =>
      obtain ⟨v, hv, hp⟩ := rpools_from p n c l hl q o t l 0 rfl
      have hv' : Ev (fun k => ddiref37_checkPools.f k p.f0 p.f1 p.f2 n c l q o t) v := by
        unfold ddiref37_checkPools.f
        exact hv
      by_cases h0 : v = 0
      · have : Tot (fun k => (ddiref37_checkReserved.f k p.f0 p.f1 p.f2 n c l q o t).bind fun t622 => (if t622 = 0 then ((ddiref35_Valid.f k o).bind fun t623 => (if t623 = true then (if t < 1 then (ddiref37_Check.j2 k true) else (if t > 1073741824 then (ddiref37_Check.j2 k true) else (ddiref37_Check.j2 k (decide ((c.size : Int) > 255))))) else (ddiref37_Check.j2 k true))) else (some t622))) := by
          refine tbind ?_ (fun b => ?_)
          · unfold ddiref37_checkReserved.f
            exact rres_from p n c l q hq ok o t q 0 rfl
          · split
            · refine tbind (rval_tot o ho) (fun b => ?_)
              split
              · split
                · exact h2 _
                · split
                  · exact h2 _
                  · exact h2 _
              · exact h2 _
            · exact tconst rfl
        obtain ⟨w, hw⟩ := this
        refine ⟨w, ?_, fun _ => hp h0⟩
        refine Ev_shift 1 (fun k => by rw [ddiref37_Check.j1, if_neg Bool.false_ne_true]) (Ev.bind hv' ?_)
        simp only [if_pos h0]
        exact hw
      · refine ⟨v, ?_, fun h => absurd h h0⟩
        refine Ev_shift 1 (fun k => by rw [ddiref37_Check.j1, if_neg Bool.false_ne_true]) (Ev.bind hv' ?_)
        simp only [if_neg h0]
        exact Ev_const rfl
  have h0 : ∀ b : Bool, ∃ v, Ev (fun k => ddiref37_Check.j0 k b p.f0 p.f1 p.f2 n c l q o t) v ∧ (v = 0 → b = false ∧ PO p [] l) := by
    intro b
    cases b with
    | true => exact ⟨3, Ev_shift 1 (f := fun _ => some 3) (fun k => by rw [ddiref37_Check.j0, if_pos rfl]) (Ev_const rfl), fun h => by cases h⟩
    | false =>
      by_cases h6 : (l.length : Int) > 16
      · obtain ⟨v, hv, hp⟩ := h1 true
        exact ⟨v, Ev_shift 1 (fun k => by rw [ddiref37_Check.j0, if_neg Bool.false_ne_true, if_pos h6]) hv, fun h => ⟨rfl, hp h⟩⟩
      · obtain ⟨v, hv, hp⟩ := h1 (decide ((q.length : Int) > 16))
        exact ⟨v, Ev_shift 1 (fun k => by rw [ddiref37_Check.j0, if_neg Bool.false_ne_true, if_neg h6]) hv, fun h => ⟨rfl, hp h⟩⟩
  obtain ⟨b, hb⟩ := rvalid_tot p n
  obtain ⟨v3, hv3, hp3⟩ := h0 true
  unfold ddiref37_Check.f
  cases b with
  | false => exact ⟨v3, Ev.bind hb (by simpa using hv3), fun h => by cases (hp3 h).1⟩
  | true =>
    cases hp : p.f0 with
    | true =>
      rw [hp] at hb hv3
      exact ⟨v3, Ev.bind hb (by simpa using hv3), fun h => by cases (hp3 h).1⟩
    | false =>
      obtain ⟨v, hv, hpo⟩ := h0 (decide (n > 30))
      rw [hp] at hb hv
      refine ⟨v, Ev.bind hb ?_, fun h => ⟨rfl, (hpo h).2⟩⟩
      simp only [Bool.false_eq_true, if_false, if_true]
      exact hv
end Go.Proofs.Ytpcjablkjaiapaa.Mz
