/- A subnet's check ends, and small ends (rest). -/
import Derived.Test.YtpcjablkjaiapaaDoorQAd
import Derived.Test.YtpcjablkjaiapaaDoorQAd3
import Derived.Test.YtpcjablkjaiapaaDoorMi
namespace Go.Proofs.YtpcjablkjaiapaaDoor.Ma
open Go.RowKit Go.Proofs.YtpcjablkjaiapaaDoorW.PrintWords Go.Proofs.YtpcjablkjaiapaaDoorW.PrintLast Go.Proofs.YtpcjablkjaiapaaDoorW.PrintMore Go.Proofs.YtpcjablkjaiapaaDoor.XP Go.Proofs.YtpcjablkjaiapaaDoor.QA Go.Proofs.YtpcjablkjaiapaaDoor.Cm
set_option linter.unusedVariables false
set_option linter.unusedSimpArgs false
theorem cl1_v (n : Int) : ∃ b, pool_client_1.f n = some b := by
  unfold pool_client_1.f
  split <;> exact ⟨_, rfl⟩
theorem ix90_tot (l : List Int) (hl : l.length ≤ 140737488355328) : ∀ (r : List Int) (i : Nat), l.drop i = r → Tot (fun k => slices_IndexFunc_90.l0 k l (l.length : Int) (i : Int))
  | [], i, h => by
    have := drop_end h
    exact tshift 1 (f := fun _ => some (-1)) (fun k => by rw [slices_IndexFunc_90.l0, if_neg (by omega)]) (tconst rfl)
  | x :: r, i, h => by
    obtain ⟨hi, hx, hr⟩ := drop_at h
    have ih := ix90_tot l hl r (i + 1) hr
    obtain ⟨b, hb⟩ := cl1_v (rd l (i : Int))
    refine tshift 1 (fun k => by rw [slices_IndexFunc_90.l0, if_pos (by omega), if_pos (by omega), if_pos (by omega), hb, Option.bind_some, next i l.length hi (by omega)]) ?_
    split
    · exact tconst rfl
    · exact ih
theorem client_tot (s : ByteArray) : Tot (fun k => pool_client.f k s) := by
  unfold pool_client.f
  split
  · split
    · rename_i h1 h2
      have hc : conv_bytes_119.f s = some (bytesOf s) := by
        unfold conv_bytes_119.f XC.conv
        rw [if_pos (by omega)]
      simp only [hc, Option.bind_some]
      refine tbind ?_ (fun _ => tconst rfl)
      unfold slices_ContainsFunc_90.f slices_IndexFunc_90.f
      refine tbind (ix90_tot _ ?_ _ 0 rfl) (fun _ => tconst rfl)
      rw [bytesOf_length]
      omega
    · exact tconst rfl
  · exact tconst rfl
theorem ix70_tot (l : List S53) (hl : l.length ≤ 140737488351232) (y : S53) : ∀ (r : List S53) (i : Nat), l.drop i = r → Tot (fun k => slices_IndexFunc_70.l0 k l (l.length : Int) (i : Int) y.f0 y.f1.f0 y.f1.f1 y.f1.f2 y.f2)
  | [], i, h => by
    have := drop_end h
    exact tshift 1 (f := fun _ => some (-1)) (fun k => by rw [slices_IndexFunc_70.l0, if_neg (by omega)]) (tconst rfl)
  | x :: r, i, h => by
    obtain ⟨hi, hx, hr⟩ := rd53 l i x r h
    have ih := ix70_tot l hl y r (i + 1) hr
    have hb : ∃ b, pool_reserved_1.f x.f0 x.f1.f0 x.f1.f1 x.f1.f2 x.f2 y.f0 y.f1.f0 y.f1.f1 y.f1.f2 y.f2 = some b := by
      unfold pool_reserved_1.f
      split <;> exact ⟨_, rfl⟩
    obtain ⟨b, hb⟩ := hb
    refine tshift 1 (fun k => by rw [slices_IndexFunc_70.l0, if_pos (by omega), if_pos (by omega), if_pos (by omega), hx, hb, Option.bind_some, next i l.length hi (by omega)]) ?_
    split
    · exact tconst rfl
    · exact ih
theorem reserved_from (p : S25) (n : Int) (c : ByteArray) (l : List S57) (q : List S53) (hq : q.length ≤ 140737488351232) (ok : ∀ y ∈ q, okS53 y) (o : List S83) (t : Int) : ∀ (r : List S53) (i : Nat), q.drop i = r → Tot (fun k => pool_reserved.l0 k q (q.length : Int) (i : Int) p.f0 p.f1 p.f2 n c l q o t)
  | [], i, h => by
    have := drop_end h
    exact tshift 1 (f := fun _ => some 0) (fun k => by rw [pool_reserved.l0, if_neg (by omega)]) (tconst rfl)
  | y :: r, i, h => by
    obtain ⟨hi, hy, hr⟩ := rd53 q i y r h
    have ih := reserved_from p n c l q hq ok o t r (i + 1) hr
    have hym : y ∈ q := by
      obtain ⟨h1, h2, _⟩ := drop_at h
      rw [← h2]
      exact List.getElem_mem h1
    have hj : ∀ b : Bool, Tot (fun k => pool_reserved.j1 k q (q.length : Int) (i : Int) b p.f0 p.f1 p.f2 n c l q o t) := by
      intro b
      refine tshift 1 (fun k => by rw [pool_reserved.j1, next i q.length hi (by omega)]) ?_
      split
      · exact tconst rfl
      · exact ih
    refine tshift 1 (fun k => by rw [pool_reserved.l0, if_pos (by omega), if_pos (by omega), if_pos (by omega), hy]) ?_
    refine tbind (client_tot y.f0) (fun b1 => ?_)
    split
    · obtain ⟨b2, h2, _⟩ := leased_ev p y.f1 n
      refine tbind ⟨b2, h2⟩ (fun b2 => ?_)
      split
      · simp only [if_pos (show (i : Int) ≤ (q.length : Int) by omega)]
        refine tbind ?_ (fun b3 => ?_)
        · unfold slices_ContainsFunc_70.f slices_IndexFunc_70.f
          exact tbind (ix70_tot _ (by rw [List.length_take]; omega) y _ 0 rfl) (fun _ => tconst rfl)
        · split
          · exact tconst rfl
          · split
            · exact hj _
            · exact tbind ⟨_, name_ev y.f2 (ok y hym).2.2⟩ (fun _ => hj _)
      · exact tconst rfl
    · exact tconst rfl
theorem osize_tot (l : List S83) (hl : l.length ≤ 140737488351232) : ∀ (r : List S83) (i : Nat) (x : Int), l.drop i = r → Tot (fun k => option_size.l0 k x l (l.length : Int) (i : Int))
  | [], i, x, h => by
    have := drop_end h
    exact tshift 1 (f := fun _ => some x) (fun k => by rw [option_size.l0, if_neg (by omega)]) (tconst rfl)
  | y :: r, i, x, h => by
    obtain ⟨hi, hy, hr⟩ := rd83 l i y r h
    exact tshift 1 (fun k => by rw [option_size.l0, if_pos (by omega), if_pos (by omega), if_pos (by omega), next i l.length hi (by omega)]) (osize_tot l hl r (i + 1) _ hr)
theorem ofind_tot (l : List S83) (hl : l.length ≤ 140737488351232) (n : Int) : ∀ (r : List S83) (i : Nat), l.drop i = r → Tot (fun k => option_Find.l0 k n l (l.length : Int) (i : Int))
  | [], i, h => by
    have := drop_end h
    exact tshift 1 (f := fun _ => some (⟨#[]⟩, false)) (fun k => by rw [option_Find.l0, if_neg (by omega)]) (tconst rfl)
  | y :: r, i, h => by
    obtain ⟨hi, hy, hr⟩ := rd83 l i y r h
    refine tshift 1 (fun k => by rw [option_Find.l0, if_pos (by omega), if_pos (by omega), if_pos (by omega), next i l.length hi (by omega)]) ?_
    split
    · exact tconst rfl
    · exact ofind_tot l hl n r (i + 1) hr
theorem ovalid_from (l : List S83) (hl : l.length ≤ 140737488351232) : ∀ (r : List S83) (i : Nat), l.drop i = r → Tot (fun k => option_Valid.l0 k l l (l.length : Int) (i : Int))
  | [], i, h => by
    have := drop_end h
    exact tshift 1 (f := fun _ => some true) (fun k => by rw [option_Valid.l0, if_neg (by omega)]) (tconst rfl)
  | y :: r, i, h => by
    obtain ⟨hi, hy, hr⟩ := rd83 l i y r h
    have ih := ovalid_from l hl r (i + 1) hr
    have hj : ∀ b : Bool, Tot (fun k => option_Valid.j2 k l l (l.length : Int) (i : Int) b) := by
      intro b
      refine tshift 1 (fun k => by rw [option_Valid.j2, next i l.length hi (by omega)]) ?_
      split
      · exact tconst rfl
      · exact ih
    refine tshift 1 (fun k => by rw [option_Valid.l0, if_pos (by omega), if_pos (by omega), if_pos (by omega), if_pos (by omega)]) ?_
    refine tbind ?_ (fun b => ?_)
    · unfold option_Find.f
      exact ofind_tot _ (by rw [List.length_take]; omega) _ _ 0 rfl
    · split
      · exact hj _
      · have hc : ∃ b, option_isCode.f (rd_T83 l (i : Int)).f0 = some b := by
          unfold option_isCode.f
          split <;> exact ⟨_, rfl⟩
        obtain ⟨b, hb⟩ := hc
        simp only [hb, Option.bind_some]
        split
        · exact hj _
        · exact hj _
theorem ovalid_tot (l : List S83) (hl : l.length ≤ 140737488351232) : Tot (fun k => option_Valid.f k l) := by
  have hj : ∀ b : Bool, Tot (fun k => option_Valid.j0 k l b) := by
    intro b
    refine tshift 1 (fun k => by rw [option_Valid.j0]) ?_
    split
    · exact tconst rfl
    · exact ovalid_from l hl l 0 rfl
  unfold option_Valid.f
  split
  · exact hj _
  · refine tbind ?_ (fun _ => hj _)
    unfold option_size.f
    exact osize_tot l hl l 0 0 rfl
theorem pcheck_ev (p : S25) (n : Int) (c : ByteArray) (l : List S57) (hl : l.length ≤ 140737488351232) (q : List S53) (hq : q.length ≤ 140737488351232) (ok : ∀ y ∈ q, okS53 y) (o : List S83) (ho : o.length ≤ 140737488351232) (t : Int) : ∃ v, Ev (fun k => pool_Check.f k p.f0 p.f1 p.f2 n c l q o t) v ∧ (v = 0 → p.f0 = false ∧ PO p [] l) := by
  have h2 : ∀ b : Bool, Tot (fun k => pool_Check.j2 k b) := by
    intro b
    refine tshift 1 (fun k => by rw [pool_Check.j2]) ?_
    split <;> exact tconst rfl
  have h1 : ∀ b : Bool, ∃ v, Ev (fun k => pool_Check.j1 k b p.f0 p.f1 p.f2 n c l q o t) v ∧ (v = 0 → PO p [] l) := by
    intro b
    cases b with
    | true => exact ⟨9, Ev_shift 1 (f := fun _ => some 9) (fun k => by rw [pool_Check.j1, if_pos rfl]) (Ev_const rfl), fun h => by cases h⟩
    | false =>
      obtain ⟨v, hv, hp⟩ := pools_from p n c l hl q o t l 0 rfl
      have hv' : Ev (fun k => pool_pools.f k p.f0 p.f1 p.f2 n c l q o t) v := by
        unfold pool_pools.f
        exact hv
      by_cases h0 : v = 0
      · have : Tot (fun k => (pool_reserved.f k p.f0 p.f1 p.f2 n c l q o t).bind fun t622 => (if t622 = 0 then ((option_Valid.f k o).bind fun t623 => (if t623 = true then (if t < 1 then (pool_Check.j2 k true) else (if t > 1073741824 then (pool_Check.j2 k true) else (pool_Check.j2 k (decide ((c.size : Int) > 255))))) else (pool_Check.j2 k true))) else (some t622))) := by
          refine tbind ?_ (fun b => ?_)
          · unfold pool_reserved.f
            exact reserved_from p n c l q hq ok o t q 0 rfl
          · split
            · refine tbind (ovalid_tot o ho) (fun b => ?_)
              split
              · split
                · exact h2 _
                · split
                  · exact h2 _
                  · exact h2 _
              · exact h2 _
            · exact tconst rfl
        obtain ⟨w, hw⟩ := this
        refine ⟨w, ?_, fun _ => hp h0⟩
        refine Ev_shift 1 (fun k => by rw [pool_Check.j1, if_neg Bool.false_ne_true]) (Ev.bind hv' ?_)
        simp only [if_pos h0]
        exact hw
      · refine ⟨v, ?_, fun h => absurd h h0⟩
        refine Ev_shift 1 (fun k => by rw [pool_Check.j1, if_neg Bool.false_ne_true]) (Ev.bind hv' ?_)
        simp only [if_neg h0]
        exact Ev_const rfl
  have h0 : ∀ b : Bool, ∃ v, Ev (fun k => pool_Check.j0 k b p.f0 p.f1 p.f2 n c l q o t) v ∧ (v = 0 → b = false ∧ PO p [] l) := by
    intro b
    cases b with
    | true => exact ⟨3, Ev_shift 1 (f := fun _ => some 3) (fun k => by rw [pool_Check.j0, if_pos rfl]) (Ev_const rfl), fun h => by cases h⟩
    | false =>
      by_cases h6 : (l.length : Int) > 16
      · obtain ⟨v, hv, hp⟩ := h1 true
        exact ⟨v, Ev_shift 1 (fun k => by rw [pool_Check.j0, if_neg Bool.false_ne_true, if_pos h6]) hv, fun h => ⟨rfl, hp h⟩⟩
      · obtain ⟨v, hv, hp⟩ := h1 (decide ((q.length : Int) > 16))
        exact ⟨v, Ev_shift 1 (fun k => by rw [pool_Check.j0, if_neg Bool.false_ne_true, if_neg h6]) hv, fun h => ⟨rfl, hp h⟩⟩
  obtain ⟨b, hb⟩ := valid_tot p n
  obtain ⟨v3, hv3, hp3⟩ := h0 true
  unfold pool_Check.f
  cases b with
  | false => exact ⟨v3, Ev.bind hb (by simpa using hv3), fun h => by cases (hp3 h).1⟩
  | true =>
    cases hp : p.f0 with
    | true =>
      rw [hp] at hb hv3
      exact ⟨v3, Ev.bind hb (by simpa using hv3), fun h => by cases (hp3 h).1⟩
    | false =>
      obtain ⟨v, hv, hpo⟩ := h0 (decide (n > 30))
      rw [hp] at hb hv
      refine ⟨v, Ev.bind hb ?_, fun h => ⟨rfl, (hpo h).2⟩⟩
      simp only [Bool.false_eq_true, if_false, if_true]
      exact hv
theorem small1 (p : S25) (n : Int) (c : ByteArray) (l : List S57) (q : List S53) (o : List S83) (ho : o.length ≤ 140737488351232) (t : Int) : ∀ (r : List S83) (i : Nat), o.drop i = r → Tot (fun k => ddilaw44_small.l1 k (i : Int) p.f0 p.f1 p.f2 n c l q o t)
  | [], i, h => by
    have := drop_end h
    exact tshift 1 (f := fun _ => some true) (fun k => by rw [ddilaw44_small.l1, if_neg (by omega)]) (tconst rfl)
  | y :: r, i, h => by
    obtain ⟨hi, hy, hr⟩ := rd83 o i y r h
    have ih := small1 p n c l q o ho t r (i + 1) hr
    refine tshift 1 (fun k => by rw [ddilaw44_small.l1, if_pos (by omega), if_pos (by omega), next i o.length hi (by omega)]) ?_
    split
    · exact tconst rfl
    · exact ih
theorem small0 (p : S25) (n : Int) (c : ByteArray) (l : List S57) (q : List S53) (hq : q.length ≤ 140737488351232) (o : List S83) (ho : o.length ≤ 140737488351232) (t : Int) : ∀ (r : List S53) (i : Nat), q.drop i = r → Tot (fun k => ddilaw44_small.l0 k (i : Int) p.f0 p.f1 p.f2 n c l q o t)
  | [], i, h => by
    have := drop_end h
    exact tshift 1 (fun k => by rw [ddilaw44_small.l0, if_neg (by omega)]; rfl) (small1 p n c l q o ho t o 0 rfl)
  | y :: r, i, h => by
    obtain ⟨hi, hy, hr⟩ := rd53 q i y r h
    have ih := small0 p n c l q hq o ho t r (i + 1) hr
    have hj : ∀ b : Bool, Tot (fun k => ddilaw44_small.j2 k (i : Int) b p.f0 p.f1 p.f2 n c l q o t) := by
      intro b
      refine tshift 1 (fun k => by rw [ddilaw44_small.j2, next i q.length hi (by omega)]) ?_
      split
      · exact tconst rfl
      · exact ih
    refine tshift 1 (fun k => by rw [ddilaw44_small.l0, if_pos (by omega), if_pos (by omega)]) ?_
    split
    · exact hj _
    · exact hj _
theorem small_tot (p : S25) (n : Int) (c : ByteArray) (l : List S57) (q : List S53) (hq : q.length ≤ 140737488351232) (o : List S83) (ho : o.length ≤ 140737488351232) (t : Int) : Tot (fun k => ddilaw44_small.f k p.f0 p.f1 p.f2 n c l q o t) := by
  have hj : ∀ b : Bool, Tot (fun k => ddilaw44_small.j0 k b p.f0 p.f1 p.f2 n c l q o t) := by
    intro b
    refine tshift 1 (fun k => by rw [ddilaw44_small.j0]) ?_
    split
    · exact tconst rfl
    · exact small0 p n c l q hq o ho t q 0 rfl
  unfold ddilaw44_small.f
  split
  · exact hj _
  · split
    · exact hj _
    · split
      · exact hj _
      · exact hj _
end Go.Proofs.YtpcjablkjaiapaaDoor.Ma
