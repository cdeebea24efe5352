/- What is known of one server behind acts, by itself (chapter 32). -/
import Derived.Test.YtgkpinecggoilaaMf
namespace Go.Proofs.Ytgkpinecggoilaa.Ma
open Go.RowKit Go.Proofs.YtgkpinecggoilaaW.PrintWords Go.Proofs.YtgkpinecggoilaaW.PrintLast Go.Proofs.YtgkpinecggoilaaW.PrintMore Go.Proofs.Ytgkpinecggoilaa.XP Go.Proofs.Ytgkpinecggoilaa.Cm Go.Proofs.Ytgkpinecggoilaa.QA
set_option linter.unusedVariables false
set_option linter.unusedSimpArgs false
theorem qa_iff (a : S25) (p : S34) : qa a p = true ↔ p.f0 = a := ea_iff p.f0 a
theorem fi_find {α : Type} (q : α → Bool) (l : List α) : (fi q l 0).isSome = (l.find? q).isSome := by
  cases h : fi q l 0 with
  | none => rw [fi_none q l 0 h]; rfl
  | some j => obtain ⟨_, h2, h3⟩ := fi_some q l 0 j h; rw [h3]; rfl
theorem rep_find (p : S34) (a : S25) : ∀ l : List S34, (l.find? (qa p.f0)).isSome = true → (rep (qa p.f0) p l).find? (qa a) = if ea p.f0 a = true then some p else l.find? (qa a)
  | [], h => by cases h
  | x :: r, h => by
    by_cases hx : qa p.f0 x = true
    · have hxp := (qa_iff _ _).1 hx
      rw [rep, if_pos hx]
      by_cases ha : ea p.f0 a = true
      · rw [if_pos ha, List.find?_cons_of_pos (show qa a p = true from ha)]
      · rw [if_neg ha, List.find?_cons_of_neg (show ¬ qa a p = true from ha), List.find?_cons_of_neg]
        rw [qa_iff, hxp]
        intro e
        exact ha ((ea_iff _ _).2 e)
    · rw [rep, if_neg hx]
      rw [List.find?_cons_of_neg hx] at h
      have ih := rep_find p a r h
      by_cases hxa : qa a x = true
      · have hpa : ¬ ea p.f0 a = true := by
          intro e
          have e' := (ea_iff _ _).1 e
          rw [← e'] at hxa
          exact hx hxa
        rw [List.find?_cons_of_pos hxa, List.find?_cons_of_pos hxa, if_neg hpa]
      · rw [List.find?_cons_of_neg hxa, List.find?_cons_of_neg hxa, ih]
theorem ins_find (q : S34 → Bool) (p : S34) (a : S25) : ∀ l : List S34, l.find? (qa p.f0) = none → (ins q p l).find? (qa a) = if ea p.f0 a = true then some p else l.find? (qa a)
  | [], _ => by
    rw [ins]
    by_cases ha : ea p.f0 a = true
    · rw [if_pos ha, List.find?_cons_of_pos (show qa a p = true from ha)]
    · rw [if_neg ha, List.find?_cons_of_neg (show ¬ qa a p = true from ha)]
  | x :: r, h => by
    have hx : ¬ qa p.f0 x = true := by
      intro e
      rw [List.find?_cons_of_pos e] at h
      cases h
    rw [List.find?_cons_of_neg hx] at h
    rw [ins]
    by_cases hq : q x = true
    · rw [if_pos hq]
      by_cases ha : ea p.f0 a = true
      · rw [if_pos ha, List.find?_cons_of_pos (show qa a p = true from ha)]
      · rw [if_neg ha, List.find?_cons_of_neg (show ¬ qa a p = true from ha)]
    · rw [if_neg hq]
      have ih := ins_find q p a r h
      by_cases hxa : qa a x = true
      · have hpa : ¬ ea p.f0 a = true := by
          intro e
          have e' := (ea_iff _ _).1 e
          rw [← e'] at hxa
          exact hx hxa
        rw [List.find?_cons_of_pos hxa, List.find?_cons_of_pos hxa, if_neg hpa]
      · rw [List.find?_cons_of_neg hxa, List.find?_cons_of_neg hxa, ih]
theorem stored_find (l : List S34) (p : S34) (a : S25) (hl : l.length < 256) : (stored l p).find? (qa a) = if ea p.f0 a = true then some p else l.find? (qa a) := by
  unfold stored
  rw [fi_find]
  by_cases h : (l.find? (qa p.f0)).isSome = true
  · rw [if_pos h]
    exact rep_find p a l h
  · rw [if_neg h, if_neg (by omega)]
    exact ins_find _ p a l (by simpa using h)
/-- Behind one act about the server itself. -/
def nx (s : Option S34) (x : S27) : S34 :=
  let o := s.getD ⟨x.f0, 2, 0, 0⟩
  if x.f1 = true then ⟨x.f0, o.f1, mn (mx o.f2 0) 5 + 1, mn (mn (mx x.f3 0) 4294967295 + 10 * 2 ^ (mn (mx o.f2 0) 5).toNat) 4294967295⟩
  else ⟨x.f0, if s.isSome = true then mx (wrap64 (Int.tdiv (wrap64 ((wrap64 (3 * mn (mx o.f1 1) 30)) + mn (mx x.f2 1) 30)) 4)) 1 else mn (mx x.f2 1) 30, 0, 0⟩
def act (l : List S34) (x : S27) : List S34 := if x.f1 = true then bad l x.f0 x.f3 else good l x.f0 x.f2
theorem found_f0 (l : List S34) (a : S25) : (found l a).f0 = a := by
  unfold found
  cases h : l.find? (qa a) with
  | none => rfl
  | some p => exact (qa_iff _ _).1 (List.find?_some h)
theorem act_nx (l : List S34) (x : S27) : act l x = stored l (nx (l.find? (qa x.f0)) x) := by
  unfold act nx
  by_cases h : x.f1 = true
  · simp only [h, if_true, bad, bf, found_f0]
    rfl
  · simp only [h, good, gr, fi_find]
    rfl
theorem nx_f0 (s : Option S34) (x : S27) : (nx s x).f0 = x.f0 := by
  unfold nx
  dsimp only
  split <;> rfl
theorem act_find (l : List S34) (x : S27) (a : S25) (hl : l.length < 256) : (act l x).find? (qa a) = if ea x.f0 a = true then some (nx (l.find? (qa a)) x) else l.find? (qa a) := by
  rw [act_nx, stored_find _ _ _ hl, nx_f0]
  by_cases h : ea x.f0 a = true
  · rw [if_pos h, if_pos h, (ea_iff _ _).1 h]
  · rw [if_neg h, if_neg h]
theorem act_len (l : List S34) (x : S27) : (act l x).length ≤ l.length + 1 := by
  rw [act_nx]
  exact stored_len _ _
theorem acts_len : ∀ (xs : List S27) (l : List S34), (xs.foldl act l).length ≤ l.length + xs.length
  | [], l => by simp
  | x :: r, l => by
    have h1 := acts_len r (act l x)
    have h2 := act_len l x
    simp only [List.foldl_cons, List.length_cons]
    omega
/-- By what has happened to it alone. -/
theorem acts_find (a : S25) : ∀ (xs : List S27) (l : List S34), l.length + xs.length < 256 → (xs.foldl act l).find? (qa a) = (xs.filter fun x => ea x.f0 a).foldl (fun s x => some (nx s x)) (l.find? (qa a))
  | [], _, _ => rfl
  | x :: r, l, h => by
    have h2 := act_len l x
    rw [List.foldl_cons, acts_find a r (act l x) (by simp only [List.length_cons] at h; omega), act_find l x a (by simp only [List.length_cons] at h; omega)]
    by_cases hx : ea x.f0 a = true
    · rw [if_pos hx, List.filter_cons_of_pos (p := fun x : S27 => ea x.f0 a) hx, List.foldl_cons]
    · rw [if_neg hx, List.filter_cons_of_neg (p := fun x : S27 => ea x.f0 a) hx]
theorem one_act (a : S25) (s : Option S34) (x : S27) (hs : ∀ p, s = some p → p.f0 = a) (hx : x.f0 = a) : act (s.elim [] fun p => [p]) x = [nx s x] := by
  rw [act_nx]
  cases s with
  | none =>
    have : (List.find? (qa x.f0) ([] : List S34)) = none := rfl
    simp only [Option.elim, this]
    simp [stored, fi, ins]
  | some p =>
    have hp := hs p rfl
    have e : [p].find? (qa x.f0) = some p := List.find?_cons_of_pos ((qa_iff _ _).2 (by rw [hp, hx]))
    simp only [Option.elim, e]
    unfold stored
    have hn : qa (nx (some p) x).f0 p = true := (qa_iff _ _).2 (by rw [nx_f0, hp, hx])
    simp only [fi, hn, if_true, Option.isSome_some, rep]
theorem own_acts (a : S25) : ∀ (xs : List S27) (s : Option S34), (∀ x ∈ xs, x.f0 = a) → (∀ p, s = some p → p.f0 = a) →
    xs.foldl act (s.elim [] fun p => [p]) = (xs.foldl (fun s x => some (nx s x)) s).elim [] fun p => [p]
  | [], _, _, _ => rfl
  | x :: r, s, h, hs => by
    have hx := h x (List.mem_cons_self ..)
    rw [List.foldl_cons, List.foldl_cons, one_act a s x hs hx]
    exact own_acts a r (some (nx s x)) (fun y hy => h y (List.mem_cons_of_mem _ hy)) (fun p e => by cases e; rw [nx_f0, hx])
theorem mean_le (c d : Int) (c1 : 1 ≤ c) (c30 : c ≤ 30) (d1 : 1 ≤ d) (d30 : d ≤ 30) : mx (wrap64 (Int.tdiv (wrap64 ((wrap64 (3 * c)) + d)) 4)) 1 ≤ 30 := by
  rw [wrap_id (x := 3 * c) (by omega) (by omega), wrap_id (x := 3 * c + d) (by omega) (by omega), Int.tdiv_eq_ediv_of_nonneg (by omega), wrap_id (by omega) (by omega)]
  unfold mx
  split <;> omega
def fine (p : S34) : Prop := 1 ≤ p.f1 ∧ p.f1 ≤ 30 ∧ 0 ≤ p.f2 ∧ p.f2 ≤ 6
theorem nx_fine (s : Option S34) (x : S27) (hs : ∀ p, s = some p → fine p) : fine (nx s x) := by
  have ho : fine (s.getD ⟨x.f0, 2, 0, 0⟩) := by
    cases s with
    | none => exact ⟨by show (1 : Int) ≤ 2; omega, by show (2 : Int) ≤ 30; omega, by show (0 : Int) ≤ 0; omega, by show (0 : Int) ≤ 6; omega⟩
    | some p => exact hs p rfl
  obtain ⟨o1, o2, o3, o4⟩ := ho
  have cut1 : ∀ y : Int, 1 ≤ mn (mx y 1) 30 ∧ mn (mx y 1) 30 ≤ 30 := fun y => by
    unfold mn mx
    repeat' split
    all_goals omega
  unfold nx
  dsimp only
  split
  · obtain ⟨b0, b5⟩ := mnmx (s.getD ⟨x.f0, 2, 0, 0⟩).f2 5 (by omega)
    exact ⟨o1, o2, by show 0 ≤ _ + 1; omega, by show _ + 1 ≤ 6; omega⟩
  · have c1 := cut1 (s.getD ⟨x.f0, 2, 0, 0⟩).f1
    have c2 := cut1 x.f2
    refine ⟨?_, ?_, by show (0 : Int) ≤ 0; omega, by show (0 : Int) ≤ 6; omega⟩
    · dsimp only
      split
      · unfold mx; split <;> omega
      · exact c2.1
    · dsimp only
      split
      · exact mean_le _ _ c1.1 c1.2 c2.1 c2.2
      · exact c2.2
theorem fold_fine : ∀ (xs : List S27) (s : Option S34), (∀ p, s = some p → fine p) → ∀ p, xs.foldl (fun s x => some (nx s x)) s = some p → fine p
  | [], _, h, p, e => h p e
  | x :: r, s, h, p, e => fold_fine r (some (nx s x)) (fun q hq => by cases hq; exact nx_fine s x h) p e
end Go.Proofs.Ytgkpinecggoilaa.Ma
