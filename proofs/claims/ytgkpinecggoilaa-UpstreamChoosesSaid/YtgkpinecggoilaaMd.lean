/- The reference's store (chapter 32). -/
import Derived.Test.YtgkpinecggoilaaQAd1
import Derived.Test.YtgkpinecggoilaaMc
namespace Go.Proofs.Ytgkpinecggoilaa.Ma
open Go.RowKit Go.Proofs.YtgkpinecggoilaaW.PrintWords Go.Proofs.YtgkpinecggoilaaW.PrintLast Go.Proofs.YtgkpinecggoilaaW.PrintMore Go.Proofs.Ytgkpinecggoilaa.XP Go.Proofs.Ytgkpinecggoilaa.Cm Go.Proofs.Ytgkpinecggoilaa.QA
set_option linter.unusedVariables false
set_option linter.unusedSimpArgs false
theorem rrep_from (l : List S34) (hl : l.length < 1000000) (p : S34) : ∀ (r : List S34) (i : Nat) (out : List S34) (done : Bool), l.drop i = r → out.length ≤ i →
    Ev (fun k => ddiref32_store.l0 k l out done (i : Int) p.f0.f0 p.f0.f1 p.f0.f2 p.f1 p.f2 p.f3) (out ++ (if done = true then r else rep (qa p.f0) p r))
  | [], i, out, done, h, ho => by
    have := drop_end h
    refine Ev_shift 1 (f := fun _ => some out) (fun k => ?_) (Ev_const (by cases done <;> simp [rep]))
    rw [ddiref32_store.l0, if_neg (by omega)]
  | x :: r, i, out, done, h, ho => by
    obtain ⟨hi, hx, hr⟩ := drop_at h
    have key : ∀ (b : Bool), ((qa p.f0 x && !done) = b) → Ev (fun k => ddiref32_store.j1 k l out done (i : Int) b p.f0.f0 p.f0.f1 p.f0.f2 p.f1 p.f2 p.f3) (out ++ (if done = true then x :: r else rep (qa p.f0) p (x :: r))) := by
      intro b hb
      cases b with
      | true =>
        have hq : qa p.f0 x = true ∧ done = false := by simpa using hb
        refine Ev_shift 1 (f := fun k => ddiref32_store.l0 k l (out ++ [p]) true ((i + 1 : Nat) : Int) p.f0.f0 p.f0.f1 p.f0.f2 p.f1 p.f2 p.f3) (fun k => ?_) ?_
        · rw [ddiref32_store.j1, if_pos rfl, if_pos (by omega), next i l.length hi (by omega)]
        · have := rrep_from l hl p r (i + 1) (out ++ [p]) true hr (by simp; omega)
          rw [hq.2]
          simpa [rep, hq.1] using this
      | false =>
        refine Ev_shift 1 (f := fun k => ddiref32_store.l0 k l (out ++ [x]) done ((i + 1 : Nat) : Int) p.f0.f0 p.f0.f1 p.f0.f2 p.f1 p.f2 p.f3) (fun k => ?_) ?_
        · rw [ddiref32_store.j1, if_neg (by decide), if_pos (by omega), if_pos (by omega), if_pos (by omega), rd34 l i hi, hx, next i l.length hi (by omega)]
        · have := rrep_from l hl p r (i + 1) (out ++ [x]) done hr (by simp; omega)
          cases done with
          | true => simpa using this
          | false =>
            have hq : qa p.f0 x = false := by simpa using hb
            simpa [rep, hq] using this
    by_cases hq : qa p.f0 x = true
    · refine Ev_shift 1 (fun k => ?_) (key (!done) (by simp [hq]))
      rw [ddiref32_store.l0, if_pos (by omega), if_pos (by omega), rd34 l i hi, hx]
      exact if_pos hq
    · refine Ev_shift 1 (fun k => ?_) (key false (by simp [hq]))
      rw [ddiref32_store.l0, if_pos (by omega), if_pos (by omega), rd34 l i hi, hx]
      exact if_neg hq
theorem rins_from (l : List S34) (hl : l.length < 1000000) (p : S34) (g : Int) : ∀ (r : List S34) (i : Nat) (out : List S34) (done : Bool), l.drop i = r → out.length + r.length ≤ l.length + (if done = true then 1 else 0) →
    Ev (fun k => ddiref32_store.l2 k l out g done (i : Int) p.f0.f0 p.f0.f1 p.f0.f2 p.f1 p.f2 p.f3) (out ++ (if done = true then sk g r i else ins (gt p.f0) p (sk g r i)))
  | [], i, out, done, h, ho => by
    have := drop_end h
    cases done with
    | true =>
      refine Ev_shift 1 (f := fun _ => some out) (fun k => ?_) (Ev_const (by simp [sk]))
      rw [ddiref32_store.l2, if_neg (by omega), if_pos rfl]
    | false =>
      have hb : out.length ≤ l.length := by simpa using ho
      refine Ev_shift 1 (f := fun _ => some (out ++ [p])) (fun k => ?_) (Ev_const (by simp [sk, ins]))
      rw [ddiref32_store.l2, if_neg (by omega), if_neg (by decide), if_pos (by omega)]
  | x :: r, i, out, done, h, ho => by
    obtain ⟨hi, hx, hr⟩ := drop_at h
    have hol : out.length + r.length + 1 ≤ l.length + (if done = true then 1 else 0) := by simpa [Nat.add_assoc] using ho
    have hob : out.length ≤ l.length := by split at hol <;> omega
    by_cases hg : (i : Int) = g
    · refine Ev_shift 1 (f := fun k => ddiref32_store.l2 k l out g done ((i + 1 : Nat) : Int) p.f0.f0 p.f0.f1 p.f0.f2 p.f1 p.f2 p.f3) (fun k => ?_) ?_
      · rw [ddiref32_store.l2, if_pos (by omega), if_pos hg, next i l.length hi (by omega)]
      · rw [show sk g (x :: r) i = sk g r (i + 1) from by rw [sk, if_pos hg]]
        exact rins_from l hl p g r (i + 1) out done hr (by omega)
    · rw [show sk g (x :: r) i = x :: sk g r (i + 1) from by rw [sk, if_neg hg]]
      have key : ∀ (b : Bool), ((gt p.f0 x && !done) = b) → Ev (fun k => ddiref32_store.j5 k l out g done (i : Int) b p.f0.f0 p.f0.f1 p.f0.f2 p.f1 p.f2 p.f3) (out ++ (if done = true then x :: sk g r (i + 1) else ins (gt p.f0) p (x :: sk g r (i + 1)))) := by
        intro b hb
        cases b with
        | true =>
          have hq : gt p.f0 x = true ∧ done = false := by simpa using hb
          refine Ev_shift 1 (f := fun k => ddiref32_store.l2 k l (out ++ [p] ++ [x]) g true ((i + 1 : Nat) : Int) p.f0.f0 p.f0.f1 p.f0.f2 p.f1 p.f2 p.f3) (fun k => ?_) ?_
          · rw [ddiref32_store.j5, if_pos rfl, if_pos (by omega), Option.bind_some, if_pos (by omega), if_pos (by omega), if_pos (by simp; omega), rd34 l i hi, hx, next i l.length hi (by omega)]
          · have := rins_from l hl p g r (i + 1) (out ++ [p] ++ [x]) true hr (by rw [hq.2] at hol; simp at hol ⊢; omega)
            rw [hq.2]
            simpa [ins, hq.1] using this
        | false =>
          refine Ev_shift 1 (f := fun k => ddiref32_store.l2 k l (out ++ [x]) g done ((i + 1 : Nat) : Int) p.f0.f0 p.f0.f1 p.f0.f2 p.f1 p.f2 p.f3) (fun k => ?_) ?_
          · rw [ddiref32_store.j5, if_neg (by decide), if_pos (by omega), if_pos (by omega), if_pos (by omega), rd34 l i hi, hx, next i l.length hi (by omega)]
          · have := rins_from l hl p g r (i + 1) (out ++ [x]) done hr (by rw [List.length_append, List.length_singleton]; omega)
            cases done with
            | true => simpa using this
            | false =>
              have hq : gt p.f0 x = false := by simpa using hb
              simpa [ins, hq] using this
      cases done with
      | true =>
        refine Ev_shift 1 (fun k => ?_) (key false (by simp))
        rw [ddiref32_store.l2, if_pos (by omega), if_neg hg, if_pos rfl]
      | false =>
        refine Ev_shift 1 (fun k => ?_) (key (gt p.f0 x) (by simp))
        rw [ddiref32_store.l2, if_pos (by omega), if_neg hg, if_neg (by decide), if_pos (by omega), rd34 l i hi, hx, rcmp]
        rfl
theorem rleast_from (l : List S34) (hl : l.length < 1000000) (p : S34) (R : List S34) : ∀ (r : List S34) (i b : Nat), l.drop i = r → b < l.length →
    Ev (fun k => ddiref32_store.j3 k l [] ((am l r i b : Nat) : Int) p.f0.f0 p.f0.f1 p.f0.f2 p.f1 p.f2 p.f3) R →
    Ev (fun k => ddiref32_store.l1 k l (b : Int) (i : Int) p.f0.f0 p.f0.f1 p.f0.f2 p.f1 p.f2 p.f3) R
  | [], i, b, h, hb, e => by
    have := drop_end h
    refine Ev_shift 1 (fun k => ?_) e
    rw [ddiref32_store.l1, if_neg (by omega)]
    rfl
  | x :: r, i, b, h, hb, e => by
    obtain ⟨hi, hx, hr⟩ := drop_at h
    have hgb : (l.getD b z34) = l[b] := by rw [List.getD_eq_getElem?_getD, List.getElem?_eq_getElem hb]; rfl
    by_cases hlt : x.f3 < l[b].f3
    · rw [am, hgb, if_pos hlt] at e
      refine Ev_shift 1 (fun k => ?_) (rleast_from l hl p R r (i + 1) i hr hi e)
      rw [ddiref32_store.l1, if_pos (by omega), if_pos (by omega), if_pos (by omega), if_pos (by omega), rd34 l i hi, rd34 l b hb, hx, ← next i l.length hi (by omega)]
      exact if_pos hlt
    · rw [am, hgb, if_neg hlt] at e
      refine Ev_shift 1 (fun k => ?_) (rleast_from l hl p R r (i + 1) b hr hb e)
      rw [ddiref32_store.l1, if_pos (by omega), if_pos (by omega), if_pos (by omega), if_pos (by omega), rd34 l i hi, rd34 l b hb, hx, ← next i l.length hi (by omega)]
      exact if_neg hlt
theorem rj3 (l : List S34) (hl : l.length < 1000000) (p : S34) (g : Int) : Ev (fun k => ddiref32_store.j3 k l [] g p.f0.f0 p.f0.f1 p.f0.f2 p.f1 p.f2 p.f3) (ins (gt p.f0) p (sk g l 0)) :=
  Ev_shift 1 (fun k => by rw [ddiref32_store.j3]; rfl) (rins_from l hl p g l 0 [] false rfl (by simp))
theorem rstore_ev (l : List S34) (hl : l.length < 1000000) (p : S34) : Ev (fun k => ddiref32_store.f k l p.f0.f0 p.f0.f1 p.f0.f2 p.f1 p.f2 p.f3) (stored l p) := by
  unfold ddiref32_store.f
  have hk := known_ev l (by omega) p.f0
  refine Ev.bind hk ?_
  unfold stored
  cases h : (fi (qa p.f0) l 0).isSome with
  | true =>
    simp only [if_true]
    exact rrep_from l hl p l 0 [] false rfl (by simp)
  | false =>
    simp only [if_neg (show ¬ (false = true) by decide)]
    by_cases hb : (l.length : Int) ≥ 256
    · simp only [if_pos hb]
      have e1 : am l l 0 0 = am l (l.drop 1) 1 0 := by
        cases l with
        | nil => rfl
        | cons x r => simp [am]
      rw [e1]
      exact rleast_from l hl p _ (l.drop 1) 1 0 rfl (by omega) (rj3 l hl p _)
    · simp only [if_neg hb]
      have := rj3 l hl p (-1)
      rwa [sk_none] at this
end Go.Proofs.Ytgkpinecggoilaa.Ma
