/- Pick: the program's choice of a server and the reference's (chapter 32). -/
import Derived.Test.YtgkpinecggoilaaQAd2
import Derived.Test.YtgkpinecggoilaaMf
namespace Go.Proofs.Ytgkpinecggoilaa.Ma
open Go.RowKit Go.Proofs.YtgkpinecggoilaaW.PrintWords Go.Proofs.YtgkpinecggoilaaW.PrintLast Go.Proofs.YtgkpinecggoilaaW.PrintMore Go.Proofs.Ytgkpinecggoilaa.XP Go.Proofs.Ytgkpinecggoilaa.Cm Go.Proofs.Ytgkpinecggoilaa.QA
set_option linter.unusedVariables false
set_option linter.unusedSimpArgs false
theorem rd25 (l : List S25) (i : Nat) (h : i < l.length) : rd_T25 l (i : Int) = l[i] := rdAddr l i h
def tin (t : List S25) (a : S25) : Bool := (fi (ea a) t 0).isSome
theorem sidx_from (l : List S25) (hl : l.length < 1000000000000000) (a : S25) : ∀ (r : List S25) (i : Nat), l.drop i = r → Ev (fun k => slices_Index.l0 k l (l.length : Int) (i : Int) a.f0 a.f1 a.f2) (toI (fi (ea a) r i))
  | [], i, h => by
    have := drop_end h
    refine Ev_shift 1 (f := fun _ => some (-1)) (fun k => ?_) (Ev_const rfl)
    rw [slices_Index.l0, if_neg (by omega)]
  | x :: r, i, h => by
    obtain ⟨hi, hx, hr⟩ := drop_at h
    by_cases hq : ea a x = true
    · refine Ev_shift 1 (f := fun _ => some (i : Int)) (fun k => ?_) (Ev_const (by simp [fi, hq, toI]))
      rw [slices_Index.l0, if_pos (by omega), if_pos (by omega), if_pos (by omega), rd25 l i hi, hx]
      exact if_pos hq
    · refine Ev_shift 1 (f := fun k => slices_Index.l0 k l (l.length : Int) ((i + 1 : Nat) : Int) a.f0 a.f1 a.f2) (fun k => ?_) (by simp only [fi, hq, if_false, Bool.false_eq_true]; exact sidx_from l hl a r (i + 1) hr)
      rw [slices_Index.l0, if_pos (by omega), if_pos (by omega), if_pos (by omega), rd25 l i hi, hx, ← next i l.length hi (by omega)]
      exact if_neg hq
theorem contains_ev (l : List S25) (hl : l.length < 1000000000000000) (a : S25) : Ev (fun k => slices_Contains.f k l a.f0 a.f1 a.f2) (tin l a) := by
  unfold slices_Contains.f slices_Index.f
  refine Ev.bind (sidx_from l hl a l 0 rfl) (Ev_const ?_)
  rw [tin]
  cases fi (ea a) l 0 <;> simp [toI]
theorem rin_from (l : List S25) (hl : l.length < 1000000000000000) (a : S25) : ∀ (r : List S25) (i : Nat), l.drop i = r → Ev (fun k => ddiref32_in.l0 k l (i : Int) a.f0 a.f1 a.f2) (fi (ea a) r i).isSome
  | [], i, h => by
    have := drop_end h
    refine Ev_shift 1 (f := fun _ => some false) (fun k => ?_) (Ev_const (by simp [fi]))
    rw [ddiref32_in.l0, if_neg (by omega)]
  | x :: r, i, h => by
    obtain ⟨hi, hx, hr⟩ := drop_at h
    by_cases hq : ea a x = true
    · refine Ev_shift 1 (f := fun _ => some true) (fun k => ?_) (Ev_const (by simp [fi, hq]))
      rw [ddiref32_in.l0, if_pos (by omega), if_pos (by omega), rd25 l i hi, hx]
      exact if_pos (by rw [ea_comm] at hq; exact hq)
    · refine Ev_shift 1 (f := fun k => ddiref32_in.l0 k l ((i + 1 : Nat) : Int) a.f0 a.f1 a.f2) (fun k => ?_) (by simp only [fi, hq, if_false, Bool.false_eq_true]; exact rin_from l hl a r (i + 1) hr)
      rw [ddiref32_in.l0, if_pos (by omega), if_pos (by omega), rd25 l i hi, hx, ← next i l.length hi (by omega)]
      exact if_neg (by rw [ea_comm] at hq; exact hq)
theorem rin_ev (l : List S25) (hl : l.length < 1000000000000000) (a : S25) : Ev (fun k => ddiref32_in.f k l a.f0 a.f1 a.f2) (tin l a) := rin_from l hl a l 0 rfl
/-- Those of which one is chosen: n were looked at. -/
def cand (l : List S34) (t : List S25) : List S25 → Nat → List S34
  | [], _ => []
  | a :: r, n => if tin t a = true then cand l t r n else if n < 16 then found l a :: cand l t r (n + 1) else []
theorem cand_full (l : List S34) (t : List S25) : ∀ r, cand l t r 16 = []
  | [] => rfl
  | a :: r => by
    rw [cand]
    split
    · exact cand_full l t r
    · rfl
def lexless (p q : S34) : Bool := decide (p.f2 < q.f2) || (decide (p.f2 = q.f2) && decide (p.f1 < q.f1))
def better (p q : S34) (now : Int) : Bool := if ((decide (p.f3 ≤ now)) != (decide (q.f3 ≤ now))) = true then decide (p.f3 ≤ now) else if p.f3 ≤ now then lexless p q else decide (p.f3 < q.f3)
theorem better_some (p q : S34) (now : Int) : upstream_better.f p.f0.f0 p.f0.f1 p.f0.f2 p.f1 p.f2 p.f3 q.f0.f0 q.f0.f1 q.f0.f2 q.f1 q.f2 q.f3 now = some (better p q now) := by
  unfold upstream_better.f better lexless
  repeat' split
  all_goals first | rfl | simp_all
/-- The program's way. -/
def choose (now : Int) : Option S34 → List S34 → Option S34
  | acc, [] => acc
  | none, p :: r => choose now (some p) r
  | some q, p :: r => choose now (some (if better p q now = true then p else q)) r
/-- The reference's two ways. -/
def pick1 (now : Int) : Option S34 → List S34 → Option S34
  | acc, [] => acc
  | none, p :: r => pick1 now (if p.f3 ≤ now then some p else none) r
  | some q, p :: r => pick1 now (if p.f3 ≤ now ∧ lexless p q = true then some p else some q) r
def pick2 : S34 → List S34 → S34
  | q, [] => q
  | q, p :: r => pick2 (if p.f3 < q.f3 then p else q) r
theorem choose_ready (now : Int) : ∀ (cs : List S34) (q : S34), q.f3 ≤ now → choose now (some q) cs = pick1 now (some q) cs
  | [], _, _ => rfl
  | p :: r, q, h => by
    rw [choose, pick1]
    by_cases hp : p.f3 ≤ now
    · have e : better p q now = lexless p q := by simp [better, hp, h]
      rw [e]
      by_cases hl : lexless p q = true
      · simp only [hl, if_true, hp, and_self]
        exact choose_ready now r p hp
      · simp only [hl, Bool.false_eq_true, if_false, and_false]
        exact choose_ready now r q h
    · have e : better p q now = false := by simp [better, hp, h]
      simp only [e, hp, false_and, if_false]
      exact choose_ready now r q h
theorem choose_not (now : Int) : ∀ (cs : List S34) (q : S34), ¬ q.f3 ≤ now → choose now (some q) cs = some ((pick1 now none cs).getD (pick2 q cs))
  | [], _, _ => rfl
  | p :: r, q, h => by
    rw [choose, pick1, pick2]
    by_cases hp : p.f3 ≤ now
    · have e : better p q now = true := by simp [better, hp, h]
      simp only [e, if_true, hp]
      rw [choose_ready now r p hp]
      have hs : ∀ (cs : List S34) (q : S34), ∃ z, pick1 now (some q) cs = some z := by
        intro cs
        induction cs with
        | nil => intro q; exact ⟨q, rfl⟩
        | cons p r ih => intro q; rw [pick1]; split <;> exact ih _
      obtain ⟨z, hz⟩ := hs r p
      rw [hz]
      rfl
    · have e : better p q now = decide (p.f3 < q.f3) := by simp [better, hp, h]
      simp only [e, hp, if_false, decide_eq_true_eq]
      split
      · exact choose_not now r p hp
      · exact choose_not now r q h
/-- What both come to. -/
def chosen (now : Int) (cs : List S34) : Option S34 := choose now none cs
theorem chosen_cons (now : Int) (p : S34) (r : List S34) : chosen now (p :: r) = some ((pick1 now none (p :: r)).getD (pick2 p r)) := by
  rw [chosen, choose, pick1]
  by_cases hp : p.f3 ≤ now
  · have := choose_ready now r p hp
    rw [this]
    simp only [hp, if_true]
    have hs : ∀ (cs : List S34) (q : S34), ∃ z, pick1 now (some q) cs = some z := by
      intro cs
      induction cs with
      | nil => intro q; exact ⟨q, rfl⟩
      | cons p r ih => intro q; rw [pick1]; split <;> exact ih _
    obtain ⟨z, hz⟩ := hs r p
    rw [hz]
    rfl
  · rw [choose_not now r p hp]
    simp only [hp, if_false]
def addr4 (o : Option S34) : Bool × Int × Int × Bool := match o with | some p => (p.f0.f0, p.f0.f1, p.f0.f2, true) | none => (false, 0, 0, false)
theorem upick_from (l : List S34) (hl : l.length < 1000000) (from_ t : List S25) (hf : from_.length < 1000000) (ht : t.length < 1000000000000000) (now : Int) : ∀ (r : List S25) (i n : Nat) (acc : Option S34), from_.drop i = r → n ≤ 16 →
    ∀ b : S34, b = acc.getD z34 →
    Ev (fun k => upstream_Pick.l0 k (l.map c2) t now acc.isSome (n : Int) from_ (from_.length : Int) (i : Int) b.f0.f0 b.f0.f1 b.f0.f2 b.f1 b.f2 b.f3) (addr4 (choose now acc (cand l t r n)))
  | [], i, n, acc, h, hn, b, hb => by
    have := drop_end h
    refine Ev_shift 1 (f := fun _ => some (b.f0.f0, b.f0.f1, b.f0.f2, acc.isSome)) (fun k => ?_) (Ev_const ?_)
    · rw [upstream_Pick.l0, if_neg (by omega)]
    · subst hb
      cases acc <;> rfl
  | a :: r, i, n, acc, h, hn, b, hb => by
    obtain ⟨hi, hx, hr⟩ := drop_at h
    refine Ev_shift 1 (fun k => by rw [upstream_Pick.l0, if_pos (by omega), if_pos (by omega), if_pos (by omega), rd25 from_ i hi, hx]) ?_
    refine Ev.bind (contains_ev t (by omega) a) ?_
    rw [cand]
    by_cases hq : tin t a = true
    · simp only [hq, if_true, next i from_.length hi (by omega)]
      exact upick_from l hl from_ t hf ht now r (i + 1) n acc hr hn b hb
    · simp only [hq, if_false]
      have e : wrap64 ((n : Int) + 1) = ((n + 1 : Nat) : Int) := next n 17 (by omega) (by omega)
      simp only [e]
      by_cases h16 : n < 16
      · simp only [if_neg (show ¬ ((n + 1 : Nat) : Int) > 16 by omega), h16, if_true]
        refine Ev.bind (ufind_ev l (by omega) a) ?_
        have key : ∀ c : Bool, c = acc.elim true (fun q => better (found l a) q now) → Ev (fun k => upstream_Pick.j1 k (l.map c2) t now acc.isSome ((n + 1 : Nat) : Int) from_ (from_.length : Int) (i : Int) c b.f0.f0 b.f0.f1 b.f0.f2 b.f1 b.f2 b.f3 (found l a).f0.f0 (found l a).f0.f1 (found l a).f0.f2 (found l a).f1 (found l a).f2 (found l a).f3) (addr4 (choose now acc (found l a :: cand l t r (n + 1)))) := by
          intro c hc
          refine Ev_shift 1 (fun k => by rw [upstream_Pick.j1]) ?_
          cases c with
          | true =>
            simp only [if_true, next i from_.length hi (by omega)]
            have := upick_from l hl from_ t hf ht now r (i + 1) (n + 1) (some (found l a)) hr (by omega) (found l a) rfl
            cases acc with
            | none => exact this
            | some q => rw [choose, ← show _ = better (found l a) q now from hc]; exact this
          | false =>
            simp only [if_neg (show ¬ false = true by decide), next i from_.length hi (by omega)]
            have := upick_from l hl from_ t hf ht now r (i + 1) (n + 1) acc hr (by omega) b hb
            cases acc with
            | none => cases hc
            | some q => rw [choose, ← show _ = better (found l a) q now from hc]; exact this
        cases acc with
        | none => exact key true rfl
        | some q =>
          have hbq : b = q := hb
          have hbs : upstream_better.f (tup (found l a)).1 (tup (found l a)).2.1 (tup (found l a)).2.2.1 (tup (found l a)).2.2.2.1 (tup (found l a)).2.2.2.2.1 (tup (found l a)).2.2.2.2.2 b.f0.f0 b.f0.f1 b.f0.f2 b.f1 b.f2 b.f3 now = some (better (found l a) q now) := by rw [← hbq]; exact better_some _ _ _
          simp only [Option.isSome_some, if_true, hbs, Option.bind_some]
          exact key _ rfl
      · have hn16 : n = 16 := by omega
        subst hn16
        simp only [if_pos (show ((16 + 1 : Nat) : Int) > 16 by omega), h16, if_false]
        refine Ev_const ?_
        subst hb
        cases acc <;> rfl
theorem upick_ev (l : List S34) (hl : l.length < 1000000) (from_ t : List S25) (hf : from_.length < 1000000) (ht : t.length < 1000000000000000) (now : Int) : Ev (fun k => upstream_Pick.f k (l.map c2) from_ t now) (addr4 (chosen now (cand l t from_ 0))) :=
  upick_from l hl from_ t hf ht now from_ 0 0 none rfl (by omega) z34 rfl
end Go.Proofs.Ytgkpinecggoilaa.Ma
