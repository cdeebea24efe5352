/- UpstreamPicks: the reference's choice, and the pure statement (chapter 32). -/
import Derived.Test.YtgkpinecggoilaaQAd2
import Derived.Test.YtgkpinecggoilaaMi
namespace Go.Proofs.Ytgkpinecggoilaa.Ma
open Go.RowKit Go.Proofs.YtgkpinecggoilaaW.PrintWords Go.Proofs.YtgkpinecggoilaaW.PrintLast Go.Proofs.YtgkpinecggoilaaW.PrintMore Go.Proofs.Ytgkpinecggoilaa.XP Go.Proofs.Ytgkpinecggoilaa.Cm Go.Proofs.Ytgkpinecggoilaa.QA
set_option linter.unusedVariables false
set_option linter.unusedSimpArgs false
theorem rp2_from (cs : List S34) (hl : cs.length < 1000) : ∀ (r : List S34) (i j : Nat) (_ : cs.drop i = r) (hj : j < cs.length),
    Ev (fun k => ddiref32_Pick.l2 k cs (j : Int) (i : Int)) (addr4 (some (pick2 cs[j] r)))
  | [], i, j, h, hj => by
    have := drop_end h
    refine Ev_shift 1 (f := fun _ => some (addr4 (some cs[j]))) (fun k => ?_) (Ev_const rfl)
    rw [ddiref32_Pick.l2, if_neg (by omega), if_pos (by omega), if_pos (by omega), rd34 cs j hj]
    rfl
  | x :: r, i, j, h, hj => by
    obtain ⟨hi, hx, hr⟩ := drop_at h
    rw [pick2]
    by_cases hlt : x.f3 < cs[j].f3
    · rw [if_pos hlt]
      have := rp2_from cs hl r (i + 1) i hr hi
      rw [hx] at this
      refine Ev_shift 1 (fun k => ?_) this
      rw [ddiref32_Pick.l2, if_pos (by omega), if_pos (by omega), if_pos (by omega), if_pos (by omega), rd34 cs j hj, rd34 cs i hi, hx, if_pos hlt, next i cs.length hi (by omega)]
    · rw [if_neg hlt]
      have := rp2_from cs hl r (i + 1) j hr hj
      refine Ev_shift 1 (fun k => ?_) this
      rw [ddiref32_Pick.l2, if_pos (by omega), if_pos (by omega), if_pos (by omega), if_pos (by omega), rd34 cs j hj, rd34 cs i hi, hx, if_neg hlt, next i cs.length hi (by omega)]
theorem rp1_from (cs : List S34) (hl : cs.length < 1000) (p0 : S34) (rest : List S34) (hc : cs = p0 :: rest) (now : Int) : ∀ (r : List S34) (i : Nat) (acc : Option Nat) (_ : cs.drop i = r) (_ : ∀ j, acc = some j → j < cs.length),
    Ev (fun k => ddiref32_Pick.l1 k now cs (toI acc) (i : Int)) (addr4 (some ((pick1 now (acc.map fun j => cs.getD j z34) r).getD (pick2 p0 rest))))
  | [], i, acc, h, ha => by
    have := drop_end h
    cases acc with
    | none =>
      have hp : 0 < cs.length := by rw [hc]; simp
      have h2 := rp2_from cs hl (cs.drop 1) 1 0 rfl hp
      have e0 : cs[0] = p0 := by simp [hc]
      have e1 : cs.drop 1 = rest := by simp [hc]
      rw [e0, e1] at h2
      refine Ev_shift 1 (fun k => ?_) h2
      rw [ddiref32_Pick.l1, if_neg (by omega)]
      exact if_neg (by decide)
    | some j =>
      have hj := ha j rfl
      have e : cs.getD j z34 = cs[j] := by rw [List.getD_eq_getElem?_getD, List.getElem?_eq_getElem hj]; rfl
      refine Ev_shift 1 (f := fun _ => some (addr4 (some cs[j]))) (fun k => ?_) (Ev_const (by show some (addr4 (some cs[j])) = some (addr4 (some ((pick1 now (some (cs.getD j z34)) []).getD (pick2 p0 rest)))); rw [e]; rfl))
      rw [toI, ddiref32_Pick.l1, if_neg (by omega), if_pos (by omega), if_pos (by omega), if_pos (by omega), rd34 cs j hj]
      rfl
  | x :: r, i, acc, h, ha => by
    obtain ⟨hi, hx, hr⟩ := drop_at h
    have key : ∀ c : Bool, c = (decide (x.f3 ≤ now) && acc.elim true (fun j => lexless x (cs.getD j z34))) → Ev (fun k => ddiref32_Pick.j3 k now cs (toI acc) (i : Int) c) (addr4 (some ((pick1 now (acc.map fun j => cs.getD j z34) (x :: r)).getD (pick2 p0 rest)))) := by
      intro c hcx
      cases c with
      | true =>
        have := rp1_from cs hl p0 rest hc now r (i + 1) (some i) hr (fun j e => by cases e; exact hi)
        have e : cs.getD i z34 = x := by rw [List.getD_eq_getElem?_getD, List.getElem?_eq_getElem hi]; exact hx
        have e2 : pick1 now (acc.map fun j => cs.getD j z34) (x :: r) = pick1 now (some x) r := by
          have hb := hcx.symm
          simp only [Bool.and_eq_true, decide_eq_true_eq] at hb
          cases acc with
          | none => rw [Option.map_none, pick1, if_pos hb.1]
          | some j => rw [Option.map_some, pick1, if_pos ⟨hb.1, hb.2⟩]
        simp only [Option.map_some, e] at this
        rw [e2]
        refine Ev_shift 1 (fun k => ?_) this
        rw [ddiref32_Pick.j3, if_pos rfl, next i cs.length hi (by omega)]
        rfl
      | false =>
        have := rp1_from cs hl p0 rest hc now r (i + 1) acc hr ha
        have e2 : pick1 now (acc.map fun j => cs.getD j z34) (x :: r) = pick1 now (acc.map fun j => cs.getD j z34) r := by
          have hb := hcx.symm
          simp only [Bool.and_eq_false_iff, decide_eq_false_iff_not] at hb
          cases acc with
          | none =>
            rw [Option.map_none, pick1, if_neg]
            rcases hb with hb | hb
            · exact hb
            · cases hb
          | some j =>
            rw [Option.map_some, pick1, if_neg]
            rintro ⟨h1, h2⟩
            rcases hb with hb | hb
            · exact hb h1
            · rw [show lexless x (cs.getD j z34) = false from hb] at h2; cases h2
        rw [e2]
        refine Ev_shift 1 (fun k => ?_) this
        rw [ddiref32_Pick.j3, if_neg (by decide), next i cs.length hi (by omega)]
    by_cases hp : x.f3 ≤ now
    · cases acc with
      | none =>
        refine Ev_shift 1 (fun k => ?_) (key true (by simp [hp]))
        rw [ddiref32_Pick.l1, if_pos (by omega), if_pos (by omega), rd34 cs i hi, hx, if_pos hp]
        exact if_pos (by decide)
      | some j =>
        have hj := ha j rfl
        have e : cs.getD j z34 = cs[j] := by rw [List.getD_eq_getElem?_getD, List.getElem?_eq_getElem hj]; rfl
        refine Ev_shift 1 (fun k => ?_) (key (lexless x (cs.getD j z34)) (by simp [hp]))
        rw [toI, ddiref32_Pick.l1, if_pos (by omega), if_pos (by omega), rd34 cs i hi, hx, if_pos hp, if_neg (by omega), if_pos (by omega), if_pos (by omega), rd34 cs j hj, e, lexless]
        by_cases h2 : x.f2 < cs[j].f2
        · rw [if_pos h2]; simp only [h2, decide_true, Bool.true_or]
        · rw [if_neg h2]
          by_cases h3 : x.f2 = cs[j].f2
          · rw [if_pos h3]; simp only [h3, Int.lt_irrefl, decide_false, decide_true, Bool.false_or, Bool.true_and]
          · rw [if_neg h3]; simp only [h2, h3, decide_false, Bool.false_or, Bool.false_and]
    · refine Ev_shift 1 (fun k => ?_) (key false (by simp [hp]))
      rw [ddiref32_Pick.l1, if_pos (by omega), if_pos (by omega), rd34 cs i hi, hx, if_neg hp]
theorem rpick_from (l : List S34) (hl : l.length < 1000000) (from_ t : List S25) (hf : from_.length < 1000000) (ht : t.length < 1000000000000000) (now : Int) : ∀ (r : List S25) (i : Nat) (all : List S34), from_.drop i = r → all.length ≤ 16 →
    Ev (fun k => ddiref32_Pick.l0 k l from_ t now all (i : Int)) (addr4 (chosen now (all ++ cand l t r all.length)))
  | [], i, all, h, hn => by
    have := drop_end h
    rw [cand, List.append_nil]
    cases all with
    | nil =>
      refine Ev_shift 1 (f := fun _ => some (false, 0, 0, false)) (fun k => ?_) (Ev_const rfl)
      rw [ddiref32_Pick.l0, if_neg (by omega)]
      rfl
    | cons p0 rest =>
      have := rp1_from (p0 :: rest) (by omega) p0 rest rfl now (p0 :: rest) 0 none rfl (fun j e => by cases e)
      rw [chosen_cons]
      refine Ev_shift 1 (fun k => ?_) this
      rw [ddiref32_Pick.l0, if_neg (by omega), if_neg (by simp; omega)]
      rfl
  | a :: r, i, all, h, hn => by
    obtain ⟨hi, hx, hr⟩ := drop_at h
    refine Ev_shift 1 (fun k => by rw [ddiref32_Pick.l0, if_pos (by omega), if_pos (by omega), rd25 from_ i hi, hx]) ?_
    refine Ev.bind (rin_ev t (by omega) a) ?_
    rw [cand]
    by_cases hq : tin t a = true
    · simp only [hq, if_true]
      have := rpick_from l hl from_ t hf ht now r (i + 1) all hr hn
      refine Ev_shift 1 (fun k => ?_) this
      rw [ddiref32_Pick.j1, if_neg (by decide), next i from_.length hi (by omega)]
    · simp only [hq, if_false, Bool.false_eq_true]
      by_cases h16 : all.length < 16
      · simp only [if_pos h16, show decide ((all.length : Int) < 16) = true from decide_eq_true (by omega)]
        refine Ev_shift 1 (fun k => by rw [ddiref32_Pick.j1, if_pos rfl, if_pos (by omega), if_pos (by omega), rd25 from_ i hi, hx]) ?_
        refine Ev.bind (rfind_ev l (by omega) a) ?_
        simp only [if_pos (show all.length < 2932031007402 by omega), next i from_.length hi (by omega)]
        have := rpick_from l hl from_ t hf ht now r (i + 1) (all ++ [found l a]) hr (by simp; omega)
        rw [List.length_append, List.length_singleton, List.append_assoc, List.singleton_append] at this
        exact this
      · have e16 : all.length = 16 := by omega
        simp only [if_neg h16, show decide ((all.length : Int) < 16) = false from decide_eq_false (by omega)]
        have := rpick_from l hl from_ t hf ht now r (i + 1) all hr hn
        rw [e16, cand_full] at this
        refine Ev_shift 1 (fun k => ?_) this
        rw [ddiref32_Pick.j1, if_neg (by decide), next i from_.length hi (by omega)]
theorem rpick_ev (l : List S34) (hl : l.length < 1000000) (from_ t : List S25) (hf : from_.length < 1000000) (ht : t.length < 1000000000000000) (now : Int) : Ev (fun k => ddiref32_Pick.f k l from_ t now) (addr4 (chosen now (cand l t from_ 0))) :=
  rpick_from l hl from_ t hf ht now from_ 0 [] rfl (by simp)
theorem upstreamPicks : ddilaw32_UpstreamPicks.Pure := by
  intro l0 f0 t0 now _ _
  refine Ev.rounds (?_ : Ev (fun k => ddilaw32_UpstreamPicks.f k l0 f0 t0 now) true)
  have h1 := mn_len' l0.length 60
  have h2 := mn_len' f0.length 40
  have h3 := mn_len' t0.length 40
  unfold ddilaw32_UpstreamPicks.f
  simp only [show ((60 : Nat) : Int) = 60 from rfl, show ((40 : Nat) : Int) = 40 from rfl] at h1 h2 h3
  simp only [if_pos h1.1, if_pos h1.2.1, if_pos h2.1, if_pos h2.2.1, if_pos h3.1, if_pos h3.2.1, Option.bind_some, h1.2.2, h2.2.2, h3.2.2]
  have hl : (l0.take (min l0.length 60)).length ≤ 60 := by rw [List.length_take]; omega
  have hf : (f0.take (min f0.length 40)).length ≤ 40 := by rw [List.length_take]; omega
  have ht : (t0.take (min t0.length 40)).length ≤ 40 := by rw [List.length_take]; omega
  generalize l0.take (min l0.length 60) = l at hl
  generalize f0.take (min f0.length 40) = f at hf
  generalize t0.take (min t0.length 40) = t at ht
  refine Ev.bind (back_ev l (by omega)) ?_
  refine Ev.bind (upick_ev l (by omega) f t (by omega) (by omega) now) (Ev.bind (rpick_ev l (by omega) f t (by omega) (by omega) now) ?_)
  simp only [beq_self_eq_true, Bool.and_self, if_true]
  exact Ev.bind awake_ev (Ev_const rfl)
end Go.Proofs.Ytgkpinecggoilaa.Ma
