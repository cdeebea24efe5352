/- UpstreamChooses: the pure statement (chapter 32). -/
import Derived.Test.YtgkpinecggoilaaQAd5
import Derived.Test.YtgkpinecggoilaaMl
import Derived.Test.YtgkpinecggoilaaMi
namespace Go.Proofs.Ytgkpinecggoilaa.Ma
open Go.RowKit Go.Proofs.YtgkpinecggoilaaW.PrintWords Go.Proofs.YtgkpinecggoilaaW.PrintLast Go.Proofs.YtgkpinecggoilaaW.PrintMore Go.Proofs.Ytgkpinecggoilaa.XP Go.Proofs.Ytgkpinecggoilaa.Cm Go.Proofs.Ytgkpinecggoilaa.QA
set_option linter.unusedVariables false
set_option linter.unusedSimpArgs false
theorem fi_any {α : Type} (q : α → Bool) : ∀ l : List α, (fi q l 0).isSome = l.any q
  | [] => rfl
  | x :: r => by
    by_cases h : q x = true
    · simp [fi, h]
    · rw [fi, if_neg h, fi_shift, Option.isSome_map, fi_any q r, List.any_cons]
      simp [h]
theorem tin_any (t : List S25) (a : S25) : tin t a = t.any (ea a) := fi_any _ _
theorem cand_map (l : List S34) (t : List S25) : ∀ (r : List S25) (n : Nat), n + r.length ≤ 16 → cand l t r n = (r.filter fun a => !tin t a).map (found l)
  | [], _, _ => rfl
  | a :: r, n, h => by
    simp only [List.length_cons] at h
    rw [cand]
    by_cases hq : tin t a = true
    · rw [if_pos hq, List.filter_cons_of_neg (by simp [hq]), cand_map l t r n (by omega)]
    · rw [if_neg hq, if_pos (by omega), List.filter_cons_of_pos (by simp [hq]), List.map_cons, cand_map l t r (n + 1) (by omega)]
theorem choose_mem (now : Int) : ∀ (cs : List S34) (q : S34), ∃ p, choose now (some q) cs = some p ∧ (p = q ∨ p ∈ cs) ∧ (p.f3 ≤ now ↔ q.f3 ≤ now ∨ ∃ y ∈ cs, y.f3 ≤ now)
  | [], q => ⟨q, rfl, Or.inl rfl, by simp⟩
  | x :: r, q => by
    obtain ⟨p, h1, h2, h3⟩ := choose_mem now r (if better x q now = true then x else q)
    refine ⟨p, h1, ?_, ?_⟩
    · rcases h2 with h2 | h2
      · split at h2
        · exact Or.inr (h2 ▸ List.mem_cons_self ..)
        · exact Or.inl h2
      · exact Or.inr (List.mem_cons_of_mem _ h2)
    · have hq : (if better x q now = true then x else q).f3 ≤ now ↔ x.f3 ≤ now ∨ q.f3 ≤ now := by
        by_cases hx : x.f3 ≤ now <;> by_cases hq : q.f3 ≤ now
        · split <;> simp [hx, hq]
        · have : better x q now = true := by simp [better, hx, hq]
          simp [this, hx]
        · have : better x q now = false := by simp [better, hx, hq]
          simp [this, hq]
        · split <;> simp [hx, hq]
      rw [h3, hq]
      simp only [List.mem_cons, exists_eq_or_imp]
      constructor
      · rintro ((h | h) | h)
        · exact Or.inr (Or.inl h)
        · exact Or.inl h
        · exact Or.inr (Or.inr h)
      · rintro (h | h | h)
        · exact Or.inl (Or.inr h)
        · exact Or.inl (Or.inl h)
        · exact Or.inr h
theorem inner (all : List S35) (from_ rest : List S25) (free : Bool) (now : Int) (f0 t : List S25) (ht : t.length < 5864062014805) (a : S25) (i0 : Int)
    (hend : Ev (fun k => ddilaw32_UpstreamChooses.l1 k all from_ rest free (t.any (fun x => ea x a)) from_ (from_.length : Int) i0 t (t.length : Int) (t.length : Int) f0 t now a.f0 a.f1 a.f2) true) :
    ∀ (r : List S25) (i : Nat) (b : Bool), t.drop i = r → (b || r.any fun x => ea x a) = (t.any fun x => ea x a) →
    Ev (fun k => ddilaw32_UpstreamChooses.l1 k all from_ rest free b from_ (from_.length : Int) i0 t (t.length : Int) (i : Int) f0 t now a.f0 a.f1 a.f2) true
  | [], i, b, h, hb => by
    have := drop_end h
    obtain ⟨K, hK⟩ := hend
    have e : b = (t.any fun x => ea x a) := by simpa using hb
    refine ⟨K + 1, fun k hk => ?_⟩
    have := hK k (by omega)
    obtain ⟨k, rfl⟩ : ∃ m, k = m + 1 := ⟨k - 1, by omega⟩
    dsimp only at this ⊢
    rw [ddilaw32_UpstreamChooses.l1, if_neg (by omega)] at this
    rw [ddilaw32_UpstreamChooses.l1, if_neg (by omega), e]
    exact this
  | x :: r, i, b, h, hb => by
    obtain ⟨hi, hx, hr⟩ := drop_at h
    rw [List.any_cons] at hb
    cases b with
    | true =>
      have ih := inner all from_ rest free now f0 t ht a i0 hend r (i + 1) true hr (by simpa using hb)
      refine Ev_shift 1 (fun k => ?_) ih
      rw [ddilaw32_UpstreamChooses.l1, if_pos (by omega), if_pos (by omega), if_pos (by omega), if_pos rfl, next i t.length hi (by omega)]
    | false =>
      have ih := inner all from_ rest free now f0 t ht a i0 hend r (i + 1) (ea x a) hr (by simpa using hb)
      refine Ev_shift 1 (fun k => ?_) ih
      rw [ddilaw32_UpstreamChooses.l1, if_pos (by omega), if_pos (by omega), if_pos (by omega), if_neg (by decide), next i t.length hi (by omega), rdAddr t i hi, hx]
      rfl
theorem among (all : List S35) (free : Bool) (now : Int) (f0 t R : List S25) (hR : R.length < 5864062014805) (a : S25)
    (hend : Ev (fun k => ddilaw32_UpstreamChooses.l2 k all free true R (R.length : Int) (R.length : Int) f0 t now a.f0 a.f1 a.f2) true) :
    ∀ (r : List S25) (i : Nat) (b : Bool), R.drop i = r → (b || r.any fun x => ea x a) = true →
    Ev (fun k => ddilaw32_UpstreamChooses.l2 k all free b R (R.length : Int) (i : Int) f0 t now a.f0 a.f1 a.f2) true
  | [], i, b, h, hb => by
    have := drop_end h
    obtain ⟨K, hK⟩ := hend
    have e : b = true := by simpa using hb
    refine ⟨K + 1, fun k hk => ?_⟩
    have := hK k (by omega)
    obtain ⟨k, rfl⟩ : ∃ m, k = m + 1 := ⟨k - 1, by omega⟩
    dsimp only at this ⊢
    rw [ddilaw32_UpstreamChooses.l2, if_neg (by omega)] at this
    rw [ddilaw32_UpstreamChooses.l2, if_neg (by omega), e]
    exact this
  | x :: r, i, b, h, hb => by
    obtain ⟨hi, hx, hr⟩ := drop_at h
    rw [List.any_cons] at hb
    cases b with
    | true =>
      have ih := among all free now f0 t R hR a hend r (i + 1) true hr (by simp)
      refine Ev_shift 1 (fun k => ?_) ih
      rw [ddilaw32_UpstreamChooses.l2, if_pos (by omega), if_pos (by omega), if_pos (by omega), if_pos rfl, next i R.length hi (by omega)]
    | false =>
      have ih := among all free now f0 t R hR a hend r (i + 1) (ea x a) hr (by simpa using hb)
      refine Ev_shift 1 (fun k => ?_) ih
      rw [ddilaw32_UpstreamChooses.l2, if_pos (by omega), if_pos (by omega), if_pos (by omega), if_neg (by decide), next i R.length hi (by omega), rdAddr R i hi, hx]
      rfl
theorem outer (all : List S34) (hal : all.length < 1000) (from_ : List S25) (hf : from_.length ≤ 16) (now : Int) (f0 t : List S25) (ht : t.length < 5864062014805) (R : List S25) (F : Bool)
    (hend : Ev (fun k => ddilaw32_UpstreamChooses.l0 k (all.map c2) from_ R F from_ (from_.length : Int) (from_.length : Int) f0 t now) true) :
    ∀ (r : List S25) (i : Nat) (rest : List S25) (free : Bool), from_.drop i = r → rest.length ≤ i → rest ++ (r.filter fun a => !tin t a) = R → (free || (r.filter fun a => !tin t a).any fun a => decide ((found all a).f3 ≤ now)) = F →
    Ev (fun k => ddilaw32_UpstreamChooses.l0 k (all.map c2) from_ rest free from_ (from_.length : Int) (i : Int) f0 t now) true
  | [], i, rest, free, h, _, hr, hF => by
    have := drop_end h
    obtain ⟨K, hK⟩ := hend
    have e1 : rest = R := by simpa using hr
    have e2 : free = F := by simpa using hF
    refine ⟨K + 1, fun k hk => ?_⟩
    have := hK k (by omega)
    obtain ⟨k, rfl⟩ : ∃ m, k = m + 1 := ⟨k - 1, by omega⟩
    dsimp only at this ⊢
    rw [ddilaw32_UpstreamChooses.l0, if_neg (by omega)] at this
    rw [ddilaw32_UpstreamChooses.l0, if_neg (by omega), e1, e2]
    exact this
  | a :: r, i, rest, free, h, hri, hr, hF => by
    obtain ⟨hi, hx, hd⟩ := drop_at h
    refine Ev_shift 1 (fun k => by rw [ddilaw32_UpstreamChooses.l0, if_pos (by omega), if_pos (by omega), if_pos (by omega), rdAddr from_ i hi, hx]) ?_
    have hany : (t.any fun x => ea x a) = tin t a := by
      rw [tin_any]
      congr 1
      funext x
      exact ea_comm x a
    refine inner (all.map c2) from_ rest free now f0 t ht a (i : Int) ?_ t 0 false rfl (by simp)
    rw [hany]
    refine Ev_shift 1 (fun k => by rw [ddilaw32_UpstreamChooses.l1, if_neg (by omega)]) ?_
    by_cases hq : tin t a = true
    · rw [List.filter_cons_of_neg (by simp [hq])] at hr hF
      simp only [hq, if_true, next i from_.length hi (by omega)]
      exact outer all hal from_ hf now f0 t ht R F hend r (i + 1) rest free hd (by omega) hr hF
    · rw [List.filter_cons_of_pos (by simp [hq])] at hr hF
      have hq' : tin t a = false := by simpa using hq
      simp only [hq', Bool.false_eq_true, if_false, if_pos (show rest.length < 5864062014805 by omega), Option.bind_some, next i from_.length hi (by omega)]
      rw [List.any_cons] at hF
      cases free with
      | true =>
        simp only [if_true]
        exact outer all hal from_ hf now f0 t ht R F hend r (i + 1) (rest ++ [a]) true hd (by simp; omega) (by rw [List.append_assoc]; exact hr) (by simpa using hF)
      | false =>
        simp only [Bool.false_eq_true, if_false]
        refine Ev.bind (ufind_ev all (by omega) a) ?_
        exact outer all hal from_ hf now f0 t ht R F hend r (i + 1) (rest ++ [a]) (decide ((found all a).f3 ≤ now)) hd (by simp; omega) (by rw [List.append_assoc]; exact hr) (by simpa using hF)
theorem upstreamChooses : ddilaw32_UpstreamChooses.Pure := by
  intro acts f0 t now hacts hc
  have hal : acts.length < 2932031007402 := by omega
  have htl : t.length < 5864062014805 := by have h24 : t.length * 24 ≤ 140737488351232 := hc.2.1.1; omega
  refine Ev.rounds (?_ : Ev (fun k => ddilaw32_UpstreamChooses.f k acts f0 t now) true)
  unfold ddilaw32_UpstreamChooses.f
  refine Ev.bind (play_ev acts hal) ?_
  have hta : (acts.take 60).length ≤ 60 := by rw [List.length_take]; omega
  have hlen : ((acts.take 60).foldl act []).length ≤ 60 := by have := acts_len (acts.take 60) []; simp only [List.length_nil] at this; omega
  generalize (acts.take 60).foldl act [] = all at hlen
  have h2 := mn_len' f0.length 16
  simp only [show ((16 : Nat) : Int) = 16 from rfl] at h2
  simp only [if_pos h2.1, if_pos h2.2.1, Option.bind_some, h2.2.2]
  have hf : (f0.take (min f0.length 16)).length ≤ 16 := by rw [List.length_take]; omega
  generalize f0.take (min f0.length 16) = from_ at hf
  refine outer all (by omega) from_ hf now f0 t htl (from_.filter fun a => !tin t a) ((from_.filter fun a => !tin t a).any fun a => decide ((found all a).f3 ≤ now)) ?_ from_ 0 [] false rfl (by simp) rfl (by simp)
  refine Ev_shift 1 (fun k => by rw [ddilaw32_UpstreamChooses.l0, if_neg (by omega)]) ?_
  have hcm := cand_map all t from_ 0 (by omega)
  have hRl : (from_.filter fun a => !tin t a).length ≤ 16 := Nat.le_trans (List.length_filter_le _ _) hf
  have hp := upick_ev all (by omega) from_ t (by omega)
  generalize hR : (from_.filter fun a => !tin t a) = R at hRl hcm
  rw [hcm] at hp
  refine Ev.bind (hp (by omega) now) ?_
  cases R with
  | nil =>
    simp only [List.map_nil, chosen, choose, addr4, List.length_nil, List.any_nil]
    simp only [show (false != decide (((0 : Nat) : Int) > 0)) = false from by decide, Bool.false_eq_true, if_false, show (!false && ((0 : Int) == 0 && (0 : Int) == 0)) = true from by decide, if_true]
    exact Ev.bind awake_ev (Ev_const rfl)
  | cons a R =>
    obtain ⟨p, h1, h2, h3⟩ := choose_mem now (R.map (found all)) (found all a)
    have hch : chosen now ((a :: R).map (found all)) = some p := h1
    obtain ⟨b, hb, hpb⟩ : ∃ b ∈ a :: R, p = found all b := by
      rcases h2 with h2 | h2
      · exact ⟨a, List.mem_cons_self .., h2⟩
      · obtain ⟨b, hb, e⟩ := List.mem_map.1 h2
        exact ⟨b, List.mem_cons_of_mem _ hb, e.symm⟩
    have hp0 : p.f0 = b := by rw [hpb, found_f0]
    have hF : ((a :: R).any fun a => decide ((found all a).f3 ≤ now)) = decide (p.f3 ≤ now) := by
      rw [Bool.eq_iff_iff, List.any_eq_true, decide_eq_true_eq, h3]
      simp only [List.mem_cons, decide_eq_true_eq, exists_eq_or_imp, List.mem_map]
      constructor
      · rintro (h | ⟨y, hy, h⟩)
        · exact Or.inl h
        · exact Or.inr ⟨_, ⟨y, hy, rfl⟩, h⟩
      · rintro (h | ⟨_, ⟨y, hy, rfl⟩, h⟩)
        · exact Or.inl h
        · exact Or.inr ⟨y, hy, h⟩
    rw [hch, hF]
    have hpos : decide ((((a :: R).length : Nat) : Int) > 0) = true := decide_eq_true (by simp only [List.length_cons]; omega)
    simp only [addr4, hpos, bne_self_eq_false, Bool.false_eq_true, if_false, if_true]
    rw [hp0]
    refine among (all.map c2) (decide (p.f3 ≤ now)) now f0 t (a :: R) (by omega) b ?_ (a :: R) 0 false rfl ?_
    · refine Ev_shift 1 (fun k => by rw [ddilaw32_UpstreamChooses.l2, if_neg (by omega), if_pos rfl]) ?_
      refine Ev.bind (ufind_ev all (by omega) b) ?_
      have e : (decide ((tup (found all b)).2.2.2.2.2 ≤ now) != decide (p.f3 ≤ now)) = false := by
        rw [← hpb]
        exact bne_self_eq_false _
      rw [e]
      refine Ev_shift 1 (fun k => by rw [ddilaw32_UpstreamChooses.j3, if_neg (by decide)]) ?_
      refine Ev.bind (ugood_ev all (by omega) b 5) ?_
      have hgl : (good all b 5).length ≤ all.length + 1 := stored_len _ _
      refine Ev.bind (ufind_ev (good all b 5) (by omega) b) ?_
      have hg : found (good all b 5) b = ⟨b, gr all b 5, 0, 0⟩ := by
        rw [found, good, stored_find _ _ _ (by omega), if_pos (ea_self b)]
        rfl
      rw [hg]
      simp only [tup, if_true]
      exact Ev.bind awake_ev (Ev_const rfl)
    · rw [Bool.false_or, List.any_eq_true]
      exact ⟨b, hb, ea_self b⟩
end Go.Proofs.Ytgkpinecggoilaa.Ma
