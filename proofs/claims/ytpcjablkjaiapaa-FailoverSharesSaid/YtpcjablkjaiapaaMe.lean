/- FailoverShares: Mine, Share and Leases give what the reference gives. -/
import Derived.Test.YtpcjablkjaiapaaQAd
import Derived.Test.YtpcjablkjaiapaaMd
namespace Go.Proofs.Ytpcjablkjaiapaa.Mz
open Go.RowKit Go.Proofs.YtpcjablkjaiapaaW.PrintWords Go.Proofs.YtpcjablkjaiapaaW.PrintLast Go.Proofs.YtpcjablkjaiapaaW.PrintMore Go.Proofs.Ytpcjablkjaiapaa.XP Go.Proofs.Ytpcjablkjaiapaa.QA Go.Proofs.Ytpcjablkjaiapaa.Cm
set_option linter.unusedVariables false
set_option linter.unusedSimpArgs false
theorem partT_v4 {b : Bool} {r z : S64} (h : V4 r) (hz : partT b r = some z) : V4 z := by
  obtain ⟨h1, h2, h3, h4, h5, h6, h7⟩ := h
  unfold partT at hz
  split at hz
  · injection hz with hz
    subst hz
    exact ⟨h1, h2, rfl, rfl, h5, (by show r.f0.f2 ≤ r.f0.f2 + (r.f1.f2 - r.f0.f2) / 2; omega), (by show r.f0.f2 + (r.f1.f2 - r.f0.f2) / 2 ≤ 4294967295; omega)⟩
  · split at hz
    · cases hz
    · injection hz with hz
      subst hz
      exact ⟨rfl, rfl, h3, h4, (by show 0 ≤ r.f0.f2 + ((r.f1.f2 - r.f0.f2) / 2 + 1); omega), (by show r.f0.f2 + ((r.f1.f2 - r.f0.f2) / 2 + 1) ≤ r.f1.f2; omega), h7⟩
def shrT (b : Bool) (m u now : Int) (l : List S64) (q : List S55) : List S64 × List S55 :=
  if start m = true then ([], []) else (if m = 3 ∧ now ≥ u then (l, q) else (prT b l, q))
theorem start_not3 {m : Int} (h : m = 3) : start m = false := by
  subst h
  decide
theorem share_ev (b : Bool) (m u w : Int) (p0 : Bool) (p1 p2 n : Int) (c : ByteArray) (l : List S64) (hl : l.length * 48 ≤ 140737488351232) (hv : ∀ r ∈ l, V4 r) (q : List S55) (hq : q.length * 56 ≤ 140737488351232) (o : List S57) (ho : o.length * 24 ≤ 140737488351232) (t : Int) (now : Int) : Ev (fun k => failover_Share.f k b m u w p0 p1 p2 n c l q o t now) (p0, p1, p2, n, c, (shrT b m u now l q).1, (shrT b m u now l q).2, o, t) := by
  have h1 : ∀ z : List S64, Ev (fun k => failover_Share.j1 k p0 p1 p2 n c z q o t) (p0, p1, p2, n, c, z, q, o, t) := by
    intro z
    refine Ev_shift 1 (f := fun _ => some (p0, p1, p2, n, c, z, q, o, t)) (fun k => ?_) (Ev_const rfl)
    rw [failover_Share.j1]
    unfold slices_Clone_43.f
    rw [if_pos (by omega)]
    rfl
  have h0 : Ev (fun k => failover_Share.j0 k false b m u w p0 p1 p2 n c l q o t) (p0, p1, p2, n, c, prT b l, q, o, t) := by
    refine Ev_shift 1 (fun k => by rw [failover_Share.j0, if_neg Bool.false_ne_true]) ?_
    exact Ev.bind (parts_ev b m u w p0 p1 p2 n c l hl hv q o t) (h1 _)
  have ht : Ev (fun k => failover_Share.j0 k true b m u w p0 p1 p2 n c l q o t) (p0, p1, p2, n, c, l, q, o, t) := by
    have hc : slices_Clone_42.f l = some l := by
      unfold slices_Clone_42.f
      rw [if_pos (by omega)]
    exact Ev_shift 1 (fun k => by rw [failover_Share.j0, if_pos rfl, hc, Option.bind_some]) (h1 _)
  unfold failover_Share.f shrT
  rw [clone76 o ho]
  simp only [Option.bind_some]
  have hi := is_ev b m u w [0, 4] (by simp)
  cases hs : start m with
  | true =>
    have hs' : [(0 : Int), 4].any (fun x => decide (stN m = x)) = true := hs
    rw [hs'] at hi
    exact Ev.bind hi (Ev_const rfl)
  | false =>
    have hs' : [(0 : Int), 4].any (fun x => decide (stN m = x)) = false := hs
    rw [hs'] at hi
    refine Ev.bind hi ?_
    simp only [Bool.false_eq_true, if_false]
    refine Ev.bind (is_ev b m u w [3] (by simp)) ?_
    by_cases h3 : m = 3
    · have e3 : stN m = 3 := (st_eq m 3 (by omega) (by omega)).2 h3
      simp only [List.any_cons, List.any_nil, Bool.or_false, decide_eq_true e3, if_true]
      by_cases hn : now ≥ u
      · rw [if_pos ⟨h3, hn⟩, decide_eq_true hn]
        exact ht
      · rw [if_neg (fun h => hn h.2), decide_eq_false hn]
        exact h0
    · have e3 : ¬ stN m = 3 := fun h => h3 ((st_eq m 3 (by omega) (by omega)).1 h)
      rw [if_neg (fun h => h3 h.1)]
      simp only [List.any_cons, List.any_nil, Bool.or_false, decide_eq_false e3, Bool.false_eq_true, if_false]
      exact h0
theorem shr_len (b : Bool) (m u now : Int) (l : List S64) (q : List S55) : (shrT b m u now l q).1.length ≤ l.length ∧ (shrT b m u now l q).2.length ≤ q.length := by
  have := prT_len b l
  unfold shrT
  split
  · simp
  · split
    · simp
    · simpa using this
theorem shr_v4 (b : Bool) (m u now : Int) (l : List S64) (hv : ∀ r ∈ l, V4 r) (q : List S55) : ∀ r ∈ (shrT b m u now l q).1, V4 r := by
  unfold shrT
  split
  · exact fun r h => absurd h List.not_mem_nil
  · split
    · exact hv
    · intro z hz
      obtain ⟨r, hr, he⟩ := List.mem_filterMap.1 hz
      exact partT_v4 (hv r hr) he
theorem leases_all (b : Bool) (m u w : Int) (p0 : Bool) (p1 p2 n : Int) (c : ByteArray) (l : List S64) (hl : l.length * 48 ≤ 140737488351232) (hv : ∀ r ∈ l, V4 r) (q : List S55) (hq : q.length * 56 ≤ 140737488351232) (o : List S57) (ho : o.length * 24 ≤ 140737488351232) (t : Int) (a : S26) (now : Int) : Ev (fun k => failover_Leases.f k b m u w p0 p1 p2 n c l q o t a.f0 a.f1 a.f2 now) (atB (shrT b m u now l q).2 a || inL (shrT b m u now l q).1 a) := by
  obtain ⟨s1, s2⟩ := shr_len b m u now l q
  unfold failover_Leases.f
  refine Ev.bind (share_ev b m u w p0 p1 p2 n c l hl hv q hq o ho t now) ?_
  exact mayl_ev p0 p1 p2 n c (shrT b m u now l q).1 (by omega) (shrT b m u now l q).2 (by omega) o t a
theorem rstate_ev (b : Bool) (n u m : Int) : Ev (fun k => ddiref44_state.f k b n u m) (stN n) := by
  unfold ddiref44_state.f stN
  split
  · exact Ev_shift 1 (f := fun _ => some 0) (fun k => by rw [ddiref44_state.j0, if_pos rfl]) (Ev_const rfl)
  · by_cases h : n > 4
    · rw [if_pos h, decide_eq_true h]
      exact Ev_shift 1 (f := fun _ => some 0) (fun k => by rw [ddiref44_state.j0, if_pos rfl]) (Ev_const rfl)
    · rw [if_neg h, decide_eq_false h]
      exact Ev_shift 1 (f := fun _ => some n) (fun k => by rw [ddiref44_state.j0, if_neg Bool.false_ne_true]) (Ev_const rfl)
theorem rpart_v (b : Bool) (m u w : Int) (r : S64) (h : V4 r) : ∃ t, ddiref44_part.f b m u w r.f0.f0 r.f0.f1 r.f0.f2 r.f1.f0 r.f1.f1 r.f1.f2 = some t ∧ t.2.2.2.2.2.2 = (partT b r).isSome ∧ ∀ z, partT b r = some z → t = tupP (some z) := by
  obtain ⟨⟨x0, x1, x2⟩, ⟨y0, y1, y2⟩⟩ := r
  obtain ⟨h1, h2, h3, h4, h5, h6, h7⟩ := h
  simp only [] at h1 h2 h3 h4 h5 h6 h7
  subst h1
  subst h2
  subst h3
  subst h4
  have e1 : IntKind.u64.wrap (y2 - x2) = y2 - x2 := u64_id _ (by omega) (by omega)
  have e2 : IntKind.u64.wrap (y2 - x2 + 1) = y2 - x2 + 1 := u64_id _ (by omega) (by omega)
  have e3 : IntKind.u64.wrap (y2 - x2 + 1 + 1) = y2 - x2 + 1 + 1 := u64_id _ (by omega) (by omega)
  have hd : Int.tdiv (y2 - x2 + 1 + 1) 2 = (y2 - x2) / 2 + 1 := by
    rw [Int.tdiv_eq_ediv_of_nonneg (by omega)]
    omega
  have e4 : IntKind.u64.wrap ((y2 - x2) / 2 + 1) = (y2 - x2) / 2 + 1 := u64_id _ (by omega) (by omega)
  have e5 : IntKind.u64.wrap (x2 + ((y2 - x2) / 2 + 1)) = x2 + ((y2 - x2) / 2 + 1) := u64_id _ (by omega) (by omega)
  have e6 : IntKind.u64.wrap (x2 + ((y2 - x2) / 2 + 1) - 1) = x2 + (y2 - x2) / 2 := by
    rw [u64_id _ (by omega) (by omega)]
    omega
  unfold ddiref44_part.f partT
  simp only [e1, e2, e3, hd, e4, e5, e6]
  cases b with
  | true =>
    simp only [if_true]
    refine ⟨_, rfl, rfl, fun z hz => ?_⟩
    injection hz with hz
    subst hz
    rfl
  | false =>
    simp only [Bool.false_eq_true, if_false]
    by_cases hg : (y2 - x2) / 2 + 1 > y2 - x2
    · rw [if_pos hg]
      refine ⟨_, rfl, ?_, fun z hz => by cases hz⟩
      exact decide_eq_false (by omega)
    · rw [if_neg hg]
      refine ⟨_, rfl, ?_, fun z hz => ?_⟩
      · exact decide_eq_true (by omega)
      · injection hz with hz
        subst hz
        rw [decide_eq_true (by omega)]
        rfl
theorem rat_from (p0 : Bool) (p1 p2 n : Int) (c : ByteArray) (l : List S64) (q : List S55) (hq : q.length ≤ 140737488351232) (o : List S57) (t : Int) (a : S26) : ∀ (r : List S55) (i : Nat), q.drop i = r → ∃ v, Ev (fun k => ddiref37_At.l0 k (i : Int) p0 p1 p2 n c l q o t a.f0 a.f1 a.f2) v ∧ v.2.2.2.2.2 = atB r a
  | [], i, h => by
    have := drop_end h
    exact ⟨(⟨#[]⟩, false, 0, 0, ⟨#[]⟩, false), Ev_shift 1 (f := fun _ => some (⟨#[]⟩, false, 0, 0, ⟨#[]⟩, false)) (fun k => by rw [ddiref37_At.l0, if_neg (by omega)]) (Ev_const rfl), rfl⟩
  | y :: r, i, h => by
    obtain ⟨hi, hy, hr⟩ := rd53 q i y r h
    obtain ⟨v, hv, hvb⟩ := rat_from p0 p1 p2 n c l q hq o t a r (i + 1) hr
    unfold atB
    rw [List.any_cons]
    cases he : ea y.f1 a with
    | true =>
      have he' := he
      unfold ea at he'
      exact ⟨(y.f0, y.f1.f0, y.f1.f1, y.f1.f2, y.f2, true), Ev_shift 1 (f := fun _ => some (y.f0, y.f1.f0, y.f1.f1, y.f1.f2, y.f2, true)) (fun k => by rw [ddiref37_At.l0, if_pos (by omega), if_pos (by omega), hy, if_pos he']) (Ev_const rfl), rfl⟩
    | false =>
      have he' := he
      unfold ea at he'
      exact ⟨v, Ev_shift 1 (fun k => by rw [ddiref37_At.l0, if_pos (by omega), if_pos (by omega), hy, if_neg (by rw [he']; exact Bool.false_ne_true), next i q.length hi (by omega)]) hv, by rw [hvb]; rfl⟩
theorem rat_ev (p0 : Bool) (p1 p2 n : Int) (c : ByteArray) (l : List S64) (q : List S55) (hq : q.length ≤ 140737488351232) (o : List S57) (t : Int) (a : S26) : ∃ v, Ev (fun k => ddiref37_At.f k p0 p1 p2 n c l q o t a.f0 a.f1 a.f2) v ∧ v.2.2.2.2.2 = atB q a := by
  unfold ddiref37_At.f
  exact rat_from p0 p1 p2 n c l q hq o t a q 0 rfl
theorem rhas_from (p0 : Bool) (p1 p2 n : Int) (c : ByteArray) (l : List S64) (hl : l.length ≤ 140737488351232) (q : List S55) (o : List S57) (t : Int) (a : S26) : ∀ (r : List S64) (i : Nat), l.drop i = r → Ev (fun k => ddiref37_Has.l0 k (i : Int) p0 p1 p2 n c l q o t a.f0 a.f1 a.f2) (inL r a)
  | [], i, h => by
    have := drop_end h
    exact Ev_shift 1 (f := fun _ => some false) (fun k => by rw [ddiref37_Has.l0, if_neg (by omega)]) (Ev_const rfl)
  | y :: r, i, h => by
    obtain ⟨hi, hy, hr⟩ := rd57 l i y r h
    have ih := rhas_from p0 p1 p2 n c l hl q o t a r (i + 1) hr
    have e : inL (y :: r) a = (pin y a || inL r a) := rfl
    rw [e]
    refine Ev_shift 1 (fun k => by rw [ddiref37_Has.l0, if_pos (by omega), if_pos (by omega), hy, rin_v y a, Option.bind_some, next i l.length hi (by omega)]) ?_
    cases pin y a with
    | true => exact Ev_const rfl
    | false => exact ih
theorem inL_v4 {l : List S64} (hv : ∀ r ∈ l, V4 r) {a : S26} (h : a.f0 = true) : inL l a = false := by
  unfold inL
  rw [List.any_eq_false]
  intro r hr
  rw [pin4 r (hv r hr), h]
  simp
theorem rmayl_ev (p0 : Bool) (p1 p2 n : Int) (c : ByteArray) (l : List S64) (hl : l.length ≤ 140737488351232) (hv : ∀ r ∈ l, V4 r) (q : List S55) (hq : q.length ≤ 140737488351232) (o : List S57) (t : Int) (a : S26) : Ev (fun k => (ddiref37_At.f k p0 p1 p2 n c l q o t a.f0 a.f1 a.f2).bind fun bt459 => (if bt459.2.2.2.2.2 = true then (some true) else ((ddiref37_Has.f k p0 p1 p2 n c l q o t a.f0 a.f1 a.f2).bind fun t466 => (some t466)))) (atB q a || inL l a) := by
  obtain ⟨v, hv', hb⟩ := rat_ev p0 p1 p2 n c l q hq o t a
  refine Ev.bind hv' ?_
  have hh : Ev (fun k => ddiref37_Has.f k p0 p1 p2 n c l q o t a.f0 a.f1 a.f2) (!atB q a && inL l a) := by
    unfold ddiref37_Has.f
    refine Ev.bind hv' ?_
    rw [hb]
    cases atB q a with
    | true => exact Ev_shift 1 (f := fun _ => some false) (fun k => by simp [ddiref37_Has.j0]) (Ev_const rfl)
    | false =>
      simp only [Bool.false_eq_true, if_false, Bool.not_false, Bool.true_and]
      cases h0 : a.f0 with
      | true =>
        rw [inL_v4 hv h0]
        exact Ev_shift 1 (f := fun _ => some false) (fun k => by rw [ddiref37_Has.j0, if_pos rfl]) (Ev_const rfl)
      | false =>
        have := rhas_from p0 p1 p2 n c l hl q o t a l 0 rfl
        rw [h0] at this
        exact Ev_shift 1 (fun k => by rw [ddiref37_Has.j0, if_neg Bool.false_ne_true]; rfl) this
  rw [hb]
  cases hq : atB q a with
  | true => exact Ev_const rfl
  | false =>
    rw [hq] at hh
    exact Ev.bind hh (Ev_const (by simp))
theorem rins_v (r : S64) (a : S26) : ddiref44_inside.f r.f0.f0 r.f0.f1 r.f0.f2 r.f1.f0 r.f1.f1 r.f1.f2 a.f0 a.f1 a.f2 = some (pin r a) := rin_v r a
theorem rmine_from (b : Bool) (m u w : Int) (p0 : Bool) (p1 p2 n : Int) (c : ByteArray) (l : List S64) (hl : l.length ≤ 140737488351232) (hv : ∀ r ∈ l, V4 r) (q : List S55) (o : List S57) (t : Int) (a : S26) : ∀ (r : List S64) (i : Nat), l.drop i = r → Ev (fun k => ddiref44_Mine.l0 k (i : Int) b m u w p0 p1 p2 n c l q o t a.f0 a.f1 a.f2) (inL (prT b r) a)
  | [], i, h => by
    have := drop_end h
    exact Ev_shift 1 (f := fun _ => some false) (fun k => by rw [ddiref44_Mine.l0, if_neg (by omega)]) (Ev_const rfl)
  | y :: r, i, h => by
    obtain ⟨hi, hy, hr⟩ := rd57 l i y r h
    have hym : y ∈ l := by
      obtain ⟨h1, h2, _⟩ := drop_at h
      rw [← h2]
      exact List.getElem_mem h1
    have ih := rmine_from b m u w p0 p1 p2 n c l hl hv q o t a r (i + 1) hr
    have hj : ∀ x : Bool, Ev (fun k => ddiref44_Mine.j1 k (i : Int) x b m u w p0 p1 p2 n c l q o t a.f0 a.f1 a.f2) (x || inL (prT b r) a) := by
      intro x
      cases x with
      | true => exact Ev_shift 1 (f := fun _ => some true) (fun k => by rw [ddiref44_Mine.j1, if_pos rfl]) (Ev_const rfl)
      | false => exact Ev_shift 1 (fun k => by rw [ddiref44_Mine.j1, if_neg Bool.false_ne_true, next i l.length hi (by omega)]) ih
    obtain ⟨v, hv', hs, hz⟩ := rpart_v b m u w y (hv y hym)
    have e : prT b (y :: r) = (match partT b y with | some z => z :: prT b r | none => prT b r) := by
      unfold prT
      rw [List.filterMap_cons]
      cases partT b y <;> rfl
    rw [e]
    refine Ev_shift 1 (fun k => by rw [ddiref44_Mine.l0, if_pos (by omega), if_pos (by omega), hy, hv', Option.bind_some]) ?_
    cases hp : partT b y with
    | none =>
      rw [hp] at hs
      have hs' : v.2.2.2.2.2.2 = false := hs
      simp only [hs', Bool.false_eq_true, if_false]
      exact hj false
    | some z =>
      have hvz := hz z hp
      subst hvz
      simp only [tupP, if_true, rins_v, Option.bind_some]
      exact hj (pin z a)
theorem rmine_ev (b : Bool) (m u w : Int) (p0 : Bool) (p1 p2 n : Int) (c : ByteArray) (l : List S64) (hl : l.length ≤ 140737488351232) (hv : ∀ r ∈ l, V4 r) (q : List S55) (hq : q.length ≤ 140737488351232) (o : List S57) (t : Int) (a : S26) : Ev (fun k => ddiref44_Mine.f k b m u w p0 p1 p2 n c l q o t a.f0 a.f1 a.f2) (atB q a || inL (prT b l) a) := by
  unfold ddiref44_Mine.f
  obtain ⟨v, hv', hb⟩ := rat_ev p0 p1 p2 n c l q hq o t a
  refine Ev.bind hv' ?_
  rw [hb]
  cases atB q a with
  | true => exact Ev_const rfl
  | false => exact rmine_from b m u w p0 p1 p2 n c l hl hv q o t a l 0 rfl
theorem rshare_from (b : Bool) (m u w : Int) (p0 : Bool) (p1 p2 n : Int) (c : ByteArray) (l : List S64) (hl : l.length * 48 ≤ 140737488351232) (hv : ∀ r ∈ l, V4 r) (q : List S55) (o : List S57) (t : Int) : ∀ (r : List S64) (i : Nat) (z : List S64), l.drop i = r → z.length ≤ i → Ev (fun k => ddiref44_Share.l0 k z (i : Int) b m u w p0 p1 p2 n c l q o t) (p0, p1, p2, n, c, z ++ prT b r, q, o, t)
  | [], i, z, h, _ => by
    have := drop_end h
    exact Ev_shift 1 (f := fun _ => some (p0, p1, p2, n, c, z, q, o, t)) (fun k => by rw [ddiref44_Share.l0, if_neg (by omega)]) (Ev_const (by simp [prT]))
  | y :: r, i, z, h, hz => by
    obtain ⟨hi, hy, hr⟩ := rd57 l i y r h
    have hym : y ∈ l := by
      obtain ⟨h1, h2, _⟩ := drop_at h
      rw [← h2]
      exact List.getElem_mem h1
    have ih := fun z hz => rshare_from b m u w p0 p1 p2 n c l hl hv q o t r (i + 1) z hr hz
    obtain ⟨v, hv', hs, hpz⟩ := rpart_v b m u w y (hv y hym)
    have e : prT b (y :: r) = (match partT b y with | some z => z :: prT b r | none => prT b r) := by
      unfold prT
      rw [List.filterMap_cons]
      cases partT b y <;> rfl
    rw [e]
    refine Ev_shift 1 (fun k => by rw [ddiref44_Share.l0, if_pos (by omega), if_pos (by omega), hy, hv', Option.bind_some, next i l.length hi (by omega)]) ?_
    cases hp : partT b y with
    | none =>
      rw [hp] at hs
      have hs' : v.2.2.2.2.2.2 = false := hs
      simp only [hs', Bool.false_eq_true, if_false]
      exact ih z (by omega)
    | some x =>
      have hvx := hpz x hp
      subst hvx
      simp only [tupP, if_true, if_pos (show z.length < 2932031007402 by omega)]
      have := ih (z ++ [x]) (by simp; omega)
      rw [List.append_assoc] at this
      exact this
theorem rshare_ev (b : Bool) (m u w : Int) (p0 : Bool) (p1 p2 n : Int) (c : ByteArray) (l : List S64) (hl : l.length * 48 ≤ 140737488351232) (hv : ∀ r ∈ l, V4 r) (q : List S55) (o : List S57) (t : Int) (now : Int) : Ev (fun k => ddiref44_Share.f k b m u w p0 p1 p2 n c l q o t now) (p0, p1, p2, n, c, (shrT b m u now l q).1, (shrT b m u now l q).2, o, t) := by
  have h1 : ∀ x : Bool, Ev (fun k => ddiref44_Share.j1 k [] x b m u w p0 p1 p2 n c l q o t) (p0, p1, p2, n, c, (if x = true then [] else prT b l), (if x = true then [] else q), o, t) := by
    intro x
    cases x with
    | true => exact Ev_shift 1 (f := fun _ => some (p0, p1, p2, n, c, [], [], o, t)) (fun k => by rw [ddiref44_Share.j1, if_pos rfl]) (Ev_const rfl)
    | false => exact Ev_shift 1 (fun k => by rw [ddiref44_Share.j1, if_neg Bool.false_ne_true]; rfl) (rshare_from b m u w p0 p1 p2 n c l hl hv q o t l 0 [] rfl (Nat.le_refl _))
  have hst : start m = (decide (stN m = 0) || (stN m == 4)) := by
    unfold start
    simp only [List.any_cons, List.any_nil, Bool.or_false]
    rfl
  have h0 : Ev (fun k => ddiref44_Share.j0 k (stN m) false b m u w p0 p1 p2 n c l q o t) (p0, p1, p2, n, c, (if start m = true then [] else prT b l), (if start m = true then [] else q), o, t) := by
    rw [hst]
    refine Ev_shift 1 (fun k => by rw [ddiref44_Share.j0, if_neg Bool.false_ne_true]) ?_
    by_cases hz : stN m = 0
    · simp only [if_pos hz]
      rw [decide_eq_true hz, Bool.true_or]
      exact h1 true
    · simp only [if_neg hz]
      rw [decide_eq_false hz, Bool.false_or]
      exact h1 _
  have ht : Ev (fun k => ddiref44_Share.j0 k (stN m) true b m u w p0 p1 p2 n c l q o t) (p0, p1, p2, n, c, l, q, o, t) := Ev_shift 1 (f := fun _ => some (p0, p1, p2, n, c, l, q, o, t)) (fun k => by rw [ddiref44_Share.j0, if_pos rfl]) (Ev_const rfl)
  unfold ddiref44_Share.f shrT
  refine Ev.bind (rstate_ev b m u w) ?_
  by_cases h3 : m = 3
  · have e3 : stN m = 3 := (st_eq m 3 (by omega) (by omega)).2 h3
    have hns := start_not3 h3
    simp only [if_pos e3]
    rw [hns, if_neg Bool.false_ne_true]
    rw [hns] at h0
    by_cases hn : now ≥ u
    · rw [if_pos ⟨h3, hn⟩, decide_eq_true hn]
      exact ht
    · rw [if_neg (fun h => hn h.2), decide_eq_false hn]
      exact h0
  · have e3 : ¬ stN m = 3 := fun h => h3 ((st_eq m 3 (by omega) (by omega)).1 h)
    simp only [if_neg e3]
    rw [if_neg (show ¬ (m = 3 ∧ now ≥ u) from fun h => h3 h.1)]
    cases hs : start m with
    | true => rw [hs] at h0; exact h0
    | false => rw [hs] at h0; exact h0
theorem rleases_ev (b : Bool) (m u w : Int) (p0 : Bool) (p1 p2 n : Int) (c : ByteArray) (l : List S64) (hl : l.length * 48 ≤ 140737488351232) (hv : ∀ r ∈ l, V4 r) (q : List S55) (hq : q.length * 56 ≤ 140737488351232) (o : List S57) (t : Int) (a : S26) (now : Int) : Ev (fun k => ddiref44_Leases.f k b m u w p0 p1 p2 n c l q o t a.f0 a.f1 a.f2 now) (atB (shrT b m u now l q).2 a || inL (shrT b m u now l q).1 a) := by
  obtain ⟨s1, s2⟩ := shr_len b m u now l q
  unfold ddiref44_Leases.f
  refine Ev.bind (rshare_ev b m u w p0 p1 p2 n c l hl hv q o t now) ?_
  exact rmayl_ev p0 p1 p2 n c (shrT b m u now l q).1 (by omega) (shr_v4 b m u now l hv q) (shrT b m u now l q).2 (by omega) o t a
theorem sub2 (p0 : Bool) (p1 p2 n : Int) (c : ByteArray) (l : List S64) (q : List S55) (o : List S57) (ho : o.length ≤ 140737488351232) (t : Int) : ∀ (d i : Nat), o.length - i ≤ d → i ≤ o.length → Ev (fun k => ddilaw44_subnets.l2 k (i : Int) p0 p1 p2 n c l q o t p0 p1 p2 n c l q o t) true
  | d, i, hd, hi => by
    by_cases h : i < o.length
    · cases d with
      | zero => exact absurd hd (by omega)
      | succ d =>
        have ih := sub2 p0 p1 p2 n c l q o ho t d (i + 1) (by omega) (by omega)
        refine Ev_shift 1 (fun k => ?_) ih
        rw [ddilaw44_subnets.l2, if_pos (by omega), if_pos (by omega), if_pos (by omega), next i o.length h (by omega)]
        simp only [beq_self_eq_true, Bool.not_true, Bool.or_false, Bool.false_eq_true, if_false]
    · exact Ev_shift 1 (f := fun _ => some true) (fun k => by rw [ddilaw44_subnets.l2, if_neg (by omega)]) (Ev_const rfl)
theorem sub1 (p0 : Bool) (p1 p2 n : Int) (c : ByteArray) (l : List S64) (q : List S55) (hq : q.length ≤ 140737488351232) (o : List S57) (ho : o.length ≤ 140737488351232) (t : Int) : ∀ (d i : Nat), q.length - i ≤ d → i ≤ q.length → Ev (fun k => ddilaw44_subnets.l1 k (i : Int) p0 p1 p2 n c l q o t p0 p1 p2 n c l q o t) true
  | d, i, hd, hi => by
    by_cases h : i < q.length
    · cases d with
      | zero => exact absurd hd (by omega)
      | succ d =>
        have ih := sub1 p0 p1 p2 n c l q hq o ho t d (i + 1) (by omega) (by omega)
        refine Ev_shift 1 (fun k => ?_) ih
        rw [ddilaw44_subnets.l1, if_pos (by omega), if_pos (by omega), if_pos (by omega), next i q.length h (by omega)]
        simp only [beq_self_eq_true, Bool.not_true, Bool.or_false, Bool.false_eq_true, if_false]
    · exact Ev_shift 1 (fun k => by rw [ddilaw44_subnets.l1, if_neg (by omega)]; rfl) (sub2 p0 p1 p2 n c l q o ho t o.length 0 (by omega) (by omega))
theorem sub0 (p0 : Bool) (p1 p2 n : Int) (c : ByteArray) (l : List S64) (hl : l.length ≤ 140737488351232) (q : List S55) (hq : q.length ≤ 140737488351232) (o : List S57) (ho : o.length ≤ 140737488351232) (t : Int) : ∀ (d i : Nat), l.length - i ≤ d → i ≤ l.length → Ev (fun k => ddilaw44_subnets.l0 k (i : Int) p0 p1 p2 n c l q o t p0 p1 p2 n c l q o t) true
  | d, i, hd, hi => by
    by_cases h : i < l.length
    · cases d with
      | zero => exact absurd hd (by omega)
      | succ d =>
        have ih := sub0 p0 p1 p2 n c l hl q hq o ho t d (i + 1) (by omega) (by omega)
        refine Ev_shift 1 (fun k => ?_) ih
        rw [ddilaw44_subnets.l0, if_pos (by omega), if_pos (by omega), if_pos (by omega), next i l.length h (by omega)]
        simp only [beq_self_eq_true, Bool.not_true, Bool.or_false, Bool.false_eq_true, if_false]
    · exact Ev_shift 1 (fun k => by rw [ddilaw44_subnets.l0, if_neg (by omega)]; rfl) (sub1 p0 p1 p2 n c l q hq o ho t q.length 0 (by omega) (by omega))
theorem subnets_ev (p0 : Bool) (p1 p2 n : Int) (c : ByteArray) (l : List S64) (hl : l.length ≤ 140737488351232) (q : List S55) (hq : q.length ≤ 140737488351232) (o : List S57) (ho : o.length ≤ 140737488351232) (t : Int) : Ev (fun k => ddilaw44_subnets.f k p0 p1 p2 n c l q o t p0 p1 p2 n c l q o t) true := by
  unfold ddilaw44_subnets.f
  simp only [beq_self_eq_true, Bool.not_true, Bool.or_false, Bool.false_eq_true, if_false, if_true, bne_self_eq_false]
  exact Ev_shift 1 (fun k => by rw [ddilaw44_subnets.j0, if_neg Bool.false_ne_true]; rfl) (sub0 p0 p1 p2 n c l hl q hq o ho t l.length 0 (by omega) (by omega))
theorem failoverShares : ddilaw44_FailoverShares.Pure := by
  intro pb pn pu pm a0 a1 a2 n c l q o t b0 b1 b2 now _ hs _
  obtain ⟨_, _, ⟨hl, _, hlok⟩, ⟨hq, _, hqok⟩, ⟨ho, _, _⟩, _⟩ := hs
  simp only [] at hl hq ho
  refine Ev.rounds (?_ : Ev (fun k => ddilaw44_FailoverShares.f k pb pn pu pm a0 a1 a2 n c l q o t b0 b1 b2 now) true)
  unfold ddilaw44_FailoverShares.f
  refine Ev.bind wake_ev ?_
  simp only [if_true]
  have hjt : Ev (fun k => ddilaw44_FailoverShares.j0 k true pb pn pu pm a0 a1 a2 n c l q o t b0 b1 b2 now) true := Ev_shift 1 (f := fun _ => some true) (fun k => by rw [ddilaw44_FailoverShares.j0, if_pos rfl]) (Ev_const rfl)
  obtain ⟨sv, hsv⟩ := small_tot ⟨a0, a1, a2⟩ n c l q (by omega) o (by omega) t
  refine Ev.bind hsv ?_
  cases sv with
  | false => exact hjt
  | true =>
    simp only [if_true]
    obtain ⟨v, hv, hp⟩ := rcheck_ev ⟨a0, a1, a2⟩ n c l (by omega) q (by omega) hqok o (by omega) t
    refine Ev.bind hv ?_
    by_cases h0 : v = 0
    · obtain ⟨hp0, hpo⟩ := hp h0
      obtain ⟨g1, _, _⟩ := po_all ⟨a0, a1, a2⟩ l [] hpo
      have hV : ∀ r ∈ l, V4 r := fun r hr => v4_of hp0 (g1 r hr) (hlok r hr)
      have hb : (v != 0) = false := by simpa using h0
      rw [hb]
      obtain ⟨s1, s2⟩ := shr_len pb pn pu now l q
      refine Ev_shift 1 (fun k => by rw [ddilaw44_FailoverShares.j0, if_neg Bool.false_ne_true]) ?_
      refine Ev.bind (mine_ev pb pn pu pm a0 a1 a2 n c l hl hV q (by omega) o t ⟨b0, b1, b2⟩) ?_
      refine Ev.bind (rmine_ev pb pn pu pm a0 a1 a2 n c l (by omega) hV q (by omega) o t ⟨b0, b1, b2⟩) ?_
      simp only [beq_self_eq_true, if_true]
      refine Ev.bind (share_ev pb pn pu pm a0 a1 a2 n c l hl hV q hq o ho t now) ?_
      refine Ev.bind (rshare_ev pb pn pu pm a0 a1 a2 n c l hl hV q o t now) ?_
      refine Ev.bind (subnets_ev a0 a1 a2 n c (shrT pb pn pu now l q).1 (by omega) (shrT pb pn pu now l q).2 (by omega) o (by omega) t) ?_
      simp only [if_true]
      refine Ev.bind (leases_all pb pn pu pm a0 a1 a2 n c l hl hV q hq o ho t ⟨b0, b1, b2⟩ now) ?_
      exact Ev.bind (rleases_ev pb pn pu pm a0 a1 a2 n c l hl hV q hq o t ⟨b0, b1, b2⟩ now) (Ev_const (by simp))
    · have hb : (v != 0) = true := by simpa using h0
      rw [hb]
      exact hjt
end Go.Proofs.Ytpcjablkjaiapaa.Mz
