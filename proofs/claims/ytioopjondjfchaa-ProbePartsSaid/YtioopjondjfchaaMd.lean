/- ProbeChecks; a probe taken out of a table, and a table parted by time, the program's and the reference's. -/
import Derived.Test.YtioopjondjfchaaQAd1
import Derived.Test.YtioopjondjfchaaMc
namespace Go.Proofs.Ytioopjondjfchaa.Ma
open Go.RowKit Go.Proofs.YtioopjondjfchaaW.PrintWords Go.Proofs.YtioopjondjfchaaW.PrintLast Go.Proofs.YtioopjondjfchaaW.PrintMore Go.Proofs.Ytioopjondjfchaa.XP Go.Proofs.Ytioopjondjfchaa.QA Go.Proofs.Ytioopjondjfchaa.Cm
set_option linter.unusedVariables false
set_option linter.unusedSimpArgs false
theorem awake_ev : Ev (fun k => ddilaw40_awake.f k) true := ⟨60, fun k hk => at_rounds ddilaw40_awake.mono hk (by decide +kernel)⟩
theorem probeChecks : ddilaw40_ProbeChecks.Pure := by
  intro l ⟨hl, _, ok⟩
  refine Ev.rounds (?_ : Ev (fun k => ddilaw40_ProbeChecks.f k l) true)
  unfold ddilaw40_ProbeChecks.f
  refine Ev.bind awake_ev ?_
  simp only [if_true]
  refine Ev.bind (check_ev [⟨⟨false, 1, 0⟩, ⟨#[]⟩, ⟨0, 0, 0, ⟨#[]⟩, ⟨false, 0, 0⟩, ⟨false, 0, 0⟩, ⟨false, 0, 0⟩, false, []⟩, 0⟩] (by simp)) ?_
  refine Ev_shift 1 (fun k => by rw [ddilaw40_ProbeChecks.j0, if_neg (by decide)]) ?_
  by_cases h : (l.length : Int) > 600
  · simp only [if_pos h]
    exact Ev_const rfl
  · simp only [if_neg h]
    refine Ev.bind (check_ev l (by omega)) ?_
    refine Ev.bind (model_ev l (by omega)) ?_
    refine Ev.bind (rcheck_ev l (by omega)) ?_
    exact Ev_const (by simp)
/-! ### Seen -/
def rem (a : S28) (l : List S33) : List S33 := l.filter fun x => !ea x.f0 a
theorem rem_none (a : S28) (l : List S33) (h : get a l = none) : rem a l = l := by
  unfold rem
  unfold get at h
  rw [List.filter_eq_self]
  intro x hx
  have := List.find?_eq_none.1 h x hx
  simpa using this
theorem rem_pos (a : S28) : ∀ l : List S33, Srt l → ∀ h : pos a l < l.length, l[pos a l].f0 = a → l.take (pos a l) ++ l.drop (pos a l + 1) = rem a l
  | [], _, h, _ => by simp at h
  | x :: r, hs, h, he => by
    obtain ⟨h1, h2⟩ := List.pairwise_cons.1 hs
    by_cases hc : cmp x.f0 a < 0
    · have hp : pos a (x :: r) = pos a r + 1 := by rw [pos, if_pos hc]
      have hx : ea x.f0 a = false := by
        rw [ea_ne]
        intro e
        rw [e, cmp_self] at hc
        omega
      simp only [hp, List.length_cons] at h
      have he' : r[pos a r].f0 = a := by simpa [hp] using he
      have ih := rem_pos a r h2 (by omega) he'
      simp only [hp, List.take_succ_cons, List.drop_succ_cons, List.cons_append, ih]
      unfold rem
      rw [List.filter_cons, if_pos (by rw [hx]; rfl)]
    · have hp : pos a (x :: r) = 0 := by rw [pos, if_neg hc]
      have hx : x.f0 = a := by simpa [hp] using he
      simp only [hp, List.take_zero, List.nil_append, List.drop_succ_cons, List.drop_zero]
      have hr : get a r = none := get_none_of_gt a x r h1 hc
      unfold rem
      rw [List.filter_cons, if_neg (by rw [hx, ea_self]; decide)]
      exact (rem_none a r hr).symm
def seenT (l : List S33) (a : S28) : List S33 × Bool × Int × Int × ByteArray × Int × Int × Int × ByteArray × Bool × Int × Int × Bool × Int × Int × Bool × Int × Int × Bool × List S70 × Int × Bool := (rem a l, tup (get a l))
theorem seen_ev (l : List S33) (hl : l.length ≤ 733007751) (hs : Srt l) (a : S28) : Ev (fun k => probe_Seen.f k l a.f0 a.f1 a.f2) (seenT l a) := by
  unfold probe_Seen.f
  refine Ev.bind (place_ev l (by omega) hs a) ?_
  rcases get_at l hs a with ⟨_, hg⟩ | ⟨hp, hg, he⟩
  · unfold seenT
    rw [hg, rem_none a l hg]
    refine Ev_const ?_
    simp only [Option.isSome_none, Bool.false_eq_true, if_false]
    rw [slices_Clone_29.f, if_pos (by omega)]
    rfl
  · unfold seenT
    rw [hg]
    refine Ev_const ?_
    simp only [Option.isSome_some, if_true]
    rw [slices_Clone_29.f, if_pos (by omega), Option.bind_some, wnext (pos a l) (by omega), slices_Delete.f, if_pos (by omega), if_pos (by omega), if_pos (by omega), Option.bind_some, Int.toNat_natCast, Int.toNat_natCast, if_pos (by omega), if_pos (by omega), rdAt l _ hp, rem_pos a l hs hp he]
    rfl
theorem rseen_from (l : List S33) (hl : l.length ≤ 733007751) (a : S28) (o : Option S33) : ∀ (r : List S33) (i : Nat), l.drop i = r → Ev (fun k => ddiref40_Seen.l0 k (l.map cv) (tup o).2.2.2.2.2.2.2.2.2.2.2.2.2.2.2.2.2.2.2.2 ((rem a (l.take i)).map cv) (i : Int) a.f0 a.f1 a.f2 (tup o).1 (tup o).2.1 (tup o).2.2.1 (tup o).2.2.2.1 (tup o).2.2.2.2.1 (tup o).2.2.2.2.2.1 (tup o).2.2.2.2.2.2.1 (tup o).2.2.2.2.2.2.2.1 (tup o).2.2.2.2.2.2.2.2.1 (tup o).2.2.2.2.2.2.2.2.2.1 (tup o).2.2.2.2.2.2.2.2.2.2.1 (tup o).2.2.2.2.2.2.2.2.2.2.2.1 (tup o).2.2.2.2.2.2.2.2.2.2.2.2.1 (tup o).2.2.2.2.2.2.2.2.2.2.2.2.2.1 (tup o).2.2.2.2.2.2.2.2.2.2.2.2.2.2.1 (tup o).2.2.2.2.2.2.2.2.2.2.2.2.2.2.2.1 (tup o).2.2.2.2.2.2.2.2.2.2.2.2.2.2.2.2.1 (tup o).2.2.2.2.2.2.2.2.2.2.2.2.2.2.2.2.2.1 (tup o).2.2.2.2.2.2.2.2.2.2.2.2.2.2.2.2.2.2.1 (tup o).2.2.2.2.2.2.2.2.2.2.2.2.2.2.2.2.2.2.2.1) ((rem a l).map cv, tup o)
  | [], i, h => by
    have := drop_end h
    refine Ev_shift 1 (f := fun _ => some ((rem a l).map cv, tup o)) (fun k => ?_) (Ev_const rfl)
    rw [ddiref40_Seen.l0, if_neg (by rw [List.length_map]; omega), List.take_of_length_le (by omega)]
  | y :: r, i, h => by
    obtain ⟨hi, hx, hr⟩ := rd54 l i y r h
    have hlm : ((l.map cv).length : Int) = (l.length : Int) := by rw [List.length_map]
    have hi' : i < l.length := by rw [List.length_map] at hi; exact hi
    have hyi : l[i] = y := (drop_at h).2.1
    have ih := rseen_from l hl a o r (i + 1) hr
    have hlen : ((rem a (l.take i)).map cv).length < 733007751850 := by
      have := List.length_filter_le (fun x : S33 => !ea x.f0 a) (l.take i)
      rw [List.length_map]
      unfold rem
      rw [List.length_take] at this
      omega
    have hst : rem a (l.take (i + 1)) = if (!ea y.f0 a) = true then rem a (l.take i) ++ [y] else rem a (l.take i) := by
      rw [List.take_succ_eq_append_getElem hi', hyi]
      unfold rem
      rw [List.filter_append, List.filter_cons]
      split
      · rfl
      · simp
    have hne : (!((cv y).f0.f0 == a.f0) || (!((cv y).f0.f1 == a.f1) || (!((cv y).f0.f2 == a.f2)))) = !ea y.f0 a := by
      show (!(y.f0.f0 == a.f0) || (!(y.f0.f1 == a.f1) || (!(y.f0.f2 == a.f2)))) = _
      unfold ea
      cases y.f0.f0 == a.f0 <;> cases y.f0.f1 == a.f1 <;> cases y.f0.f2 == a.f2 <;> rfl
    rw [hst] at ih
    cases he : ea y.f0 a with
    | true =>
      rw [he] at hne ih
      refine Ev_shift 1 (fun k => ?_) ih
      rw [ddiref40_Seen.l0, hlm, if_pos (by omega), if_pos (by omega), hx, hne, next i l.length hi' (by omega)]
      rfl
    | false =>
      rw [he] at hne ih
      refine Ev_shift 1 (fun k => ?_) ih
      rw [ddiref40_Seen.l0, hlm, if_pos (by omega), if_pos (by omega), hx, hne, Bool.not_false, if_pos rfl, if_pos hlen, next i l.length hi' (by omega), if_pos rfl, List.map_append]
      rfl
theorem rseen_ev (l : List S33) (hl : l.length ≤ 733007751) (a : S28) : Ev (fun k => ddiref40_Seen.f k (l.map cv) a.f0 a.f1 a.f2) ((seenT l a).1.map cv, (seenT l a).2) := by
  unfold ddiref40_Seen.f seenT
  refine Ev.bind (rpend_ev l (by omega) a) ?_
  exact rseen_from l hl a (get a l) l 0 rfl
/-! ### Finish -/
def onB (t : Int) (x : S33) : Bool := decide (x.f3 > t)
def finT (l : List S33) (t : Int) : List S33 × List S33 := (l.filter (onB t), l.filter fun x => !onB t x)
theorem fin_len (l : List S33) (t : Int) (i : Nat) : ((l.take i).filter (onB t)).length ≤ l.length ∧ ((l.take i).filter fun x => !onB t x).length ≤ l.length := by
  have h1 := List.length_filter_le (onB t) (l.take i)
  have h2 := List.length_filter_le (fun x => !onB t x) (l.take i)
  rw [List.length_take] at h1 h2
  omega
theorem fin_from (l : List S33) (hl : l.length ≤ 733007751) (t : Int) : ∀ (r : List S33) (i : Nat), l.drop i = r → Ev (fun k => probe_Finish.l0 k t (finT (l.take i) t).1 (finT (l.take i) t).2 l (l.length : Int) (i : Int)) (finT l t)
  | [], i, h => by
    have := drop_end h
    refine Ev_shift 1 (f := fun _ => some (finT l t)) (fun k => ?_) (Ev_const rfl)
    rw [probe_Finish.l0, if_neg (by omega), List.take_of_length_le (by omega)]
  | y :: r, i, h => by
    obtain ⟨hi, hx, hr⟩ := rd33 l i y r h
    have hyi : l[i] = y := (drop_at h).2.1
    have ih := fin_from l hl t r (i + 1) hr
    have hlen := fin_len l t i
    rw [List.take_succ_eq_append_getElem hi, hyi] at ih
    unfold finT at ih ⊢
    simp only [List.filter_append, List.filter_cons, List.filter_nil] at ih
    refine Ev_shift 1 (fun k => ?_) ih
    rw [probe_Finish.l0, if_pos (by omega), if_pos (by omega), if_pos (by omega), hx, next i l.length hi (by omega)]
    by_cases hc : y.f3 > t
    · have hb : onB t y = true := decide_eq_true hc
      simp only [if_pos hc, if_pos (show (List.filter (onB t) (List.take i l)).length < 733007751850 by omega), hb, Bool.not_true, Bool.false_eq_true, if_true, if_false, List.append_nil]
    · have hb : onB t y = false := decide_eq_false hc
      simp only [if_neg hc, if_pos (show (List.filter (fun x => !onB t x) (List.take i l)).length < 733007751850 by omega), hb, Bool.not_false, Bool.false_eq_true, if_true, if_false, List.append_nil]
theorem fin_ev (l : List S33) (hl : l.length ≤ 733007751) (t : Int) : Ev (fun k => probe_Finish.f k l t) (finT l t) := by
  unfold probe_Finish.f
  exact fin_from l hl t l 0 rfl
theorem rfin_from (l : List S33) (hl : l.length ≤ 733007751) (t : Int) : ∀ (r : List S33) (i : Nat), l.drop i = r → Ev (fun k => ddiref40_Finish.l0 k (l.map cv) t ((finT (l.take i) t).1.map cv) ((finT (l.take i) t).2.map cv) (i : Int)) ((finT l t).1.map cv, (finT l t).2.map cv)
  | [], i, h => by
    have := drop_end h
    refine Ev_shift 1 (f := fun _ => some ((finT l t).1.map cv, (finT l t).2.map cv)) (fun k => ?_) (Ev_const rfl)
    rw [ddiref40_Finish.l0, if_neg (by rw [List.length_map]; omega), List.take_of_length_le (by omega)]
  | y :: r, i, h => by
    obtain ⟨hi, hx, hr⟩ := rd54 l i y r h
    have hlm : ((l.map cv).length : Int) = (l.length : Int) := by rw [List.length_map]
    have hi' : i < l.length := by rw [List.length_map] at hi; exact hi
    have hyi : l[i] = y := (drop_at h).2.1
    have ih := rfin_from l hl t r (i + 1) hr
    have hlen := fin_len l t i
    rw [List.take_succ_eq_append_getElem hi', hyi] at ih
    unfold finT at ih ⊢
    simp only [List.filter_append, List.filter_cons, List.filter_nil] at ih
    refine Ev_shift 1 (fun k => ?_) ih
    rw [ddiref40_Finish.l0, hlm, if_pos (by omega), if_pos (by omega), hx, next i l.length hi' (by omega), show (cv y).f3 = y.f3 from rfl]
    by_cases hc : y.f3 > t
    · have hb : onB t y = true := decide_eq_true hc
      simp only [if_pos hc, if_pos (show (List.map cv (List.filter (onB t) (List.take i l))).length < 733007751850 by rw [List.length_map]; omega), hb, Bool.not_true, Bool.false_eq_true, if_true, if_false, List.append_nil, List.map_append, List.map_cons, List.map_nil]
      rfl
    · have hb : onB t y = false := decide_eq_false hc
      simp only [if_neg hc, if_pos (show (List.map cv (List.filter (fun x => !onB t x) (List.take i l))).length < 733007751850 by rw [List.length_map]; omega), hb, Bool.not_false, Bool.false_eq_true, if_true, if_false, List.append_nil, List.map_append, List.map_cons, List.map_nil]
      rfl
theorem rfin_ev (l : List S33) (hl : l.length ≤ 733007751) (t : Int) : Ev (fun k => ddiref40_Finish.f k (l.map cv) t) ((finT l t).1.map cv, (finT l t).2.map cv) := by
  unfold ddiref40_Finish.f
  exact rfin_from l hl t l 0 rfl
end Go.Proofs.Ytioopjondjfchaa.Ma
