/- What a peer may lease: states, reservations, shares; FailoverServes. -/
import Derived.Test.YtpcjablkjaiapaaDoorQAd
import Derived.Test.YtpcjablkjaiapaaDoorQAd3
import Derived.Test.YtpcjablkjaiapaaDoorMj
namespace Go.Proofs.YtpcjablkjaiapaaDoor.Ma
open Go.RowKit Go.Proofs.YtpcjablkjaiapaaDoorW.PrintWords Go.Proofs.YtpcjablkjaiapaaDoorW.PrintLast Go.Proofs.YtpcjablkjaiapaaDoorW.PrintMore Go.Proofs.YtpcjablkjaiapaaDoor.XP Go.Proofs.YtpcjablkjaiapaaDoor.QA Go.Proofs.YtpcjablkjaiapaaDoor.Cm
set_option linter.unusedVariables false
set_option linter.unusedSimpArgs false
theorem rdI (l : List Int) (i : Nat) (x : Int) (r : List Int) (h : l.drop i = x :: r) : i < l.length ∧ rd l (i : Int) = x ∧ l.drop (i + 1) = r := by
  obtain ⟨hi, hx, hr⟩ := drop_at h
  exact ⟨hi, by simp [rd, List.getD_eq_getElem?_getD, List.getElem?_eq_getElem hi, hx], hr⟩
theorem index_from (l : List Int) (hl : l.length ≤ 140737488351232) (v : Int) : ∀ (r : List Int) (i : Nat), l.drop i = r → Ev (fun k => slices_Index.l0 k l v (l.length : Int) (i : Int)) (idx (fun x => decide (v = x)) r i)
  | [], i, h => by
    have := drop_end h
    exact Ev_shift 1 (f := fun _ => some (-1)) (fun k => by rw [slices_Index.l0, if_neg (by omega)]) (Ev_const rfl)
  | x :: r, i, h => by
    obtain ⟨hi, hx, hr⟩ := rdI l i x r h
    have ih := index_from l hl v r (i + 1) hr
    refine Ev_shift 1 (fun k => by rw [slices_Index.l0, if_pos (by omega), if_pos (by omega), if_pos (by omega), hx, next i l.length hi (by omega)]) ?_
    unfold idx
    by_cases hv : v = x
    · rw [if_pos (decide_eq_true hv)]
      simp only [if_pos hv]
      exact Ev_const rfl
    · rw [if_neg (by rw [decide_eq_false hv]; exact Bool.false_ne_true)]
      simp only [if_neg hv]
      exact ih
theorem is_ev (b : Bool) (n u m : Int) (l : List Int) (hl : l.length ≤ 140737488351232) : Ev (fun k => failover_is.f k b n u m l) (l.any (fun x => decide (stN n = x))) := by
  unfold failover_is.f
  refine Ev.bind (state_ev b n u m) ?_
  have : Ev (fun k => slices_Contains.f k l (stN n)) (l.any (fun x => decide (stN n = x))) := by
    unfold slices_Contains.f slices_Index.f
    rw [← idx_any (fun x => decide (stN n = x)) l 0]
    exact Ev.bind (index_from l hl (stN n) l 0 rfl) (Ev_const rfl)
  exact Ev.bind this (Ev_const rfl)
def atB (q : List S53) (a : S25) : Bool := q.any (fun y => ea y.f1 a)
theorem at_from (q : List S53) (hq : q.length ≤ 140737488351232) (a : S25) : ∀ (r : List S53) (i : Nat), q.drop i = r → ∃ v, Ev (fun k => pool_At.l0 k q (q.length : Int) (i : Int) a.f0 a.f1 a.f2) v ∧ v.2.2.2.2.2 = atB r a
  | [], i, h => by
    have := drop_end h
    exact ⟨(⟨#[]⟩, false, 0, 0, ⟨#[]⟩, false), Ev_shift 1 (f := fun _ => some (⟨#[]⟩, false, 0, 0, ⟨#[]⟩, false)) (fun k => by rw [pool_At.l0, if_neg (by omega)]) (Ev_const rfl), rfl⟩
  | y :: r, i, h => by
    obtain ⟨hi, hy, hr⟩ := rd53 q i y r h
    obtain ⟨v, hv, hvb⟩ := at_from q hq a r (i + 1) hr
    unfold atB
    rw [List.any_cons]
    cases he : ea y.f1 a with
    | true =>
      have he' := he
      unfold ea at he'
      exact ⟨(y.f0, y.f1.f0, y.f1.f1, y.f1.f2, y.f2, true), Ev_shift 1 (f := fun _ => some (y.f0, y.f1.f0, y.f1.f1, y.f1.f2, y.f2, true)) (fun k => by rw [pool_At.l0, if_pos (by omega), if_pos (by omega), if_pos (by omega), hy, if_pos he']) (Ev_const rfl), rfl⟩
    | false =>
      have he' := he
      unfold ea at he'
      exact ⟨v, Ev_shift 1 (fun k => by rw [pool_At.l0, if_pos (by omega), if_pos (by omega), if_pos (by omega), hy, if_neg (by rw [he']; exact Bool.false_ne_true), next i q.length hi (by omega)]) hv, by rw [hvb]; rfl⟩
theorem at_ev (p0 : Bool) (p1 p2 n : Int) (c : ByteArray) (l : List S57) (q : List S53) (hq : q.length ≤ 140737488351232) (o : List S83) (t : Int) (a : S25) : ∃ v, Ev (fun k => pool_At.f k p0 p1 p2 n c l q o t a.f0 a.f1 a.f2) v ∧ v.2.2.2.2.2 = atB q a := by
  unfold pool_At.f
  exact at_from q hq a q 0 rfl
theorem ix80_from (l : List S57) (hl : l.length ≤ 140737488351232) (a : S25) : ∀ (r : List S57) (i : Nat), l.drop i = r → Ev (fun k => slices_IndexFunc_80.l0 k l (l.length : Int) (i : Int) a.f0 a.f1 a.f2) (idx (fun x => pin x a) r i)
  | [], i, h => by
    have := drop_end h
    exact Ev_shift 1 (f := fun _ => some (-1)) (fun k => by rw [slices_IndexFunc_80.l0, if_neg (by omega)]) (Ev_const rfl)
  | x :: r, i, h => by
    obtain ⟨hi, hx, hr⟩ := rd57 l i x r h
    have ih := ix80_from l hl a r (i + 1) hr
    refine Ev_shift 1 (fun k => by rw [slices_IndexFunc_80.l0, if_pos (by omega), if_pos (by omega), if_pos (by omega), hx, next i l.length hi (by omega)]) ?_
    have : Ev (fun k => pool_Has_1.f k x.f0.f0 x.f0.f1 x.f0.f2 x.f1.f0 x.f1.f1 x.f1.f2 a.f0 a.f1 a.f2) (pin x a) := by
      unfold pool_Has_1.f
      exact Ev.bind (pin_ev x a) (Ev_const rfl)
    refine Ev.bind this ?_
    unfold idx
    split
    · exact Ev_const rfl
    · exact ih
def inL (l : List S57) (a : S25) : Bool := l.any (fun x => pin x a)
theorem has_ev (p0 : Bool) (p1 p2 n : Int) (c : ByteArray) (l : List S57) (hl : l.length ≤ 140737488351232) (q : List S53) (hq : q.length ≤ 140737488351232) (o : List S83) (t : Int) (a : S25) : Ev (fun k => pool_Has.f k p0 p1 p2 n c l q o t a.f0 a.f1 a.f2) (!atB q a && inL l a) := by
  unfold pool_Has.f
  obtain ⟨v, hv, hb⟩ := at_ev p0 p1 p2 n c l q hq o t a
  refine Ev.bind hv ?_
  rw [hb]
  cases atB q a with
  | true => exact Ev_const rfl
  | false =>
    have : Ev (fun k => slices_ContainsFunc_80.f k l a.f0 a.f1 a.f2) (inL l a) := by
      unfold slices_ContainsFunc_80.f slices_IndexFunc_80.f inL
      rw [← idx_any (fun x => pin x a) l 0]
      exact Ev.bind (ix80_from l hl a l 0 rfl) (Ev_const rfl)
    exact Ev.bind this (Ev_const rfl)
def start (n : Int) : Bool := [0, 4].any (fun x => decide (stN n = x))
/-- What a subnet with some pools and reservations lets a peer lease. -/
theorem mayl_ev (p0 : Bool) (p1 p2 n : Int) (c : ByteArray) (l : List S57) (hl : l.length ≤ 140737488351232) (q : List S53) (hq : q.length ≤ 140737488351232) (o : List S83) (t : Int) (a : S25) : Ev (fun k => (pool_At.f k p0 p1 p2 n c l q o t a.f0 a.f1 a.f2).bind fun bt459 => (if bt459.2.2.2.2.2 = true then (some true) else ((pool_Has.f k p0 p1 p2 n c l q o t a.f0 a.f1 a.f2).bind fun t466 => (some t466)))) (atB q a || inL l a) := by
  obtain ⟨v, hv, hb⟩ := at_ev p0 p1 p2 n c l q hq o t a
  refine Ev.bind hv ?_
  rw [hb]
  have hh := has_ev p0 p1 p2 n c l hl q hq o t a
  cases hq : atB q a with
  | true => exact Ev_const rfl
  | false =>
    rw [hq] at hh
    exact Ev.bind hh (Ev_const (by simp))
theorem clone76 (o : List S83) (ho : o.length * 24 ≤ 140737488351232) : slices_Clone_76.f o = some o := by
  unfold slices_Clone_76.f
  rw [if_pos (by omega)]
theorem leases_start (b : Bool) (m u w : Int) (hs : start m = true) (p0 : Bool) (p1 p2 n : Int) (c : ByteArray) (l : List S57) (q : List S53) (o : List S83) (ho : o.length * 24 ≤ 140737488351232) (t : Int) (a : S25) (now : Int) : Ev (fun k => failover_Leases.f k b m u w p0 p1 p2 n c l q o t a.f0 a.f1 a.f2 now) false := by
  unfold failover_Leases.f
  have : Ev (fun k => failover_Share.f k b m u w p0 p1 p2 n c l q o t now) (p0, p1, p2, n, c, [], [], o, t) := by
    unfold failover_Share.f
    rw [clone76 o ho]
    simp only [Option.bind_some]
    have hi := is_ev b m u w [0, 4] (by simp)
    have hs' : [(0 : Int), 4].any (fun x => decide (stN m = x)) = true := hs
    rw [hs'] at hi
    exact Ev.bind hi (Ev_const rfl)
  refine Ev.bind this ?_
  exact mayl_ev p0 p1 p2 n c [] (by simp) [] (by simp) o t a
theorem wake_ev : Ev (fun k => ddilaw44_awake.f k) true := ⟨60, fun k hk => at_rounds ddilaw44_awake.mono hk (by decide +kernel)⟩
theorem failoverServes : ddilaw44_FailoverServes.Pure := by
  intro pb pn pu pm qb qn qu qm a0 a1 a2 n c l r o t cl b0 b1 b2 now _ _ hs hx
  obtain ⟨_, _, ⟨hl, _, _⟩, ⟨hr, _, hrok⟩, ⟨ho, _, _⟩, _⟩ := hs
  have hc : cl.size ≤ 140737488351232 := hx.1
  refine Ev.rounds (?_ : Ev (fun k => ddilaw44_FailoverServes.f k pb pn pu pm qb qn qu qm a0 a1 a2 n c l r o t cl b0 b1 b2 now) true)
  unfold ddilaw44_FailoverServes.f
  refine Ev.bind wake_ev ?_
  simp only [if_true]
  have hj1 : ∀ m : Int, start m = true → srvB false m cl = false → Ev (fun k => ddilaw44_FailoverServes.j1 k false m qu qm a0 a1 a2 n c l r o t cl b0 b1 b2 now) true := by
    intro m hm hv
    refine Ev_shift 1 (fun k => by rw [ddilaw44_FailoverServes.j1]) ?_
    refine Ev.bind (serves_ev false m qu qm cl hc now) ?_
    rw [hv]
    simp only [Bool.false_eq_true, if_false]
    obtain ⟨v, hv, _⟩ := pcheck_ev ⟨a0, a1, a2⟩ n c l (by simp only [] at hl; omega) r (by simp only [] at hr; omega) hrok o (by simp only [] at ho; omega) t
    refine Ev.bind hv ?_
    split
    · exact Ev.bind (leases_start false m qu qm hm a0 a1 a2 n c l r o ho t ⟨b0, b1, b2⟩ now) (Ev_const rfl)
    · exact Ev_const rfl
  have hj0 : ∀ b : Bool, Ev (fun k => ddilaw44_FailoverServes.j0 k b pb pn pu pm qb qn qu qm a0 a1 a2 n c l r o t cl b0 b1 b2 now) true := by
    intro b
    cases b with
    | true => exact Ev_shift 1 (f := fun _ => some true) (fun k => by rw [ddilaw44_FailoverServes.j0, if_pos rfl]) (Ev_const rfl)
    | false =>
      refine Ev_shift 1 (fun k => by rw [ddilaw44_FailoverServes.j0, if_neg Bool.false_ne_true]) ?_
      refine Ev.bind (serves_ev true 1 pu pm cl hc now) ?_
      refine Ev.bind (serves_ev false 1 qu qm cl hc now) ?_
      have hne : (srvB true 1 cl == srvB false 1 cl) = false := by
        unfold srvB
        rw [if_pos rfl, if_pos rfl]
        cases (Int.tmod (sumV cl) 2 == 0) <;> rfl
      rw [hne]
      simp only [Bool.false_eq_true, if_false]
      split
      · exact hj1 0 (by decide) rfl
      · exact hj1 4 (by decide) rfl
  split
  · exact hj0 true
  · obtain ⟨v, hv⟩ := small_tot ⟨a0, a1, a2⟩ n c l r (by simp only [] at hr; omega) o (by simp only [] at ho; omega) t
    exact Ev.bind hv (hj0 _)
end Go.Proofs.YtpcjablkjaiapaaDoor.Ma
