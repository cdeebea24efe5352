/- A subnet's check ends for every subnet, and says what its pools are; small ends. -/
import Derived.Test.YtpcjablkjaiapaaDoorQAd
import Derived.Test.YtpcjablkjaiapaaDoorQAd3
import Derived.Test.YtpcjablkjaiapaaDoorMg
namespace Go.Proofs.YtpcjablkjaiapaaDoor.Ma
open Go.RowKit Go.Proofs.YtpcjablkjaiapaaDoorW.PrintWords Go.Proofs.YtpcjablkjaiapaaDoorW.PrintLast Go.Proofs.YtpcjablkjaiapaaDoorW.PrintMore Go.Proofs.YtpcjablkjaiapaaDoor.XP Go.Proofs.YtpcjablkjaiapaaDoor.QA Go.Proofs.YtpcjablkjaiapaaDoor.Cm
set_option linter.unusedVariables false
set_option linter.unusedSimpArgs false
def Tot {α : Type} (g : Nat → Option α) : Prop := ∃ v, Ev g v
theorem tconst {α : Type} {x : Option α} {v : α} (h : x = some v) : Tot (fun _ => x) := ⟨v, Ev_const h⟩
theorem tbind {α β : Type} {g : Nat → Option α} {f : Nat → α → Option β} (h : Tot g) (k : ∀ a, Tot (fun n => f n a)) : Tot (fun n => (g n).bind (f n)) := by
  obtain ⟨v, hv⟩ := h
  obtain ⟨w, hw⟩ := k v
  exact ⟨w, Ev.bind hv hw⟩
theorem tshift {α : Type} {g f : Nat → Option α} (c : Nat) (h : ∀ k, g (k + c) = f k) (e : Tot f) : Tot g := by
  obtain ⟨v, hv⟩ := e
  exact ⟨v, Ev_shift c h hv⟩
def idx {α : Type} (p : α → Bool) : List α → Nat → Int
  | [], _ => -1
  | x :: r, i => if p x = true then (i : Int) else idx p r (i + 1)
theorem idx_any {α : Type} (p : α → Bool) : ∀ (l : List α) (i : Nat), decide (idx p l i ≥ 0) = l.any p
  | [], _ => rfl
  | x :: r, i => by
    unfold idx
    rw [List.any_cons]
    cases hp : p x with
    | true =>
      rw [if_pos rfl, Bool.true_or]
      exact decide_eq_true (by omega)
    | false =>
      rw [if_neg Bool.false_ne_true, Bool.false_or]
      exact idx_any p r (i + 1)
theorem rd57 (l : List S57) (i : Nat) (x : S57) (r : List S57) (h : l.drop i = x :: r) : i < l.length ∧ rd_T57 l (i : Int) = x ∧ l.drop (i + 1) = r := by
  obtain ⟨hi, hx, hr⟩ := drop_at h
  exact ⟨hi, by simp [rd_T57, List.getD_eq_getElem?_getD, List.getElem?_eq_getElem hi, hx], hr⟩
theorem rd53 (l : List S53) (i : Nat) (x : S53) (r : List S53) (h : l.drop i = x :: r) : i < l.length ∧ rd_T53 l (i : Int) = x ∧ l.drop (i + 1) = r := by
  obtain ⟨hi, hx, hr⟩ := drop_at h
  exact ⟨hi, by simp [rd_T53, List.getD_eq_getElem?_getD, List.getElem?_eq_getElem hi, hx], hr⟩
theorem rd83 (l : List S83) (i : Nat) (x : S83) (r : List S83) (h : l.drop i = x :: r) : i < l.length ∧ rd_T83 l (i : Int) = x ∧ l.drop (i + 1) = r := by
  obtain ⟨hi, hx, hr⟩ := drop_at h
  exact ⟨hi, by simp [rd_T83, List.getD_eq_getElem?_getD, List.getElem?_eq_getElem hi, hx], hr⟩
def pin (r : S57) (a : S25) : Bool := decide (cmp r.f0 a ≤ 0) && decide (cmp a r.f1 ≤ 0)
theorem pin_ev (r : S57) (a : S25) : Ev (fun k => pool_in.f k r.f0.f0 r.f0.f1 r.f0.f2 r.f1.f0 r.f1.f1 r.f1.f2 a.f0 a.f1 a.f2) (pin r a) := by
  unfold pool_in.f pin
  refine Ev.bind (ucmp r.f0 a) ?_
  split
  · rename_i h
    rw [decide_eq_true h, Bool.true_and]
    exact Ev.bind (ucmp a r.f1) (Ev_const rfl)
  · rename_i h
    rw [decide_eq_false h, Bool.false_and]
    exact Ev_const rfl
theorem later_v (b : Bool) (n : Int) : ∃ v, prefix_later.f b n = some v := by
  unfold prefix_later.f
  split
  · split
    · rw [if_pos (u64_nn _)]; exact ⟨_, rfl⟩
    · rw [if_pos (u64_nn _)]; exact ⟨_, rfl⟩
  · rw [if_pos (u64_nn _)]; exact ⟨_, rfl⟩
theorem valid_tot (a : S25) (n : Int) : Tot (fun k => prefix_Valid.f k a.f0 a.f1 a.f2 n) := by
  have hj : ∀ b : Bool, Tot (fun k => prefix_Valid.j0 k b a.f0 a.f1 a.f2 n) := by
    intro b
    refine tshift 1 (fun k => by rw [prefix_Valid.j0]) ?_
    split
    · exact tconst rfl
    · obtain ⟨v, hv⟩ := later_v a.f0 n
      simp only [hv, Option.bind_some]
      split
      · exact tconst rfl
      · exact tconst rfl
  unfold prefix_Valid.f
  simp only [ad_v, Option.bind_some]
  split
  · split
    · exact hj _
    · unfold prefix_length.f
      split
      · exact hj _
      · exact hj _
  · exact hj _
theorem bounds_tot (a : S25) (n : Int) : Tot (fun k => prefix_Bounds.f k a.f0 a.f1 a.f2 n) := by
  unfold prefix_Bounds.f
  refine tbind (valid_tot a n) (fun t => ?_)
  split
  · obtain ⟨v, hv⟩ := later_v a.f0 n
    simp only [hv, Option.bind_some]
    exact tconst rfl
  · exact tconst rfl
theorem of_ev (a : S25) (n : Int) : ∃ v, Ev (fun k => prefix_Of.f k a.f0 a.f1 a.f2 n) v ∧ (v.2.2.2.2 = true → adB a = true) := by
  have hj : ∀ b : Bool, Tot (fun k => prefix_Of.j0 k n b a.f0 a.f1 a.f2) := by
    intro b
    refine tshift 1 (fun k => by rw [prefix_Of.j0]) ?_
    split
    · exact tconst rfl
    · obtain ⟨v, hv⟩ := later_v a.f0 n
      simp only [hv, Option.bind_some]
      exact tconst rfl
  unfold prefix_Of.f
  simp only [ad_v, Option.bind_some]
  cases hd : adB a with
  | true =>
    have : Tot (fun k => if a.f0 = a.f0 then (if n < 0 then prefix_Of.j0 k n true a.f0 a.f1 a.f2 else (prefix_length.f a.f0 a.f1 a.f2).bind fun t543 => prefix_Of.j0 k n (decide (n > t543)) a.f0 a.f1 a.f2) else none) := by
      simp only [if_true]
      split
      · exact hj _
      · unfold prefix_length.f
        split
        · exact hj _
        · exact hj _
    obtain ⟨v, hv⟩ := this
    exact ⟨v, by simpa using hv, fun _ => rfl⟩
  | false =>
    simp only [Bool.false_eq_true, if_false]
    refine ⟨(false, 0, 0, 0, false), ?_, fun h => by cases h⟩
    exact Ev_shift 1 (f := fun _ => some (false, 0, 0, 0, false)) (fun k => by rw [prefix_Of.j0, if_pos rfl]) (Ev_const rfl)
theorem contains_ev (p a : S25) (n : Int) : ∃ b, Ev (fun k => prefix_Contains.f k p.f0 p.f1 p.f2 n a.f0 a.f1 a.f2) b ∧ (b = true → a.f0 = p.f0 ∧ adB a = true) := by
  have hf : Ev (fun k => prefix_Contains.j0 k true p.f0 p.f1 p.f2 n a.f0 a.f1 a.f2) false := Ev_shift 1 (f := fun _ => some false) (fun k => by rw [prefix_Contains.j0, if_pos rfl]) (Ev_const rfl)
  obtain ⟨t, ht⟩ := valid_tot p n
  unfold prefix_Contains.f
  cases t with
  | false => exact ⟨false, Ev.bind ht (by simpa using hf), fun h => by cases h⟩
  | true =>
    cases hb : (p.f0 != a.f0) with
    | true => exact ⟨false, Ev.bind ht (by simpa using hf), fun h => by cases h⟩
    | false =>
      obtain ⟨v, hv, hva⟩ := of_ev a n
      have hpa : a.f0 = p.f0 := by
        have : ¬ (p.f0 ≠ a.f0) := by simpa using hb
        exact (Decidable.not_not.1 this).symm
      cases hv5 : v.2.2.2.2 with
      | false =>
        refine ⟨false, Ev.bind ht ?_, fun h => by cases h⟩
        simp only [if_true]
        refine Ev_shift 1 (fun k => by rw [prefix_Contains.j0, if_neg Bool.false_ne_true]) (Ev.bind hv ?_)
        rw [hv5]
        exact Ev_const rfl
      | true =>
        refine ⟨((v.1 == p.f0 && (v.2.1 == p.f1 && (v.2.2.1 == p.f2))) && (v.2.2.2.1 == n)), Ev.bind ht ?_, fun _ => ⟨hpa, hva hv5⟩⟩
        simp only [if_true]
        refine Ev_shift 1 (fun k => by rw [prefix_Contains.j0, if_neg Bool.false_ne_true]) (Ev.bind hv ?_)
        rw [hv5]
        exact Ev_const rfl
theorem leased_ev (p a : S25) (n : Int) : ∃ b, Ev (fun k => pool_leased.f k p.f0 p.f1 p.f2 n a.f0 a.f1 a.f2) b ∧ (b = true → a.f0 = p.f0 ∧ adB a = true) := by
  obtain ⟨v, hv⟩ := bounds_tot p n
  obtain ⟨b, hb, hi⟩ := contains_ev p a n
  unfold pool_leased.f
  cases b with
  | false => exact ⟨false, Ev.bind hv (Ev.bind hb (Ev_const rfl)), fun h => by cases h⟩
  | true =>
    have : Tot (fun k : Nat => if (!(a.f0 == v.1) || (!(a.f1 == v.2.1) || (!(a.f2 == v.2.2.1)))) = true then (some (!(a.f0 == v.2.2.2.1) || (!(a.f1 == v.2.2.2.2.1) || (!(a.f2 == v.2.2.2.2.2.1))))) else (some false)) := by
      split
      · exact tconst rfl
      · exact tconst rfl
    obtain ⟨r, hr⟩ := this
    exact ⟨r, Ev.bind hv (Ev.bind hb hr), fun _ => hi rfl⟩
def ovB (x r : S57) : Bool := pin x r.f0 || pin r x.f0
theorem ov_ev (x r : S57) : Ev (fun k => pool_pools_1.f k x.f0.f0 x.f0.f1 x.f0.f2 x.f1.f0 x.f1.f1 x.f1.f2 r.f0.f0 r.f0.f1 r.f0.f2 r.f1.f0 r.f1.f1 r.f1.f2) (ovB x r) := by
  unfold pool_pools_1.f ovB
  refine Ev.bind (pin_ev x r.f0) ?_
  cases pin x r.f0 with
  | true => exact Ev_const rfl
  | false => exact Ev.bind (pin_ev r x.f0) (Ev_const rfl)
theorem ix66_from (l : List S57) (hl : l.length ≤ 140737488351232) (y : S57) : ∀ (r : List S57) (i : Nat), l.drop i = r → Ev (fun k => slices_IndexFunc_66.l0 k l (l.length : Int) (i : Int) y.f0.f0 y.f0.f1 y.f0.f2 y.f1.f0 y.f1.f1 y.f1.f2) (idx (fun x => ovB x y) r i)
  | [], i, h => by
    have := drop_end h
    exact Ev_shift 1 (f := fun _ => some (-1)) (fun k => by rw [slices_IndexFunc_66.l0, if_neg (by omega)]) (Ev_const rfl)
  | x :: r, i, h => by
    obtain ⟨hi, hx, hr⟩ := rd57 l i x r h
    have ih := ix66_from l hl y r (i + 1) hr
    refine Ev_shift 1 (fun k => by rw [slices_IndexFunc_66.l0, if_pos (by omega), if_pos (by omega), if_pos (by omega), hx, next i l.length hi (by omega)]) ?_
    refine Ev.bind (ov_ev x y) ?_
    unfold idx
    split
    · exact Ev_const rfl
    · exact ih
theorem cf66_ev (l : List S57) (hl : l.length ≤ 140737488351232) (y : S57) : Ev (fun k => slices_ContainsFunc_66.f k l y.f0.f0 y.f0.f1 y.f0.f2 y.f1.f0 y.f1.f1 y.f1.f2) (l.any (fun x => ovB x y)) := by
  unfold slices_ContainsFunc_66.f slices_IndexFunc_66.f
  rw [← idx_any (fun x => ovB x y) l 0]
  exact Ev.bind (ix66_from l hl y l 0 rfl) (Ev_const rfl)
/-- What a pool of a subnet that passes the check is. -/
def goodP (p : S25) (y : S57) : Prop := (y.f0.f0 = p.f0 ∧ adB y.f0 = true) ∧ (y.f1.f0 = p.f0 ∧ adB y.f1 = true) ∧ cmp y.f0 y.f1 ≤ 0
def PO (p : S25) : List S57 → List S57 → Prop
  | _, [] => True
  | pre, y :: r => goodP p y ∧ pre.any (fun x => ovB x y) = false ∧ PO p (pre ++ [y]) r
theorem pools_from (p : S25) (n : Int) (c : ByteArray) (l : List S57) (hl : l.length ≤ 140737488351232) (q : List S53) (o : List S83) (t : Int) : ∀ (r : List S57) (i : Nat), l.drop i = r → ∃ v, Ev (fun k => pool_pools.l0 k l (l.length : Int) (i : Int) p.f0 p.f1 p.f2 n c l q o t) v ∧ (v = 0 → PO p (l.take i) r)
  | [], i, h => by
    have := drop_end h
    exact ⟨0, Ev_shift 1 (f := fun _ => some 0) (fun k => by rw [pool_pools.l0, if_neg (by omega)]) (Ev_const rfl), fun _ => trivial⟩
  | y :: r, i, h => by
    obtain ⟨hi, hy, hr⟩ := rd57 l i y r h
    obtain ⟨v, hv, hp⟩ := pools_from p n c l hl q o t r (i + 1) hr
    have htk : l.take (i + 1) = l.take i ++ [y] := by
      obtain ⟨h1, h2, _⟩ := drop_at h
      rw [List.take_succ_eq_append_getElem h1, h2]
    rw [htk] at hp
    obtain ⟨b1, hb1, hi1⟩ := leased_ev p y.f0 n
    obtain ⟨b2, hb2, hi2⟩ := leased_ev p y.f1 n
    have h3 : Ev (fun k => pool_pools.j1 k (i : Int) l (l.length : Int) (i : Int) true p.f0 p.f1 p.f2 n c l q o t y.f0.f0 y.f0.f1 y.f0.f2 y.f1.f0 y.f1.f1 y.f1.f2) 3 := Ev_shift 1 (f := fun _ => some 3) (fun k => by rw [pool_pools.j1, if_pos rfl]) (Ev_const rfl)
    have hst : ∀ {w : Int}, Ev (fun k => (pool_leased.f k p.f0 p.f1 p.f2 n y.f0.f0 y.f0.f1 y.f0.f2).bind fun t575 => (if t575 = true then ((pool_leased.f k p.f0 p.f1 p.f2 n y.f1.f0 y.f1.f1 y.f1.f2).bind fun t576 => (if t576 = true then ((addr_Compare.f k y.f0.f0 y.f0.f1 y.f0.f2 y.f1.f0 y.f1.f1 y.f1.f2).bind fun t577 => (pool_pools.j1 k (i : Int) l (l.length : Int) (i : Int) (decide (t577 > 0)) p.f0 p.f1 p.f2 n c l q o t y.f0.f0 y.f0.f1 y.f0.f2 y.f1.f0 y.f1.f1 y.f1.f2)) else (pool_pools.j1 k (i : Int) l (l.length : Int) (i : Int) true p.f0 p.f1 p.f2 n c l q o t y.f0.f0 y.f0.f1 y.f0.f2 y.f1.f0 y.f1.f1 y.f1.f2))) else (pool_pools.j1 k (i : Int) l (l.length : Int) (i : Int) true p.f0 p.f1 p.f2 n c l q o t y.f0.f0 y.f0.f1 y.f0.f2 y.f1.f0 y.f1.f1 y.f1.f2))) w → Ev (fun k => pool_pools.l0 k l (l.length : Int) (i : Int) p.f0 p.f1 p.f2 n c l q o t) w := by
      intro w hw
      exact Ev_shift 1 (fun k => by rw [pool_pools.l0, if_pos (by omega), if_pos (by omega), if_pos (by omega), hy]) hw
    cases b1 with
    | false => exact ⟨3, hst (Ev.bind hb1 (by simpa using h3)), fun h => by cases h⟩
    | true =>
      cases b2 with
      | false => exact ⟨3, hst (Ev.bind hb1 (by simp only [if_true]; exact Ev.bind hb2 (by simpa using h3))), fun h => by cases h⟩
      | true =>
        by_cases hc : cmp y.f0 y.f1 > 0
        · refine ⟨3, hst (Ev.bind hb1 ?_), fun h => by cases h⟩
          simp only [if_true]
          refine Ev.bind hb2 ?_
          simp only [if_true]
          refine Ev.bind (ucmp y.f0 y.f1) ?_
          rw [decide_eq_true hc]
          exact h3
        · have hgo : ∀ {w : Int}, Ev (fun k => pool_pools.j1 k (i : Int) l (l.length : Int) (i : Int) false p.f0 p.f1 p.f2 n c l q o t y.f0.f0 y.f0.f1 y.f0.f2 y.f1.f0 y.f1.f1 y.f1.f2) w → Ev (fun k => pool_pools.l0 k l (l.length : Int) (i : Int) p.f0 p.f1 p.f2 n c l q o t) w := by
            intro w hw
            refine hst (Ev.bind hb1 ?_)
            simp only [if_true]
            refine Ev.bind hb2 ?_
            simp only [if_true]
            refine Ev.bind (ucmp y.f0 y.f1) ?_
            rw [decide_eq_false hc]
            exact hw
          have hcf := cf66_ev (l.take i) (by rw [List.length_take]; omega) y
          cases ho : (l.take i).any (fun x => ovB x y) with
          | true =>
            rw [ho] at hcf
            refine ⟨24, hgo ?_, fun h => by cases h⟩
            refine Ev_shift 1 (fun k => by rw [pool_pools.j1, if_neg Bool.false_ne_true, if_pos (by omega), if_pos (by omega), Int.toNat_natCast]) ?_
            exact Ev.bind hcf (Ev_const rfl)
          | false =>
            rw [ho] at hcf
            refine ⟨v, hgo ?_, fun h => ⟨⟨hi1 rfl, hi2 rfl, by omega⟩, ho, hp h⟩⟩
            refine Ev_shift 1 (fun k => by rw [pool_pools.j1, if_neg Bool.false_ne_true, if_pos (by omega), if_pos (by omega), Int.toNat_natCast, next i l.length hi (by omega)]) ?_
            exact Ev.bind hcf (by simpa using hv)
end Go.Proofs.YtpcjablkjaiapaaDoor.Ma
