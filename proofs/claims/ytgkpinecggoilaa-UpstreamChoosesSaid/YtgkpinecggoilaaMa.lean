/- What the program and the reference of chapter 32 compute over lists of peers: looking up, replacing, taking out, putting in. -/
import Derived.Test.YtgkpinecggoilaaQAd1
import Derived.Test.YtgkpinecggoilaaXP
import Derived.Test.YtgkpinecggoilaaCadr
namespace Go.Proofs.Ytgkpinecggoilaa.Ma
open Go.RowKit Go.Proofs.YtgkpinecggoilaaW.PrintWords Go.Proofs.YtgkpinecggoilaaW.PrintLast Go.Proofs.YtgkpinecggoilaaW.PrintMore Go.Proofs.Ytgkpinecggoilaa.XP Go.Proofs.Ytgkpinecggoilaa.Cm Go.Proofs.Ytgkpinecggoilaa.QA
set_option linter.unusedVariables false
set_option linter.unusedSimpArgs false
/-- A peer of the reference, as the program has it. -/
def c2 (p : S34) : S35 := ⟨p.f0, p.f1, p.f2, p.f3⟩
def tup (p : S34) : Bool × Int × Int × Int × Int × Int := (p.f0.f0, p.f0.f1, p.f0.f2, p.f1, p.f2, p.f3)
def qa (a : S25) (p : S34) : Bool := p.f0.f0 == a.f0 && (p.f0.f1 == a.f1 && (p.f0.f2 == a.f2))
theorem rd34 (l : List S34) (i : Nat) (h : i < l.length) : rd_T34 l (i : Int) = l[i] := by
  simp [rd_T34, List.getD_eq_getElem?_getD, List.getElem?_eq_getElem h]
theorem rd35 (l : List S34) (i : Nat) (h : i < l.length) : rd_T35 (l.map c2) (i : Int) = c2 l[i] := by
  simp [rd_T35, List.getD_eq_getElem?_getD, List.getElem?_eq_getElem h]
/-- The first place where q holds, counted from i. -/
def fi {α : Type} (q : α → Bool) : List α → Nat → Option Nat
  | [], _ => none
  | x :: r, i => if q x = true then some i else fi q r (i + 1)
def toI : Option Nat → Int
  | some i => i
  | none => -1
theorem fi_shift {α : Type} (q : α → Bool) : ∀ (l : List α) (i : Nat), fi q l i = (fi q l 0).map (· + i)
  | [], _ => rfl
  | x :: r, i => by
    by_cases h : q x = true
    · simp [fi, h]
    · simp only [fi, h, if_false, Bool.false_eq_true]
      rw [fi_shift q r (i + 1), fi_shift q r (0 + 1), Option.map_map]
      congr 1
      funext z
      simp only [Function.comp]
      omega
theorem fi_some {α : Type} (q : α → Bool) : ∀ (l : List α) (i j : Nat), fi q l i = some j → i ≤ j ∧ ∃ h : j - i < l.length, l.find? q = some l[j - i]
  | [], _, _, h => by cases h
  | x :: r, i, j, h => by
    by_cases hq : q x = true
    · simp only [fi, hq, if_true, Option.some.injEq] at h
      subst h
      exact ⟨Nat.le_refl _, by simp, by simp [hq]⟩
    · simp only [fi, hq, if_false, Bool.false_eq_true] at h
      obtain ⟨h1, h2, h3⟩ := fi_some q r (i + 1) j h
      refine ⟨by omega, by simp; omega, ?_⟩
      have e : j - i = (j - (i + 1)) + 1 := by omega
      simp [hq, h3, e]
theorem fi_none {α : Type} (q : α → Bool) : ∀ (l : List α) (i : Nat), fi q l i = none → l.find? q = none
  | [], _, _ => rfl
  | x :: r, i, h => by
    by_cases hq : q x = true
    · simp [fi, hq] at h
    · simp only [fi, hq, if_false, Bool.false_eq_true] at h
      simp [hq, fi_none q r (i + 1) h]
/-! ### What the law does itself -/
theorem back_from (l : List S34) (hl : l.length < 2932031007402) : ∀ (r : List S34) (i : Nat), l.drop i = r → Ev (fun k => ddilaw32_back.l0 k ((l.take i).map c2) l (l.length : Int) (i : Int)) (l.map c2)
  | [], i, h => by
    have := drop_end h
    refine Ev_shift 1 (f := fun _ => some (l.map c2)) (fun k => ?_) (Ev_const rfl)
    rw [ddilaw32_back.l0, if_neg (by omega), List.take_of_length_le this]
  | x :: r, i, h => by
    obtain ⟨hi, hx, hr⟩ := drop_at h
    refine Ev_shift 1 (f := fun k => ddilaw32_back.l0 k ((l.take (i + 1)).map c2) l (l.length : Int) ((i + 1 : Nat) : Int)) (fun k => ?_) (back_from l hl r (i + 1) hr)
    rw [ddilaw32_back.l0, if_pos (by omega), if_pos (by omega), if_pos (by omega), if_pos (by rw [List.length_map, List.length_take]; omega), rd34 l i hi, next i l.length hi (by omega), List.take_succ_eq_append_getElem hi, List.map_append]
    rfl
theorem back_ev (l : List S34) (hl : l.length < 2932031007402) : Ev (fun k => ddilaw32_back.f k l) (l.map c2) := back_from l hl l 0 rfl
theorem same_from (l : List S34) (hl : l.length < 2932031007402) : ∀ (r : List S34) (i : Nat), l.drop i = r → Ev (fun k => ddilaw32_same.l0 k (l.map c2) l (l.length : Int) (i : Int)) true
  | [], i, h => by
    have := drop_end h
    refine Ev_shift 1 (f := fun _ => some true) (fun k => ?_) (Ev_const rfl)
    rw [ddilaw32_same.l0, if_neg (by omega)]
  | x :: r, i, h => by
    obtain ⟨hi, hx, hr⟩ := drop_at h
    refine Ev_shift 1 (f := fun k => ddilaw32_same.l0 k (l.map c2) l (l.length : Int) ((i + 1 : Nat) : Int)) (fun k => ?_) (same_from l hl r (i + 1) hr)
    rw [ddilaw32_same.l0, if_pos (by omega), if_pos (by omega), if_pos (by rw [List.length_map]; omega), if_pos (by omega), rd34 l i hi, rd35 l i hi, if_neg (by simp [c2]), next i l.length hi (by omega)]
theorem same_ev (l : List S34) (hl : l.length < 2932031007402) : Ev (fun k => ddilaw32_same.f k (l.map c2) l) true := by
  have := same_from l hl l 0 rfl
  unfold ddilaw32_same.f
  simp only [List.length_map, if_true]
  exact this
/-! ### Looking up -/
theorem index_from (l : List S34) (hl : l.length < 2932031007402) (a : S25) : ∀ (r : List S34) (i : Nat), l.drop i = r → Ev (fun k => slices_IndexFunc_37.l0 k (l.map c2) (l.length : Int) (i : Int) a.f0 a.f1 a.f2) (toI (fi (qa a) r i))
  | [], i, h => by
    have := drop_end h
    refine Ev_shift 1 (f := fun _ => some (-1)) (fun k => ?_) (Ev_const rfl)
    rw [slices_IndexFunc_37.l0, if_neg (by omega)]
  | x :: r, i, h => by
    obtain ⟨hi, hx, hr⟩ := drop_at h
    by_cases hq : qa a x = true
    · refine Ev_shift 1 (f := fun _ => some (i : Int)) (fun k => ?_) (Ev_const (by simp [fi, hq, toI]))
      rw [slices_IndexFunc_37.l0, if_pos (by omega), if_pos (by omega), if_pos (by rw [List.length_map]; omega), rd35 l i hi, hx, upstream_index_1.f]
      exact if_pos hq
    · refine Ev_shift 1 (f := fun k => slices_IndexFunc_37.l0 k (l.map c2) (l.length : Int) ((i + 1 : Nat) : Int) a.f0 a.f1 a.f2) (fun k => ?_) (by simp only [fi, hq, if_false, Bool.false_eq_true]; exact index_from l hl a r (i + 1) hr)
      rw [slices_IndexFunc_37.l0, if_pos (by omega), if_pos (by omega), if_pos (by rw [List.length_map]; omega), rd35 l i hi, hx, upstream_index_1.f, ← next i l.length hi (by omega)]
      exact if_neg hq
theorem index_ev (l : List S34) (hl : l.length < 2932031007402) (a : S25) : Ev (fun k => upstream_index.f k (l.map c2) a.f0 a.f1 a.f2) (toI (fi (qa a) l 0)) := by
  unfold upstream_index.f slices_IndexFunc_37.f
  rw [List.length_map]
  exact Ev.bind (index_from l hl a l 0 rfl) (Ev_const rfl)
theorem known_from (l : List S34) (hl : l.length < 2932031007402) (a : S25) : ∀ (r : List S34) (i : Nat), l.drop i = r → Ev (fun k => ddiref32_known.l0 k l (i : Int) a.f0 a.f1 a.f2) (fi (qa a) r i).isSome
  | [], i, h => by
    have := drop_end h
    refine Ev_shift 1 (f := fun _ => some false) (fun k => ?_) (Ev_const rfl)
    rw [ddiref32_known.l0, if_neg (by omega)]
  | x :: r, i, h => by
    obtain ⟨hi, hx, hr⟩ := drop_at h
    by_cases hq : qa a x = true
    · refine Ev_shift 1 (f := fun _ => some true) (fun k => ?_) (Ev_const (by simp [fi, hq]))
      rw [ddiref32_known.l0, if_pos (by omega), if_pos (by omega), rd34 l i hi, hx]
      exact if_pos hq
    · refine Ev_shift 1 (f := fun k => ddiref32_known.l0 k l ((i + 1 : Nat) : Int) a.f0 a.f1 a.f2) (fun k => ?_) (by simp only [fi, hq, if_false, Bool.false_eq_true]; exact known_from l hl a r (i + 1) hr)
      rw [ddiref32_known.l0, if_pos (by omega), if_pos (by omega), rd34 l i hi, hx, ← next i l.length hi (by omega)]
      exact if_neg hq
theorem known_ev (l : List S34) (hl : l.length < 2932031007402) (a : S25) : Ev (fun k => ddiref32_known.f k l a.f0 a.f1 a.f2) (fi (qa a) l 0).isSome := known_from l hl a l 0 rfl
/-- What is known of an address. -/
def found (l : List S34) (a : S25) : S34 := (l.find? (qa a)).getD ⟨a, 2, 0, 0⟩
theorem rfind_from (l : List S34) (hl : l.length < 2932031007402) (a : S25) : ∀ (r : List S34) (i : Nat), l.drop i = r → Ev (fun k => ddiref32_Find.l0 k l (i : Int) a.f0 a.f1 a.f2) (tup (found r a))
  | [], i, h => by
    have := drop_end h
    refine Ev_shift 1 (f := fun _ => some (a.f0, a.f1, a.f2, 2, 0, 0)) (fun k => ?_) (Ev_const rfl)
    rw [ddiref32_Find.l0, if_neg (by omega)]
  | x :: r, i, h => by
    obtain ⟨hi, hx, hr⟩ := drop_at h
    by_cases hq : qa a x = true
    · refine Ev_shift 1 (f := fun _ => some (tup x)) (fun k => ?_) (Ev_const (by simp [found, hq]))
      rw [ddiref32_Find.l0, if_pos (by omega), if_pos (by omega), rd34 l i hi, hx]
      exact if_pos hq
    · refine Ev_shift 1 (f := fun k => ddiref32_Find.l0 k l ((i + 1 : Nat) : Int) a.f0 a.f1 a.f2) (fun k => ?_) (by
        have e : found (x :: r) a = found r a := by simp [found, hq]
        rw [e]
        exact rfind_from l hl a r (i + 1) hr)
      rw [ddiref32_Find.l0, if_pos (by omega), if_pos (by omega), rd34 l i hi, hx, ← next i l.length hi (by omega)]
      exact if_neg hq
theorem rfind_ev (l : List S34) (hl : l.length < 2932031007402) (a : S25) : Ev (fun k => ddiref32_Find.f k l a.f0 a.f1 a.f2) (tup (found l a)) := rfind_from l hl a l 0 rfl
theorem ufind_ev (l : List S34) (hl : l.length < 2932031007402) (a : S25) : Ev (fun k => upstream_Find.f k (l.map c2) a.f0 a.f1 a.f2) (tup (found l a)) := by
  unfold upstream_Find.f
  refine Ev.bind (index_ev l hl a) ?_
  cases h : fi (qa a) l 0 with
  | none =>
    rw [toI, if_neg (by omega)]
    refine Ev_const ?_
    rw [found, fi_none _ _ _ h]
    rfl
  | some i =>
    obtain ⟨_, h2, h3⟩ := fi_some _ _ _ _ h
    have hi : i < l.length := by simpa using h2
    simp only [toI, if_pos (show (i : Int) ≥ 0 by omega), if_pos (show (i : Int) < ((l.map c2).length : Int) by rw [List.length_map]; omega), rd35 l i hi]
    refine Ev_const ?_
    rw [found, h3]
    rfl
end Go.Proofs.Ytgkpinecggoilaa.Ma
