/- A peer put into a list: the program and the reference do the same (chapter 32). -/
import Derived.Test.YtgkpinecggoilaaMa
import Derived.Test.YtgkpinecggoilaaCadr
namespace Go.Proofs.Ytgkpinecggoilaa.Ma
open Go.RowKit Go.Proofs.YtgkpinecggoilaaW.PrintWords Go.Proofs.YtgkpinecggoilaaW.PrintLast Go.Proofs.YtgkpinecggoilaaW.PrintMore Go.Proofs.Ytgkpinecggoilaa.XP Go.Proofs.Ytgkpinecggoilaa.Cm Go.Proofs.Ytgkpinecggoilaa.QA
set_option linter.unusedVariables false
set_option linter.unusedSimpArgs false
/-- The first one where q holds, replaced. -/
def rep (q : S34 → Bool) (p : S34) : List S34 → List S34
  | [] => []
  | x :: r => if q x = true then p :: r else x :: rep q p r
/-- Put in ahead of the first one where q holds. -/
def ins (q : S34 → Bool) (p : S34) : List S34 → List S34
  | [] => [p]
  | x :: r => if q x = true then p :: x :: r else x :: ins q p r
/-- The place of the first one with the least Until, b being the best till i. -/
def am (l : List S34) : List S34 → Nat → Nat → Nat
  | [], _, b => b
  | x :: r, i, b => am l r (i + 1) (if x.f3 < (l.getD b z34).f3 then i else b)
/-- Without the one at place g, counted from i. -/
def sk (g : Int) : List S34 → Nat → List S34
  | [], _ => []
  | x :: r, i => if (i : Int) = g then sk g r (i + 1) else x :: sk g r (i + 1)
theorem rep_set (q : S34 → Bool) (p : S34) : ∀ (l : List S34) (j : Nat), fi q l 0 = some j → l.set j p = rep q p l
  | [], _, h => by cases h
  | x :: r, j, h => by
    by_cases hq : q x = true
    · simp only [fi, hq, if_true, Option.some.injEq] at h
      subst h
      simp [rep, hq]
    · simp only [fi, hq, if_false, Bool.false_eq_true] at h
      rw [fi_shift] at h
      obtain ⟨j', h1, h2⟩ := Option.map_eq_some_iff.1 h
      subst h2
      simp only [rep, hq, if_false, Bool.false_eq_true, List.set_cons_succ]
      rw [rep_set q p r j' h1]
theorem ins_at (q : S34 → Bool) (p : S34) : ∀ (l : List S34), ins q p l = match fi q l 0 with | some j => l.take j ++ [p] ++ l.drop j | none => l ++ [p]
  | [] => rfl
  | x :: r => by
    by_cases hq : q x = true
    · simp [ins, fi, hq]
    · simp only [ins, fi, hq, if_false, Bool.false_eq_true]
      rw [fi_shift, ins_at q p r]
      cases fi q r 0 <;> simp
theorem sk_none : ∀ (l : List S34) (i : Nat), sk (-1) l i = l
  | [], _ => rfl
  | x :: r, i => by rw [sk, if_neg (by omega), sk_none r]
theorem sk_past (g : Int) : ∀ (l : List S34) (i : Nat), g < i → sk g l i = l
  | [], _, _ => rfl
  | x :: r, i, h => by rw [sk, if_neg (by omega), sk_past g r (i + 1) (by omega)]
theorem sk_at : ∀ (l : List S34) (i g : Nat), i ≤ g → sk (g : Int) l i = l.take (g - i) ++ l.drop (g - i + 1)
  | [], _, _, _ => by simp [sk]
  | x :: r, i, g, h => by
    by_cases he : i = g
    · subst he
      rw [sk, if_pos rfl, sk_past _ _ _ (by omega)]
      simp
    · rw [sk, if_neg (by omega), sk_at r (i + 1) g (by omega), show g - i = (g - (i + 1)) + 1 by omega]
      simp
theorem am_lt (l : List S34) : ∀ (r : List S34) (i b : Nat), l.drop i = r → b < l.length → am l r i b < l.length
  | [], _, _, _, h => h
  | x :: r, i, b, hd, h => by
    obtain ⟨hi, _, hr⟩ := drop_at hd
    exact am_lt l r (i + 1) _ hr (by split <;> omega)
/-! ### Addresses in order -/
def gt (a : S25) (x : S34) : Bool := decide (cmp x.f0 a > 0)
end Go.Proofs.Ytgkpinecggoilaa.Ma
